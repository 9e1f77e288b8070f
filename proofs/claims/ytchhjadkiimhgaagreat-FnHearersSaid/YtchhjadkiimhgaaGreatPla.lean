/- The plain law: no program in sight -/
import Derived.Test.YtchhjadkiimhgaaGreatSca
set_option linter.unusedVariables false
set_option linter.unusedSimpArgs false
set_option maxHeartbeats 2000000
namespace Go.Dx
namespace CL
abbrev TN:=Int×Int×Int
abbrev TC:=(Int×Int)×Int
abbrev TR:=Int×Int×List TC
abbrev TV:=Int×Int×Int×(Int×Int)×Int
abbrev TQ:=List Int×Int
abbrev TK:=TQ×List Int×List TN×List TR×List TV×List (List Int)
def mIn (v lo hi:Int):Bool:=decide (lo≤v)&&decide (v≤hi)
theorem P_spec_l1In (v lo hi:Int):F_spec_l1In v lo hi=some (mIn v lo hi):=by
 unfold F_spec_l1In mIn
 cases decide (lo≤v)<;>rfl
theorem P_impl_within (v lo hi:Int):F_impl_within v lo hi=some (mIn v lo hi):=by
 unfold F_impl_within mIn
 cases decide (lo≤v)<;>rfl
theorem P_spec_l1Key (v:Int):F_spec_l1Key v=some (mIn v 1 999):=by unfold F_spec_l1Key;rw[P_spec_l1In];rfl
theorem P_impl_isKey (v:Int):F_impl_isKey v=some (mIn v 1 999):=by unfold F_impl_isKey;rw[P_impl_within];rfl
theorem P_impl_isId (v:Int):F_impl_isId v=some (mIn v 1 60):=by unfold F_impl_isId;rw[P_impl_within];rfl
theorem P_spec_l11Tx (v:Int):F_spec_l11Tx v=some (mIn v 1 60):=by unfold F_spec_l11Tx;rw[P_spec_l1In];rfl
def mRef (r:Int×Int):Bool:=mIn r.1 1 60&&mIn r.2 0 3
theorem P_impl_isRef (r:Int×Int):F_impl_isRef r=some (mRef r):=by
 unfold F_impl_isRef mRef;rw[P_impl_isId,P_impl_within];cases mIn r.1 1 60<;>rfl
theorem P_spec_l3Ref (r:Int×Int):F_spec_l3Ref r=some (mRef r):=by
 unfold F_spec_l3Ref mRef;rw[P_spec_l1In,P_spec_l1In];cases mIn r.1 1 60<;>rfl
theorem P_IndexFunc_int (l:List Int) (hl:l.length<BIG) (p:Int→Bool) (f:Int→Option Bool) (hf:∀a,a ∈ l→f a=some (p a)):F_slices_IndexFunc_Lint64_int64 l f=some (idxF p l):=by
 unfold F_slices_IndexFunc_Lint64_int64
 refine loop_idx l p _ (fun i h=>?_) (by simp only[dge,cond_false])
 simp only[dlt h,inB_nat l i h,getD_toNat l i _ h,cond_true,hf _ (List.getElem_mem h),Option.bind_some,wsucc h hl]
 cases p l[i]<;>rfl
theorem P_IndexFunc_node (l:List TN) (hl:l.length<BIG) (p:TN→Bool) (f:TN→Option Bool) (hf:∀a,a ∈ l→f a=some (p a)):F_slices_IndexFunc_Limpl_Node_impl_Node l f=some (idxF p l):=by
 unfold F_slices_IndexFunc_Limpl_Node_impl_Node
 refine loop_idx l p _ (fun i h=>?_) (by simp only[dge,cond_false])
 simp only[dlt h,inB_nat l i h,getD_toNat l i _ h,cond_true,hf _ (List.getElem_mem h),Option.bind_some,wsucc h hl]
 cases p l[i]<;>rfl
theorem P_IndexFunc_voter (l:List TR) (hl:l.length<BIG) (p:TR→Bool) (f:TR→Option Bool) (hf:∀a,a ∈ l→f a=some (p a)):F_slices_IndexFunc_Limpl_Voter_impl_Voter l f=some (idxF p l):=by
 unfold F_slices_IndexFunc_Limpl_Voter_impl_Voter
 refine loop_idx l p _ (fun i h=>?_) (by simp only[dge,cond_false])
 simp only[dlt h,inB_nat l i h,getD_toNat l i _ h,cond_true,hf _ (List.getElem_mem h),Option.bind_some,wsucc h hl]
 cases p l[i]<;>rfl
theorem P_IndexFunc_choice (l:List TC) (hl:l.length<BIG) (p:TC→Bool) (f:TC→Option Bool) (hf:∀a,a ∈ l→f a=some (p a)):F_slices_IndexFunc_Limpl_Choice_impl_Choice l f=some (idxF p l):=by
 unfold F_slices_IndexFunc_Limpl_Choice_impl_Choice
 refine loop_idx l p _ (fun i h=>?_) (by simp only[dge,cond_false])
 simp only[dlt h,inB_nat l i h,getD_toNat l i _ h,cond_true,hf _ (List.getElem_mem h),Option.bind_some,wsucc h hl]
 cases p l[i]<;>rfl
theorem P_ContainsFunc_int (l:List Int) (hl:l.length<BIG) (p:Int→Bool) (f:Int→Option Bool) (hf:∀a,a ∈ l→f a=some (p a)):F_slices_ContainsFunc_Lint64_int64 l f=some (l.any p):=by
 unfold F_slices_ContainsFunc_Lint64_int64
 rw[P_IndexFunc_int l hl p f hf,Option.bind_some,idxF_nonneg]
theorem P_ContainsFunc_choice (l:List TC) (hl:l.length<BIG) (p:TC→Bool) (f:TC→Option Bool) (hf:∀a,a ∈ l→f a=some (p a)):F_slices_ContainsFunc_Limpl_Choice_impl_Choice l f=some (l.any p):=by
 unfold F_slices_ContainsFunc_Limpl_Choice_impl_Choice
 rw[P_IndexFunc_choice l hl p f hf,Option.bind_some,idxF_nonneg]
theorem any_eq {α:Type} [DecidableEq α] (x:α) (l:List α):l.any (fun a=>decide (x=a))=decide (x ∈ l):=by
 rw[Bool.eq_iff_iff];simp
theorem any_eq' {α:Type} [DecidableEq α] (x:α) (l:List α):l.any (fun a=>decide (a=x))=decide (x ∈ l):=by
 rw[Bool.eq_iff_iff];simp
theorem P_Index_int (l:List Int) (hl:l.length<BIG) (x:Int):F_slices_Index_Lint64_int64 l x=some (idxF (fun a=>decide (x=a)) l):=by
 unfold F_slices_Index_Lint64_int64
 refine loop_idx l _ _ (fun i h=>?_) (by simp only[dge,cond_false])
 simp only[dlt h,inB_nat l i h,getD_toNat l i _ h,cond_true,wsucc h hl]
 cases decide (x=l[i])<;>rfl
theorem P_Contains_int (l:List Int) (hl:l.length<BIG) (x:Int):F_slices_Contains_Lint64_int64 l x=some (decide (x ∈ l)):=by
 unfold F_slices_Contains_Lint64_int64
 rw[P_Index_int l hl,Option.bind_some,idxF_nonneg,any_eq]
theorem beqV (a b:TV):Sh.beq (.prod (.int .i64) (.prod (.int .i64) (.prod (.int .i64) (.prod (.prod (.int .i64) (.int .i64)) (.int .i64))))) a b=decide (a=b):=by
 obtain⟨a1,a2,a3,⟨a4,a5⟩,a6⟩:=a;obtain⟨b1,b2,b3,⟨b4,b5⟩,b6⟩:=b
 rw[Bool.eq_iff_iff];simp[Sh.beq,and_assoc]
theorem P_Index_vote (l:List TV) (hl:l.length<BIG) (x:TV):F_slices_Index_Limpl_Vote_impl_Vote l x=some (idxF (fun a=>decide (x=a)) l):=by
 unfold F_slices_Index_Limpl_Vote_impl_Vote
 refine loop_idx l _ _ (fun i h=>?_) (by simp only[dge,cond_false])
 simp only[dlt h,inB_nat l i h,getD_toNat l i _ h,cond_true,wsucc h hl,beqV]
 cases decide (x=l[i])<;>rfl
theorem P_Contains_vote (l:List TV) (hl:l.length<BIG) (x:TV):F_slices_Contains_Limpl_Vote_impl_Vote l x=some (decide (x ∈ l)):=by
 unfold F_slices_Contains_Limpl_Vote_impl_Vote
 rw[P_Index_vote l hl,Option.bind_some,idxF_nonneg,any_eq]
 exact congrArg some (decide_eq_decide.2 Iff.rfl)
theorem agree_self {R:Type} (a:Option R):agree a a=a:=by unfold agree;simp
theorem P_Clone_int (l:List Int) (hl:l.length≤LIM):F_slices_Clone_Lint64_int64 l=some l:=by
 unfold F_slices_Clone_Lint64_int64
 cases l with
 | nil=>exact agree_self _
 | cons a l=>
  simp only[List.isEmpty_cons,cond_false]
  rw[show decide (List.length ([]:List Int)+List.length (a::l)≤LIM)=true by simpa using hl];rfl
theorem P_Clone_node (l:List TN) (hl:l.length≤LIM):F_slices_Clone_Limpl_Node_impl_Node l=some l:=by
 unfold F_slices_Clone_Limpl_Node_impl_Node
 cases l with
 | nil=>exact agree_self _
 | cons a l=>
  simp only[List.isEmpty_cons,cond_false]
  rw[show decide (List.length ([]:List TN)+List.length (a::l)≤LIM)=true by simpa using hl];rfl
theorem P_Clone_vote (l:List TV) (hl:l.length≤LIM):F_slices_Clone_Limpl_Vote_impl_Vote l=some l:=by
 unfold F_slices_Clone_Limpl_Vote_impl_Vote
 cases l with
 | nil=>exact agree_self _
 | cons a l=>
  simp only[List.isEmpty_cons,cond_false]
  rw[show decide (List.length ([]:List TV)+List.length (a::l)≤LIM)=true by simpa using hl];rfl
theorem P_Clone_choice (l:List TC) (hl:l.length≤LIM):F_slices_Clone_Limpl_Choice_impl_Choice l=some l:=by
 unfold F_slices_Clone_Limpl_Choice_impl_Choice
 cases l with
 | nil=>exact agree_self _
 | cons a l=>
  simp only[List.isEmpty_cons,cond_false]
  rw[show decide (List.length ([]:List TC)+List.length (a::l)≤LIM)=true by simpa using hl];rfl
theorem LIM_BIG {n:Nat} (h:n≤LIM):n<BIG:=by unfold LIM at h;unfold BIG;omega
theorem P_impl_areKeys (l:List Int) (hl:l.length<BIG):F_impl_areKeys l=some (l.all fun k=>mIn k 1 999):=by
 unfold F_impl_areKeys
 rw[P_ContainsFunc_int l hl (fun k=>!mIn k 1 999) _ (fun a _=>by unfold F_impl_areKeys_c1;rw[P_impl_isKey];rfl),Option.bind_some]
 rw[List.all_eq_not_any_not]
def mRising (l:List Int):Bool:=(List.range (l.length - 1)).all fun i=>decide (List.getD l i 0<List.getD l (i+1) 0)
theorem loop_rising {β:Type} (l:List Int) (hl:l.length<BIG) (r:β) (f:Int→Option (Int⊕(Unit⊕β)))
  (hs:∀(i:Nat),i+1<l.length→f ((i+1:Nat):Int)=some (if List.getD l (i+1) 0≤List.getD l i 0 then .inr (.inr r) else .inl ((i+2:Nat):Int))) (he:∀n:Nat,l.length≤n→f (n:Int)=some (.inr (.inl ()))) :
  loopO f 1=some (if mRising l then .inl () else .inr r):=by
 have key:∀(k i:Nat),i+k=l.length - 1→loopO f ((i+1:Nat):Int)=some (if (List.range' i k).all (fun i=>decide (List.getD l i 0<List.getD l (i+1) 0)) then .inl () else .inr r):=by
  intro k
  induction k with
  | zero=>intro i hi;rw[loopO_out (he _ (by omega))];simp
  | succ k ih=>
   intro i hi
   have hs:=hs i (by omega)
   rw[List.range'_succ,List.all_cons]
   by_cases hc:List.getD l (i+1) 0≤List.getD l i 0
   ·rw[if_pos hc] at hs
    rw[loopO_out hs,decide_eq_false (p:=List.getD l i 0<List.getD l (i+1) 0) (by omega)];rfl
   ·rw[if_neg hc] at hs
    rw[loopO_next hs,ih (i+1) (by omega),decide_eq_true (p:=List.getD l i 0<List.getD l (i+1) 0) (by omega),Bool.true_and]
 have:=key (l.length - 1) 0 (by omega)
 rw[←List.range_eq_range'] at this
 exact this
theorem rising_step (l:List Int) (hl:l.length<BIG) (i:Nat) (h:i+1<l.length):decide (((i+1:Nat):Int)<(l.length:Int))=true∧inB ((i+1:Nat):Int) l=true∧inB (IntKind.wrap .i64 (((i+1:Nat):Int) - 1)) l=true∧
  List.getD l (Int.toNat ((i+1:Nat):Int)) 0=List.getD l (i+1) 0∧List.getD l (Int.toNat (IntKind.wrap .i64 (((i+1:Nat):Int) - 1))) 0=List.getD l i 0∧IntKind.wrap .i64 (((i+1:Nat):Int)+1)=((i+2:Nat):Int):=by
 rw[wpred (i:=i) (n:=l.length) (by omega) hl]
 exact⟨dlt h,inB_nat l _ h,inB_nat l _ (by omega),by simp,by simp,wsucc h hl⟩
theorem dge' {i n:Nat} (h:n≤i):decide ((i:Int)<(n:Int))=false:=by simp;omega
theorem P_impl_isRising (l:List Int) (hl:l.length<BIG):F_impl_isRising l=some (mRising l):=by
 unfold F_impl_isRising
 rw[loop_rising l hl false _ (fun i h=>by
  obtain⟨h1,h2,h3,h4,h5,h6⟩:=rising_step l hl i h
  simp only[h1,h2,h3,h4,h5,h6,cond_true]
  by_cases hc:List.getD l (i+1) 0≤List.getD l i 0
  ·rw[if_pos hc,decide_eq_true hc];rfl
  ·rw[if_neg hc,decide_eq_false hc];rfl) (fun n hn=>by simp only[dge' hn,cond_false]),Option.bind_some]
 cases mRising l<;>rfl
def mQF (q:TQ):Int:=if mIn (q.1.length:Int) 1 8 then (if (q.1.all fun k=>mIn k 1 999)&&mIn q.2 1 (q.1.length:Int) then (if mRising q.1 then 0 else 1) else 3) else 2
theorem P_impl_QuorumFault (q:TQ) (hl:q.1.length<BIG):F_impl_QuorumFault q=some (mQF q):=by
 unfold F_impl_QuorumFault mQF
 simp only[P_impl_within,P_impl_areKeys _ hl,P_impl_isRising _ hl,Option.bind_some]
 cases mIn (q.1.length:Int) 1 8<;>cases (q.1.all fun k=>mIn k 1 999)<;>cases mIn q.2 1 (q.1.length:Int)<;>cases mRising q.1<;>rfl
theorem keys_loop {β:Type} (l:List Int) (hl:l.length<BIG) (r:β) (f:Int→Option (Int⊕(Unit⊕β)))
  (hs:∀(i:Nat) (h:i<l.length),f (i:Int)=some (if mIn l[i] 1 999 then .inl ((i+1:Nat):Int) else .inr (.inr r))) (he:f (l.length:Int)=some (.inr (.inl ()))) :
  loopO f 0=some (if (l.all fun k=>mIn k 1 999) then .inl () else .inr r):=by
 rw[loop_first l (fun _ a=>if !mIn a 1 999 then some r else none) f (fun i h=>by rw[hs i h];cases mIn l[i] 1 999<;>rfl) he,first_any,List.all_eq_not_any_not]
 cases l.any fun x=>!mIn x 1 999<;>rfl
theorem P_spec_l10Fault (q:TQ) (hl:q.1.length<BIG):F_spec_l10Fault q=some (mQF q):=by
 unfold F_spec_l10Fault mQF
 simp only[P_spec_l1In,Option.bind_some]
 rw[keys_loop q.1 hl 3 _ (fun i h=>by
  simp only[dlt h,inB_nat q.1 i h,getD_toNat q.1 i _ h,cond_true,P_spec_l1Key,Option.bind_some,wsucc h hl]
  cases mIn q.1[i] 1 999<;>rfl) (by simp only[dge,cond_false]),Option.bind_some]
 cases mIn (q.1.length:Int) 1 8 with
 | false=>rfl
 | true=>
  cases (q.1.all fun k=>mIn k 1 999) with
  | false=>rfl
  | true=>
   cases mIn q.2 1 (q.1.length:Int) with
   | false=>rfl
   | true=>
    simp only[Bool.not_true,cond_false,if_true,Sum.elim_inl,Bool.true_and]
    rw[loop_rising q.1 hl 1 _ (fun i h=>by
     obtain⟨h1,h2,h3,h4,h5,h6⟩:=rising_step q.1 hl i h
     simp only[h1,h2,h3,h4,h5,h6,cond_true]
     by_cases hc:List.getD q.1 (i+1) 0≤List.getD q.1 i 0
     ·rw[if_pos hc,decide_eq_true hc];rfl
     ·rw[if_neg hc,decide_eq_false hc];rfl) (fun n hn=>by simp only[dge' hn,cond_false]),Option.bind_some]
    cases mRising q.1<;>rfl
def mBF (l:List Int):Int:=if (l.all fun k=>mIn k 1 999) then (if mRising l then 0 else 1) else 3
theorem P_impl_badFault (l:List Int) (hl:l.length<BIG):F_impl_badFault l=some (mBF l):=by
 unfold F_impl_badFault mBF
 simp only[P_impl_areKeys _ hl,P_impl_isRising _ hl,Option.bind_some]
 cases (l.all fun k=>mIn k 1 999)<;>cases mRising l<;>rfl
theorem P_spec_l12Bad (l:List Int) (hl:l.length<BIG):F_spec_l12Bad l=some (mBF l):=by
 unfold F_spec_l12Bad mBF
 rw[keys_loop l hl 3 _ (fun i h=>by
  simp only[dlt h,inB_nat l i h,getD_toNat l i _ h,cond_true,P_spec_l1Key,Option.bind_some,wsucc h hl]
  cases mIn l[i] 1 999<;>rfl) (by simp only[dge,cond_false]),Option.bind_some]
 cases (l.all fun k=>mIn k 1 999) with
 | false=>rfl
 | true=>
  simp only[if_true,Sum.elim_inl]
  rw[loop_rising l hl 1 _ (fun i h=>by
   obtain⟨h1,h2,h3,h4,h5,h6⟩:=rising_step l hl i h
   simp only[h1,h2,h3,h4,h5,h6,cond_true]
   by_cases hc:List.getD l (i+1) 0≤List.getD l i 0
   ·rw[if_pos hc,decide_eq_true hc];rfl
   ·rw[if_neg hc,decide_eq_false hc];rfl) (fun n hn=>by simp only[dge' hn,cond_false]),Option.bind_some]
  cases mRising l<;>rfl
end CL
end Go.Dx
set_option maxHeartbeats 2000000
namespace Go.Dx
namespace CL
theorem getD_nat {α:Type} (l:List α) (i:Nat) (d:α) (h:i<l.length):List.getD l i d=l[i]:=by simp[List.getD_eq_getElem?_getD,List.getElem?_eq_getElem h]
theorem P_DeleteFunc_int (l:List Int) (hl:l.length<BIG) (p:Int→Bool) (f:Int→Option Bool) (hf:∀a,a ∈ l→f a=some (p a)):F_slices_DeleteFunc_Lint64_int64 l f=some (l.filter fun a=>!p a):=by
 unfold F_slices_DeleteFunc_Lint64_int64
 rw[P_IndexFunc_int l hl p f hf,Option.bind_some]
 cases hany:l.any p with
 | false=>
  have h1:idxF p l<0:=(idxF_neg p l).2 hany
  have h2:idxF p l = -1:=by
   rw[idxF_eq] at h1 ⊢
   cases hfi:List.findIdx? p l with
   | none=>rfl
   | some k=>rw[hfi] at h1;simp only at h1;omega
  rw[h2]
  simp only[decide_true,cond_true]
  congr 1
  symm
  rw[List.filter_eq_self]
  intro a ha
  rw[List.any_eq_false] at hany
  simpa using hany a ha
 | true=>
  obtain⟨k,hk,hidx,hpk,hlt⟩:=idxF_found hany
  rw[hidx]
  have hne:decide ((k:Int) = -1)=false:=decide_eq_false (by omega)
  rw[hne,cond_false,wsucc hk hl]
  have key:∀(n i j:Nat) (acc:List Int),j+n=l.length→acc.length=l.length→i<j→acc.take i=(l.take j).filter (fun a=>!p a)→acc.drop j=l.drop j→
    ∃(acc':List Int) (i':Nat),loopO (S:=List Int×Int×Int) (X:=List Int×Int) (fun (s15:List Int×Int×Int)=>
     bif (decide ((s15.2.2:Int)<(List.length s15.1:Int))) then
     bif (inB s15.2.2 s15.1) then
     (f (List.getD s15.1 (Int.toNat s15.2.2) 0)).bind fun (y16:Bool)=>
     (bif (!y16) then
     bif (inB s15.2.1 s15.1) then
     some (List.set s15.1 (Int.toNat s15.2.1) (List.getD s15.1 (Int.toNat s15.2.2) 0),IntKind.wrap .i64 (s15.2.1+1))
     else none
     else
     some (s15.1,s15.2.1):Option (List Int×Int)).bind fun (j17:List Int×Int)=>
     some (Sum.inl (j17.1,(j17.2,IntKind.wrap .i64 (s15.2.2+1))))
     else none
     else
     some (Sum.inr (s15.1,s15.2.1))) (acc,((i:Int),(j:Int)))=some (acc',(i':Int))∧acc'.length=l.length∧i'≤l.length∧acc'.take i'=l.filter (fun a=>!p a):=by
   intro n
   induction n with
   | zero=>
    intro i j acc hj hacc hij ht hd
    obtain rfl:j=l.length:=by omega
    refine⟨acc,i,loopO_out ?_,hacc,by omega,by rw[ht,List.take_length]⟩
    simp only[hacc,dge,cond_false]
   | succ n ih=>
    intro i j acc hj hacc hij ht hd
    have hjl:j<l.length:=by omega
    have hja:j<acc.length:=by omega
    have hel:acc[j]=l[j]:=by
     have h1:=List.drop_eq_getElem_cons hja
     have h2:=List.drop_eq_getElem_cons hjl
     rw[h1,h2] at hd
     exact (List.cons.inj hd).1
    have hdn:acc.drop (j+1)=l.drop (j+1):=by
     have h1:=List.drop_eq_getElem_cons hja
     have h2:=List.drop_eq_getElem_cons hjl
     rw[h1,h2] at hd
     exact (List.cons.inj hd).2
    have hstep:l.take (j+1)=l.take j++[l[j]]:=(List.take_append_getElem hjl).symm
    cases hp:p l[j] with
    | true=>
     obtain⟨acc',i',h1,h2⟩:=ih i (j+1) acc (by omega) hacc (by omega) (by rw[hstep,List.filter_append,ht];simp[hp]) hdn
     refine⟨acc',i',(loopO_next ?_).trans h1,h2⟩
     simp only[dlt hja,inB_nat acc j hja,getD_toNat acc j _ hja,cond_true,hel,hf _ (List.getElem_mem hjl),hp,Option.bind_some,Bool.not_true,cond_false,wsucc hjl hl]
    | false=>
     have hia:i<acc.length:=by omega
     obtain⟨acc',i',h1,h2⟩:=ih (i+1) (j+1) (acc.set i l[j]) (by omega) (by simpa using hacc) (by omega) (by
      rw[hstep,List.filter_append,←ht]
      simp only[List.filter_cons,hp,Bool.not_false,if_true,List.filter_nil]
      rw[List.take_set,←List.take_append_getElem hia,List.set_append_right _ _ (by simp;omega)]
      simp[Nat.min_eq_left (Nat.le_of_lt hia)]) (by rw[List.drop_set_of_lt (by omega)];exact hdn)
     refine⟨acc',i',(loopO_next ?_).trans h1,h2⟩
     simp only[dlt hja,inB_nat acc j hja,inB_nat acc i hia,Int.toNat_natCast,getD_nat acc j _ hja,cond_true,hel,hf _ (List.getElem_mem hjl),hp,Option.bind_some,Bool.not_false,wsucc hjl hl,wsucc (i:=i) (n:=l.length) (by omega) hl]
  obtain⟨acc',i',h1,h2,h3,h4⟩:=key (l.length - (k+1)) k (k+1) l (by omega) rfl (by omega) (by
   symm
   rw[←List.take_append_getElem hk,List.filter_append]
   simp only[List.filter_cons,hpk,Bool.not_true,Bool.false_eq_true,if_false,List.filter_nil,List.append_nil]
   rw[List.filter_eq_self]
   intro a ha
   obtain⟨j,hj,rfl⟩:=List.getElem_of_mem ha
   simp only[List.length_take] at hj
   rw[List.getElem_take]
   simpa using hlt j (by omega)) rfl
  rw[h1,Option.bind_some]
  have c1:cutOk (i':Int) (acc'.length:Int) acc'=true:=by simp[cutOk,h2];omega
  have c2:cutOk 0 (i':Int) (clr (s:=.int .i64) (i':Int) (acc'.length:Int) acc')=true:=by
   simp only[cutOk,Bool.and_eq_true,decide_eq_true_eq]
   refine⟨⟨by omega,by omega⟩,?_⟩
   show (i':Int)≤((List.take (Int.toNat i') acc'++(List.replicate (((acc'.length:Int) - i').toNat) (0:Int)++List.drop (Int.toNat (acc'.length:Int)) acc')).length:Int)
   simp;omega
  simp only[c1,c2,cond_true]
  congr 1
  show List.take (Int.toNat ((i':Int) - 0)) (List.drop (Int.toNat 0) (List.take (Int.toNat i') acc'++(List.replicate (((acc'.length:Int) - i').toNat) (0:Int)++List.drop (Int.toNat (acc'.length:Int)) acc')))=_
  simp only[Int.sub_zero,Int.toNat_natCast,show Int.toNat 0=0 from rfl,List.drop_zero]
  rw[List.take_append_of_le_length (by simp;omega),List.take_take,Nat.min_self,h4]
theorem P_spec_l4Among (l:List Int) (hl:l.length<BIG) (x:Int):F_spec_l4Among l x=some (decide (x ∈ l)):=by
 unfold F_spec_l4Among
 rw[←any_eq']
 refine loop_any l _ _ (fun i h=>?_) (by simp only[dge,cond_false])
 simp only[dlt h,inB_nat l i h,getD_toNat l i _ h,cond_true,wsucc h hl]
 cases decide (l[i]=x)<;>rfl
def mGood (q:TQ) (bad:List Int):List Int:=q.1.filter fun k=>!decide (k ∈ bad)
theorem P_impl_goodKeys (q:TQ) (bad:List Int) (hl:q.1.length≤LIM) (hb:bad.length<BIG):F_impl_goodKeys q bad=some (mGood q bad):=by
 unfold F_impl_goodKeys mGood
 rw[P_Clone_int _ hl,Option.bind_some,P_DeleteFunc_int q.1 (LIM_BIG hl) (fun k=>decide (k ∈ bad)) _ (fun a _=>by unfold F_impl_goodKeys_c1;rw[P_Contains_int bad hb];rfl)]
 rfl
theorem P_spec_l12Good (q:TQ) (bad:List Int) (hl:q.1.length<LIM) (hb:bad.length<BIG):F_spec_l12Good q bad=some (mGood q bad):=by
 unfold F_spec_l12Good mGood
 have hB:q.1.length<BIG:=LIM_BIG (Nat.le_of_lt hl)
 rw[loop_fold q.1 (fun acc k=>if !decide (k ∈ bad) then acc++[k] else acc) (fun t i=>(t,i)) (fun t=>t) (fun t i=>t.length≤i) _ (fun i h t ht=>?_) (fun t ht=>by simp only[dge,cond_false]) ([]:List Int) (by simp),foldl_filter]
 ·rfl
 ·have h1:=append_one_lim t q.1[i] i ht (by omega)
  simp only[dlt h,inB_nat q.1 i h,getD_toNat q.1 i _ h,cond_true,P_spec_l4Among bad hb,Option.bind_some,wsucc h hB,h1]
  cases decide (q.1[i] ∈ bad)
  ·exact⟨rfl,by simp;omega⟩
  ·exact⟨rfl,by simp;omega⟩
end CL
end Go.Dx
set_option maxHeartbeats 2000000
namespace Go.Dx
namespace CL
def idT (t:List TN) (id:Int):Int:=idxF (fun n=>decide (n.1=id)) t
theorem P_impl_findNode (t:List TN) (ht:t.length<BIG) (id:Int):F_impl_findNode t id=some (idT t id):=by
 unfold F_impl_findNode idT
 rw[P_IndexFunc_node t ht (fun n=>decide (n.1=id)) _ (fun a _=>by unfold F_impl_findNode_c1;rfl)]
 rfl
theorem P_spec_l9At (t:List TN) (ht:t.length<BIG) (id:Int):F_spec_l9At t id=some (idT t id):=by
 unfold F_spec_l9At idT
 refine loop_idx t _ _ (fun i h=>?_) (by simp only[dge,cond_false])
 simp only[dlt h,inB_nat t i h,getD_toNat t i _ h,cond_true,wsucc h ht]
 cases decide (t[i].1=id)<;>rfl
theorem idT_inB {t:List TN} {id:Int} (h:¬idT t id<0):inB (idT t id) t=true:=idxF_inB (by unfold idT at h;omega)
theorem nonneg_dec (x:Int):decide (0≤x) = !decide (x<0):=by
 by_cases h:x<0
 ·rw[decide_eq_true h,decide_eq_false (by omega)];rfl
 ·rw[decide_eq_false h,decide_eq_true (by omega)];rfl
def mNode (t:List TN) (n:TN):Int:=
 if mIn n.1 1 60&&mIn n.2.2 1 40 then
  if idT t n.1<0 then
   if n.2.1=0 then (if n.2.2=1 then 0 else 1)
   else if idT t n.2.1<0 then 4 else if n.2.2=IntKind.wrap .i64 ((List.getD t (Int.toNat (idT t n.2.1)) (0,(0,0))).2.2+1) then 0 else 1
  else 7
 else 3
theorem P_impl_nodeFault (t:List TN) (ht:t.length<BIG) (n:TN):F_impl_nodeFault t n=some (mNode t n):=by
 unfold F_impl_nodeFault mNode
 simp only[P_impl_findNode t ht,P_impl_isId,P_impl_within,Option.bind_some,nonneg_dec]
 by_cases hp:n.2.1=0
 ·simp only[hp,decide_true,Bool.not_true,cond_false,Option.bind_some,if_true]
  cases mIn n.1 1 60<;>cases mIn n.2.2 1 40<;>by_cases h1:idT t n.1<0<;>by_cases h2:n.2.2=1<;>simp[h1,h2]
 ·simp only[hp,decide_false,Bool.not_false,cond_true,Option.bind_some,if_false]
  by_cases hq:idT t n.2.1<0
  ·simp only[hq,decide_true,Bool.not_true,cond_false,Option.bind_some,if_true]
   cases mIn n.1 1 60<;>cases mIn n.2.2 1 40<;>by_cases h1:idT t n.1<0<;>simp[h1]
  ·simp only[hq,decide_false,Bool.not_false,cond_true,idT_inB hq,Option.bind_some,if_false]
   generalize IntKind.wrap .i64 ((List.getD t (Int.toNat (idT t n.2.1)) (0,(0,0))).2.2+1)=hh
   cases mIn n.1 1 60<;>cases mIn n.2.2 1 40<;>by_cases h1:idT t n.1<0<;>by_cases h2:n.2.2=hh<;>simp[h1,h2]
theorem P_spec_l9Node (t:List TN) (ht:t.length<BIG) (n:TN):F_spec_l9Node t n=some (mNode t n):=by
 unfold F_spec_l9Node mNode
 simp only[P_spec_l9At t ht,P_spec_l1In,Option.bind_some,nonneg_dec]
 by_cases hp:n.2.1=0
 ·simp only[hp,decide_true,Bool.not_true,cond_false,Option.bind_some,if_true,Sum.elim_inl,show IntKind.wrap .i64 ((0:Int)+1)=1 from by decide]
  cases mIn n.1 1 60<;>cases mIn n.2.2 1 40<;>by_cases h1:idT t n.1<0<;>by_cases h2:n.2.2=1<;>simp[h1,h2]
 ·simp only[hp,decide_false,Bool.not_false,cond_true,Option.bind_some,if_false]
  by_cases hq:idT t n.2.1<0
  ·simp only[hq,decide_true,cond_true,Option.bind_some,Sum.elim_inr,if_true]
   cases mIn n.1 1 60<;>cases mIn n.2.2 1 40<;>by_cases h1:idT t n.1<0<;>simp[h1]
  ·simp only[hq,decide_false,cond_false,cond_true,idT_inB hq,Option.bind_some,Sum.elim_inl,if_false]
   generalize IntKind.wrap .i64 ((List.getD t (Int.toNat (idT t n.2.1)) (0,(0,0))).2.2+1)=hh
   cases mIn n.1 1 60<;>cases mIn n.2.2 1 40<;>by_cases h1:idT t n.1<0<;>by_cases h2:n.2.2=hh<;>simp[h1,h2]
def mTree (t:List TN):Int:=if (60:Int)<(t.length:Int) then 2 else code (fun i n=>mNode (t.take i) n) t
theorem take_BIG {α:Type} {l:List α} (hl:l.length<BIG) (i:Nat):(l.take i).length<BIG:=by rw[List.length_take];omega
theorem P_impl_TreeFault (t:List TN) (ht:t.length<BIG):F_impl_TreeFault t=some (mTree t):=by
 unfold F_impl_TreeFault mTree
 by_cases hl:(60:Int)<(t.length:Int)
 ·simp only[hl,decide_true,cond_true,if_true]
 ·simp only[hl,decide_false,cond_false,if_false]
  refine loop_code t _ _ (fun i h=>?_) (by simp only[dge,cond_false])
  simp only[dlt h,inB_nat t i h,cutOk_nat t i (Nat.le_of_lt h),cut_nat,getD_toNat t i _ h,cond_true,P_impl_nodeFault _ (take_BIG ht i),Option.bind_some,wsucc h ht,bif_code]
  split<;>rfl
theorem P_spec_l9Fault (t:List TN) (ht:t.length<BIG):F_spec_l9Fault t=some (mTree t):=by
 unfold F_spec_l9Fault mTree
 by_cases hl:(60:Int)<(t.length:Int)
 ·simp only[hl,decide_true,cond_true,if_true]
 ·simp only[hl,decide_false,cond_false,if_false]
  refine loop_code t _ _ (fun i h=>?_) (by simp only[dge,cond_false])
  simp only[dlt h,inB_nat t i h,cutOk_nat t i (Nat.le_of_lt h),cut_nat,getD_toNat t i _ h,cond_true,P_spec_l9Node _ (take_BIG ht i),Option.bind_some,wsucc h ht,bif_code]
  split<;>rfl
structure Right (t:List TN):Prop where
 len:t.length≤60
 id:∀i (h:i<t.length),1≤t[i].1
 prev:∀i (h:i<t.length),t[i].2.1 ≠ 0→∃j,∃(hj:j<i),(t[j]'(by omega)).1=t[i].2.1
theorem right_of {t:List TN} (h:mTree t=0):Right t:=by
 unfold mTree at h
 by_cases hl:(60:Int)<(t.length:Int)
 ·rw[if_pos hl] at h;cases h
 ·rw[if_neg hl] at h
  have hc:=code_zero h
  refine⟨by omega,fun i hi=>?_,fun i hi hp=>?_⟩
  ·have:=hc i _ (List.getElem?_eq_getElem hi)
   unfold mNode at this
   split at this
   ·rename_i hh
    simp only[Bool.and_eq_true,mIn,decide_eq_true_eq] at hh
    exact hh.1.1
   ·cases this
  ·have:=hc i _ (List.getElem?_eq_getElem hi)
   unfold mNode at this
   split at this
   ·split at this
    ·(try rw[if_neg hp] at this)
     split at this
     ·cases this
     ·rename_i hq
      unfold idT at hq
      have hany:(t.take i).any (fun n=>decide (n.1=t[i].2.1))=true:=by
       rw[←idxF_nonneg];simp;omega
      obtain⟨k,hk,_,hkk,_⟩:=idxF_found hany
      simp only[List.length_take] at hk
      rw[List.getElem_take] at hkk
      exact⟨k,by omega,by simpa using hkk⟩
    ·cases this
   ·cases this
def up (t:List TN):Nat→Int→List Int
 | 0,_=>[]
 | n+1,b=>if idT t b<0 then [] else b::up t n (List.getD t (Int.toNat (idT t b)) (0,(0,0))).2.1
theorem up_len (t:List TN):∀n b,(up t n b).length≤n
 | 0,b=>by simp[up]
 | n+1,b=>by
  unfold up
  split
  ·simp
  ·simp[up_len t n]
theorem idT_found {t:List TN} {b:Int} (h:¬idT t b<0):∃(k:Nat) (hk:k<t.length),idT t b=(k:Int)∧t[k].1=b∧∀j (hj:j<k),(t[j]'(by omega)).1 ≠ b:=by
 have hany:t.any (fun n=>decide (n.1=b))=true:=by
  rw[←idxF_nonneg];unfold idT at h;simp;omega
 obtain⟨k,hk,h1,h2,h3⟩:=idxF_found hany
 exact⟨k,hk,h1,by simpa using h2,fun j hj=>by simpa using h3 j hj⟩
theorem idT_le {t:List TN} {b:Int} {j:Nat} (hj:j<t.length) (h:t[j].1=b):¬idT t b<0∧idT t b≤(j:Int):=by
 have h1:¬idT t b<0:=by
  intro hh
  have:=(idxF_neg _ _).1 hh
  rw[List.any_eq_false] at this
  exact this _ (List.getElem_mem hj) (by simpa using h)
 refine⟨h1,?_⟩
 obtain⟨k,hk,h2,h3,h4⟩:=idT_found h1
 rw[h2]
 rcases Nat.lt_or_ge j k with hh | hh
 ·exact absurd h (h4 j hh)
 ·omega
def pos (t:List TN) (b:Int):Nat:=(idT t b+1).toNat
theorem Right.zero {t:List TN} (h:Right t):idT t 0<0:=by
 rcases Int.lt_or_le (idT t 0) 0 with hh | hh
 ·exact hh
 ·obtain⟨k,hk,_,h3,_⟩:=idT_found (t:=t) (b:=0) (by omega)
  have:=h.id k hk;omega
theorem Right.down {t:List TN} (h:Right t) {b:Int} (hb:¬idT t b<0):pos t (List.getD t (Int.toNat (idT t b)) (0,(0,0))).2.1<pos t b:=by
 obtain⟨k,hk,h1,h2,h3⟩:=idT_found hb
 rw[h1,Int.toNat_natCast,getD_nat t k _ hk]
 unfold pos
 rw[h1]
 by_cases hp:t[k].2.1=0
 ·rw[hp];have:=h.zero;omega
 ·obtain⟨j,hj,hjj⟩:=h.prev k hk hp
  obtain⟨_,h5⟩:=idT_le (t:=t) (j:=j) (by omega) hjj
  omega
theorem pos_le (t:List TN) (b:Int):pos t b≤t.length:=by
 unfold pos
 rcases Int.lt_or_le (idT t b) 0 with hh | hh
 ·have:=(idxF_ge _ _).1 hh;unfold idT;rw[this];simp
 ·obtain⟨k,hk,h1,_⟩:=idT_found (t:=t) (b:=b) (by omega)
  rw[h1];omega
def mAbove (t:List TN) (a b:Int):Bool:=decide (a ∈ up t t.length b)
theorem P_spec_l9Above (t:List TN) (ht:t.length<BIG) (hR:Right t) (a b:Int):F_spec_l9Above t a b=some (mAbove t a b):=by
 unfold F_spec_l9Above mAbove
 generalize hf:(fun (s10:Int)=>_)=f
 have key:∀(n:Nat) (b:Int),pos t b≤n→((loopO f b).bind fun (j12:Unit⊕Bool)=>Sum.elim (fun _=>some false) (fun j=>some j) j12)=some (decide (a ∈ up t n b)):=by
  intro n
  induction n with
  | zero=>
   intro b hb
   have hneg:idT t b<0:=by unfold pos at hb;omega
   by_cases h0:b=0
   ·rw[loopO_out (x:=Sum.inl ()) (by rw[←hf];simp[h0])];simp[up]
   ·rw[loopO_out (x:=Sum.inr false) (by rw[←hf];simp[h0,P_spec_l9At t ht,hneg])];simp[up]
  | succ n ih=>
   intro b hb
   unfold up
   by_cases hneg:idT t b<0
   ·rw[if_pos hneg]
    by_cases h0:b=0
    ·rw[loopO_out (x:=Sum.inl ()) (by rw[←hf];simp[h0])];simp
    ·rw[loopO_out (x:=Sum.inr false) (by rw[←hf];simp[h0,P_spec_l9At t ht,hneg])];simp
   ·rw[if_neg hneg]
    have h0:b ≠ 0:=by rintro rfl;exact hneg hR.zero
    by_cases hab:a=b
    ·rw[loopO_out (x:=Sum.inr true) (by rw[←hf];simp[h0,P_spec_l9At t ht,hneg,hab])];simp[hab]
    ·rw[loopO_next (s':=(List.getD t (Int.toNat (idT t b)) (0,(0,0))).2.1) (by rw[←hf];simp[h0,P_spec_l9At t ht,hneg,hab,idT_inB hneg]),ih _ (by have:=hR.down hneg;omega)]
     simp[hab]
 exact key t.length b (pos_le t b)
theorem P_impl_pathTo (t:List TN) (hR:Right t) (b:Int):F_impl_pathTo t b=some (up t t.length b).reverse:=by
 have ht:t.length<BIG:=by have:=hR.len;unfold BIG;omega
 unfold F_impl_pathTo
 rw[P_impl_findNode t ht,Option.bind_some]
 generalize hf:(fun (s11:List Int×Int)=>_)=f
 have key:∀(n:Nat) (b:Int) (acc:List Int),pos t b≤n→acc.length+n≤60→loopO f (acc,idT t b)=some (acc++up t n b):=by
  intro n
  induction n with
  | zero=>
   intro b acc hb hl
   have hneg:idT t b<0:=by unfold pos at hb;omega
   rw[loopO_out (x:=acc) (by rw[←hf];simp[show ¬0≤idT t b by omega])];simp[up]
  | succ n ih=>
   intro b acc hb hl
   unfold up
   by_cases hneg:idT t b<0
   ·rw[if_pos hneg,loopO_out (x:=acc) (by rw[←hf];simp[show ¬0≤idT t b by omega])];simp
   ·rw[if_neg hneg]
    obtain⟨k,hk,h1,h2,h3⟩:=idT_found hneg
    have hid:(List.getD t (Int.toNat (idT t b)) (0,(0,0))).1=b:=by rw[h1,Int.toNat_natCast,getD_nat t k _ hk,h2]
    have hlim:decide (List.length acc+List.length [b]≤LIM)=true:=append_one_lim acc b 60 (by omega) (by decide)
    rw[loopO_next (s':=(acc++[b],idT t (List.getD t (Int.toNat (idT t b)) (0,(0,0))).2.1)) (by
     rw[←hf]
     simp only[show decide (0≤idT t b)=true by simp;omega,cond_true,idT_inB hneg,hid,hlim,P_impl_findNode t ht,Option.bind_some];rfl),ih _ _ (by have:=hR.down hneg;omega) (by simp;omega)]
    simp
 rw[key t.length b [] (pos_le t b) (by simpa using hR.len),Option.bind_some]
 unfold F_slices_Reverse_Lint64_int64
 have hl:=up_len t t.length b
 have:=hR.len
 rw[show Nat.ble (List.length ([]++up t t.length b)) 9223372036854775807=true from by rw[Nat.ble_eq];simp;omega]
 simp
theorem P_impl_isAbove (t:List TN) (hR:Right t) (a b:Int):F_impl_isAbove t a b=some (mAbove t a b):=by
 unfold F_impl_isAbove mAbove
 have hl:=up_len t t.length b
 have:=hR.len
 rw[P_impl_pathTo t hR,Option.bind_some,P_Contains_int _ (by rw[List.length_reverse];unfold BIG;omega)]
 simp
end CL
end Go.Dx
set_option maxHeartbeats 2000000
namespace Go.Dx
namespace CL
theorem idxF_at {α:Type} {p:α→Bool} {l:List α} {i:Nat} (h:i<l.length) (hp:p l[i]=true):decide (idxF p l=(i:Int)) = !(l.take i).any p:=by
 have hany:l.any p=true:=by rw[List.any_eq_true];exact⟨l[i],List.getElem_mem h,hp⟩
 obtain⟨k,hk,h1,h2,h3⟩:=idxF_found hany
 rw[h1]
 by_cases hki:k=i
 ·subst hki
  have:(l.take k).any p=false:=by
   rw[List.any_eq_false]
   intro a ha
   obtain⟨j,hj,rfl⟩:=List.getElem_of_mem ha
   simp only[List.length_take] at hj
   rw[List.getElem_take,h3 j (by omega)];simp
  simp[this]
 ·have hlt:k<i:=by
   rcases Nat.lt_or_ge i k with hh | hh
   ·rw[h3 i hh] at hp;cases hp
   ·omega
  have:(l.take i).any p=true:=by
   rw[List.any_eq_true]
   exact⟨l[k],List.mem_take_iff_getElem.2 ⟨k,by omega,rfl⟩,h2⟩
  rw[this];simp;omega
theorem cmp_loop {β γ:Type} [DecidableEq γ] (l r:List γ) (hl:l.length=r.length) (b:β) (f:Int→Option (Int⊕(Unit⊕β)))
  (hs:∀(i:Nat) (h:i<l.length) (h':i<r.length),f (i:Int)=some (if l[i]=r[i] then .inl ((i+1:Nat):Int) else .inr (.inr b))) (he:f (l.length:Int)=some (.inr (.inl ()))) :
  loopO f 0=some (if l=r then .inl () else .inr b):=by
 have key:∀(k i:Nat),i+k=l.length→loopO f (i:Int)=some (if l.drop i=r.drop i then .inl () else .inr b):=by
  intro k
  induction k with
  | zero=>
   intro i hi
   obtain rfl:i=l.length:=by omega
   rw[loopO_out he,List.drop_length,hl,List.drop_length,if_pos rfl]
  | succ k ih=>
   intro i hi
   have h1:i<l.length:=by omega
   have h2:i<r.length:=by omega
   have hs:=hs i h1 h2
   rw[List.drop_eq_getElem_cons h1,List.drop_eq_getElem_cons h2]
   by_cases he:l[i]=r[i]
   ·rw[if_pos he] at hs
    rw[loopO_next hs,ih (i+1) (by omega),he]
    by_cases hab:List.drop (i+1) l=List.drop (i+1) r
    ·rw[if_pos hab,if_pos (by rw[hab])]
    ·rw[if_neg hab,if_neg (fun h=>hab (List.cons.inj h).2)]
   ·rw[if_neg he] at hs
    rw[loopO_out hs,if_neg (fun h=>he (List.cons.inj h).1)]
 have:=key l.length 0 (by omega)
 simpa using this
def chAt (v:TR) (r:Int×Int):Int:=idxF (fun c=>decide (c.1=r)) v.2.2
theorem P_spec_l11At (v:TR) (hv:v.2.2.length<BIG) (r:Int×Int):F_spec_l11At v r=some (chAt v r):=by
 unfold F_spec_l11At chAt
 refine loop_idx v.2.2 _ _ (fun i h=>?_) (by simp only[dge,cond_false])
 simp only[dlt h,inB_nat v.2.2 i h,getD_toNat v.2.2 i _ h,cond_true,wsucc h hv,beqP2]
 cases decide (v.2.2[i].1=r)<;>rfl
def mChoice (l:List TC) (i:Nat) (c:TC):Int:=if mRef c.1&&mIn c.2 1 60 then (if (l.take i).any (fun y=>decide (y.1=c.1)) then 7 else 0) else 3
def mVoter (v:TR):Int:=if mIn v.1 1 999&&mIn v.2.1 0 60 then (if (40:Int)<(v.2.2.length:Int) then 2 else code (mChoice v.2.2) v.2.2) else 3
theorem P_impl_VoterFault (v:TR) (hv:v.2.2.length<BIG):F_impl_VoterFault v=some (mVoter v):=by
 unfold F_impl_VoterFault mVoter
 simp only[P_impl_isKey,P_impl_within,Option.bind_some]
 have hloop:∀f,(∀(i:Nat) (h:i<v.2.2.length),f (i:Int)=some (if mChoice v.2.2 i v.2.2[i]=0 then Sum.inl ((i+1:Nat):Int) else Sum.inr (Sum.inr (mChoice v.2.2 i v.2.2[i]))))→f (v.2.2.length:Int)=some (.inr (.inl ()))→
   ((loopO f 0).bind fun (j:Unit⊕Int)=>Sum.elim (fun _=>some 0) (fun j=>some j) j)=some (code (mChoice v.2.2) v.2.2):=fun f h1 h2=>loop_code _ _ f h1 h2
 rw[hloop _ (fun i h=>?_) (by simp only[dge,cond_false])]
 ·by_cases h40:(40:Int)<(v.2.2.length:Int)
  ·cases mIn v.1 1 999<;>cases mIn v.2.1 0 60<;>simp[h40]
  ·cases mIn v.1 1 999<;>cases mIn v.2.1 0 60<;>simp[h40]
 ·simp only[dlt h,inB_nat v.2.2 i h,getD_toNat v.2.2 i _ h,cutOk_nat v.2.2 i (Nat.le_of_lt h),cut_nat,cond_true,P_impl_isRef,P_impl_isId,Option.bind_some,wsucc h hv]
  rw[P_ContainsFunc_choice _ (take_BIG hv i) (fun y=>decide (y.1=v.2.2[i].1)) _ (fun a _=>by unfold F_impl_VoterFault_c1;rw[beqP2];rfl)]
  unfold mChoice
  cases mRef v.2.2[i].1<;>cases mIn v.2.2[i].2 1 60<;>cases (v.2.2.take i).any (fun y=>decide (y.1=v.2.2[i].1))<;>rfl
theorem P_spec_l11Fault (v:TR) (hv:v.2.2.length<BIG):F_spec_l11Fault v=some (mVoter v):=by
 unfold F_spec_l11Fault mVoter
 simp only[P_spec_l1Key,P_spec_l1In,Option.bind_some]
 have hloop:∀f,(∀(i:Nat) (h:i<v.2.2.length),f (i:Int)=some (if mChoice v.2.2 i v.2.2[i]=0 then Sum.inl ((i+1:Nat):Int) else Sum.inr (Sum.inr (mChoice v.2.2 i v.2.2[i]))))→f (v.2.2.length:Int)=some (.inr (.inl ()))→
   ((loopO f 0).bind fun (j:Unit⊕Int)=>Sum.elim (fun _=>some 0) (fun j=>some j) j)=some (code (mChoice v.2.2) v.2.2):=fun f h1 h2=>loop_code _ _ f h1 h2
 rw[hloop _ (fun i h=>?_) (by simp only[dge,cond_false])]
 ·by_cases h40:(40:Int)<(v.2.2.length:Int)
  ·cases mIn v.1 1 999<;>cases mIn v.2.1 0 60<;>simp[h40]
  ·cases mIn v.1 1 999<;>cases mIn v.2.1 0 60<;>simp[h40]
 ·simp only[dlt h,inB_nat v.2.2 i h,getD_toNat v.2.2 i _ h,cond_true,P_spec_l3Ref,P_spec_l11Tx,P_spec_l11At v hv,Option.bind_some,wsucc h hv]
  have h7:=idxF_at (p:=fun c:TC=>decide (c.1=v.2.2[i].1)) h (by simp)
  unfold chAt mChoice
  rw[h7]
  cases mRef v.2.2[i].1<;>cases mIn v.2.2[i].2 1 60<;>cases (v.2.2.take i).any (fun y=>decide (y.1=v.2.2[i].1))<;>rfl
def mVoters (c:TK):Int:=if c.2.2.2.1.map (·.1)=mGood c.1 c.2.1 then code (fun _ v=>mVoter v) c.2.2.2.1 else 1
structure Small (c:TK):Prop where
 keys:c.1.1.length<LIM
 bad:c.2.1.length<LIM
 tree:c.2.2.1.length<LIM
 voters:c.2.2.2.1.length<LIM
 choices:∀v,v ∈ c.2.2.2.1→v.2.2.length<LIM
 votes:c.2.2.2.2.1.length<LIM
 heard:c.2.2.2.2.2.length<LIM
 heards:∀l,l ∈ c.2.2.2.2.2→l.length<LIM
theorem lB {n:Nat} (h:n<LIM):n<BIG:=LIM_BIG (Nat.le_of_lt h)
theorem P_impl_votersFault (c:TK) (hc:Small c):F_impl_Cluster_votersFault c=some (mVoters c):=by
 unfold F_impl_Cluster_votersFault mVoters
 rw[P_impl_goodKeys _ _ (Nat.le_of_lt hc.keys) (lB hc.bad),Option.bind_some]
 have heq:F_slices_EqualFunc_Limpl_Voter_Lint64_impl_Voter_int64 c.2.2.2.1 (mGood c.1 c.2.1) (fun (a14:TR) (a15:Int)=>(F_impl_Cluster_votersFault_c1 a14 a15).bind fun r16=>some r16)=some (decide (c.2.2.2.1.map (·.1)=mGood c.1 c.2.1)):=by
  unfold F_slices_EqualFunc_Limpl_Voter_Lint64_impl_Voter_int64
  by_cases hl:c.2.2.2.1.length=(mGood c.1 c.2.1).length
  ·rw[show decide ((c.2.2.2.1.length:Int)=((mGood c.1 c.2.1).length:Int))=true by simp[hl]]
   simp only[Bool.not_true,cond_false]
   rw[cmp_loop (c.2.2.2.1.map (·.1)) (mGood c.1 c.2.1) (by simpa using hl) false _ (fun i h h'=>by
    have h:i<c.2.2.2.1.length:=by simpa using h
    simp only[dlt h,inB_nat _ i h,inB_nat _ i h',getD_toNat _ i _ h,getD_toNat _ i _ h',cond_true,List.getElem_map,wsucc h (lB hc.voters)]
    unfold F_impl_Cluster_votersFault_c1
    simp only[Option.bind_some]
    by_cases hq:c.2.2.2.1[i].1=(mGood c.1 c.2.1)[i]<;>simp[hq]) (by simp only[List.length_map,dge,cond_false]),Option.bind_some]
   split
   ·rename_i h;rw[decide_eq_true h];rfl
   ·rename_i h;rw[decide_eq_false h];rfl
  ·rw[show decide ((c.2.2.2.1.length:Int)=((mGood c.1 c.2.1).length:Int))=false by simp;omega]
   rw[decide_eq_false (fun h=>hl (by rw[←h];simp))]
   rfl
 rw[heq,Option.bind_some]
 by_cases hq:c.2.2.2.1.map (·.1)=mGood c.1 c.2.1
 ·rw[decide_eq_true hq,if_pos hq]
  simp only[Bool.not_true,cond_false]
  refine loop_code c.2.2.2.1 _ _ (fun i h=>?_) (by simp only[dge,cond_false])
  simp only[dlt h,inB_nat _ i h,getD_toNat _ i _ h,cond_true,P_impl_VoterFault _ (lB (hc.choices _ (List.getElem_mem h))),Option.bind_some,wsucc h (lB hc.voters),bif_code]
  split<;>rfl
 ·rw[decide_eq_false hq,if_neg hq];rfl
theorem P_spec_l12Voters (c:TK) (hc:Small c):F_spec_l12Voters c=some (mVoters c):=by
 unfold F_spec_l12Voters mVoters
 rw[P_spec_l12Good _ _ hc.keys (lB hc.bad),Option.bind_some]
 by_cases hl:(mGood c.1 c.2.1).length=c.2.2.2.1.length
 ·rw[show decide (((mGood c.1 c.2.1).length:Int)=(c.2.2.2.1.length:Int))=true by simp[hl]]
  simp only[Bool.not_true,cond_false]
  rw[cmp_loop (c.2.2.2.1.map (·.1)) (mGood c.1 c.2.1) (by simpa using hl.symm) 1 _ (fun i h h'=>by
   have h:i<c.2.2.2.1.length:=by simpa using h
   simp only[dlt h',inB_nat _ i h,inB_nat _ i h',getD_toNat _ i _ h,getD_toNat _ i _ h',cond_true,List.getElem_map,wsucc h (lB hc.voters)]
   by_cases hq:c.2.2.2.1[i].1=(mGood c.1 c.2.1)[i]<;>simp[hq]) (by simp only[List.length_map,←hl,dge,cond_false]),Option.bind_some]
  split
  ·simp only[Sum.elim_inl]
   refine loop_code c.2.2.2.1 _ _ (fun i h=>?_) (by simp only[dge,cond_false])
   simp only[dlt h,inB_nat _ i h,getD_toNat _ i _ h,cond_true,P_spec_l11Fault _ (lB (hc.choices _ (List.getElem_mem h))),Option.bind_some,wsucc h (lB hc.voters),bif_code]
   split<;>rfl
  ·rfl
 ·rw[show decide (((mGood c.1 c.2.1).length:Int)=(c.2.2.2.1.length:Int))=false by simp;omega]
  rw[if_neg (fun h=>hl (by rw[←h];simp))]
  rfl
def mVote (x:TV):Int:=
 if x.2.1=1 then (if x.2.2.2.1=(0,0) then (if x.2.2.2.2=0 then (if mIn x.1 1 999&&mIn x.2.2.1 1 60 then 0 else 3) else 1) else 1)
 else if x.2.1=2 then (if x.2.2.1=0 then (if mIn x.1 1 999&&(mRef x.2.2.2.1&&mIn x.2.2.2.2 1 60) then 0 else 3) else 1)
 else 1
theorem P_impl_VoteFault (x:TV):F_impl_VoteFault x=some (mVote x):=by
 unfold F_impl_VoteFault mVote
 simp only[P_impl_isId,P_impl_isKey,P_impl_isRef,Option.bind_some,beqP2]
 by_cases h1:x.2.1=1
 ·simp only[h1,decide_true,cond_true,if_true]
  by_cases h2:x.2.2.2.1=(0,0)<;>by_cases h3:x.2.2.2.2=0<;>cases mIn x.1 1 999<;>cases mIn x.2.2.1 1 60<;>simp[h2,h3]
 ·simp only[h1,decide_false,cond_false,if_false]
  by_cases h2:x.2.1=2
  ·simp only[h2,decide_true,cond_true,if_true]
   by_cases h3:x.2.2.1=0<;>cases mIn x.1 1 999<;>cases mRef x.2.2.2.1<;>cases mIn x.2.2.2.2 1 60<;>simp[h3]
  ·simp[h2]
theorem mIn12 (k:Int):mIn k 1 2=(decide (k=1) || decide (k=2)):=by
 unfold mIn
 rw[Bool.eq_iff_iff];simp;omega
theorem P_spec_l11Vote (x:TV):F_spec_l11Vote x=some (mVote x):=by
 unfold F_spec_l11Vote mVote
 simp only[P_spec_l1In,P_spec_l1Key,P_spec_l11Tx,P_spec_l3Ref,Option.bind_some,beqP2,mIn12]
 by_cases h1:x.2.1=1
 ·have h12:¬x.2.1=2:=by omega
  simp only[h1,decide_true,Bool.true_or,Bool.not_true,cond_true,cond_false,if_true]
  by_cases h2:x.2.2.2.1=(0,0)<;>by_cases h3:x.2.2.2.2=0<;>cases mIn x.1 1 999<;>cases mIn x.2.2.1 1 60<;>simp[h2,h3]
 ·simp only[h1,decide_false,cond_false,if_false,Bool.false_or]
  by_cases h2:x.2.1=2
  ·simp only[h2,decide_true,Bool.not_true,cond_true,cond_false,if_true,Option.bind_some]
   by_cases h3:x.2.2.1=0<;>cases mIn x.1 1 999<;>cases mRef x.2.2.2.1<;>cases mIn x.2.2.2.2 1 60<;>simp[h3]
  ·simp[h2]
theorem P_spec_l12Has (l:List TV) (hl:l.length<BIG) (x:TV):F_spec_l12Has l x=some (decide (x ∈ l)):=by
 unfold F_spec_l12Has
 have:l.any (fun a=>decide (a=x))=decide (x ∈ l):=by rw[Bool.eq_iff_iff];simp
 rw[←this]
 refine loop_any l _ _ (fun i h=>?_) (by simp only[dge,cond_false])
 simp only[dlt h,inB_nat l i h,getD_toNat l i _ h,cond_true,wsucc h hl,beqV]
 cases decide (l[i]=x)<;>rfl
def vAt (c:TK) (key:Int):Int:=idxF (fun v=>decide (v.1=key)) c.2.2.2.1
theorem P_spec_l12At (c:TK) (hc:Small c) (key:Int):F_spec_l12At c key=some (vAt c key):=by
 unfold F_spec_l12At vAt
 refine loop_idx c.2.2.2.1 _ _ (fun i h=>?_) (by simp only[dge,cond_false])
 simp only[dlt h,inB_nat _ i h,getD_toNat _ i _ h,cond_true,wsucc h (lB hc.voters)]
 cases decide (c.2.2.2.1[i].1=key)<;>rfl
theorem P_impl_findVoter (c:TK) (hc:Small c) (key:Int):F_impl_Cluster_findVoter c key=some (vAt c key):=by
 unfold F_impl_Cluster_findVoter vAt
 rw[P_IndexFunc_voter _ (lB hc.voters) (fun v=>decide (v.1=key)) _ (fun a _=>by unfold F_impl_Cluster_findVoter_c1;rfl)]
 rfl
def vOf (c:TK) (key:Int):TR:=List.getD c.2.2.2.1 (Int.toNat (vAt c key)) (0,(0,[]))
def mStands (c:TK) (x:TV):Bool:=
 if vAt c x.1<0 then true
 else if x.2.1=1 then mAbove c.2.2.1 x.2.2.1 (vOf c x.1).2.1
 else !decide (chAt (vOf c x.1) x.2.2.2.1<0)&&decide ((List.getD (vOf c x.1).2.2 (Int.toNat (chAt (vOf c x.1) x.2.2.2.1)) ((0,0),0)).2=x.2.2.2.2)
theorem vOf_mem {c:TK} {key:Int} (h:¬vAt c key<0):vOf c key ∈ c.2.2.2.1∧inB (vAt c key) c.2.2.2.1=true:=by
 have hany:c.2.2.2.1.any (fun v=>decide (v.1=key))=true:=by
  rw[←idxF_nonneg];unfold vAt at h;simp;omega
 obtain⟨k,hk,h1,_⟩:=idxF_found hany
 unfold vOf vAt
 rw[h1,Int.toNat_natCast,getD_nat _ k _ hk]
 exact⟨List.getElem_mem hk,inB_nat _ k hk⟩
theorem P_spec_l12Stands (c:TK) (hc:Small c) (hR:Right c.2.2.1) (x:TV):F_spec_l12Stands c x=some (mStands c x):=by
 unfold F_spec_l12Stands mStands
 rw[P_spec_l12At c hc,Option.bind_some]
 by_cases hv:vAt c x.1<0
 ·rw[decide_eq_true hv,if_pos hv];rfl
 ·rw[decide_eq_false hv,if_neg hv]
  obtain⟨hm,hi⟩:=vOf_mem hv
  simp only[cond_false,hi,cond_true]
  rw[show List.getD c.2.2.2.1 (Int.toNat (vAt c x.1)) (0,(0,[]))=vOf c x.1 from rfl]
  by_cases h1:x.2.1=1
  ·rw[decide_eq_true h1,if_pos h1,cond_true,P_spec_l9Above _ (lB hc.tree) hR];rfl
  ·rw[decide_eq_false h1,if_neg h1,cond_false,P_spec_l11At _ (lB (hc.choices _ hm)),Option.bind_some,nonneg_dec]
   by_cases h2:chAt (vOf c x.1) x.2.2.2.1<0
   ·simp[h2]
   ·have hi2:inB (chAt (vOf c x.1) x.2.2.2.1) (vOf c x.1).2.2=true:=idxF_inB (by unfold chAt at h2;omega)
    simp[h2,hi2]
theorem P_impl_isVoted (c:TK) (hc:Small c) (hR:Right c.2.2.1) (x:TV) (hv:¬vAt c x.1<0) (hx:mVote x=0):F_impl_Cluster_isVoted c x=some (mStands c x):=by
 unfold F_impl_Cluster_isVoted mStands
 obtain⟨hm,hi⟩:=vOf_mem hv
 rw[P_impl_findVoter c hc,Option.bind_some,hi,cond_true,if_neg hv]
 rw[show List.getD c.2.2.2.1 (Int.toNat (vAt c x.1)) (0,(0,[]))=vOf c x.1 from rfl]
 by_cases h1:x.2.1=1
 ·rw[decide_eq_true h1,if_pos h1,cond_true,P_impl_isAbove _ hR];rfl
 ·rw[decide_eq_false h1,if_neg h1,cond_false]
  have hch:F_impl_Voter_chosen (vOf c x.1) x.2.2.2.1=some (if chAt (vOf c x.1) x.2.2.2.1<0 then 0 else (List.getD (vOf c x.1).2.2 (Int.toNat (chAt (vOf c x.1) x.2.2.2.1)) ((0,0),0)).2):=by
   unfold F_impl_Voter_chosen
   rw[P_IndexFunc_choice _ (lB (hc.choices _ hm)) (fun c=>decide (c.1=x.2.2.2.1)) _ (fun a _=>by unfold F_impl_Voter_chosen_c1;rw[beqP2];rfl),Option.bind_some]
   rw[show idxF (fun (c:TC)=>decide (c.1=x.2.2.2.1)) (vOf c x.1).2.2=chAt (vOf c x.1) x.2.2.2.1 from rfl]
   by_cases h2:chAt (vOf c x.1) x.2.2.2.1<0
   ·simp[h2]
   ·have hi2:inB (chAt (vOf c x.1) x.2.2.2.1) (vOf c x.1).2.2=true:=idxF_inB (by unfold chAt at h2;omega)
    simp[h2,hi2]
  rw[hch,Option.bind_some]
  have htx:x.2.2.2.2 ≠ 0:=by
   unfold mVote at hx
   rw[if_neg h1] at hx
   split at hx
   ·split at hx
    ·split at hx
     ·rename_i hh
      simp only[Bool.and_eq_true,mIn,decide_eq_true_eq] at hh
      omega
     ·cases hx
    ·cases hx
   ·cases hx
  by_cases h2:chAt (vOf c x.1) x.2.2.2.1<0
  ·simp[h2];omega
  ·simp[h2]
theorem mem_good {c:TK} {k:Int} (hv:c.2.2.2.1.map (·.1)=mGood c.1 c.2.1) (hk:k ∈ c.1.1):vAt c k<0↔k ∈ c.2.1:=by
 unfold vAt
 rw[idxF_neg,List.any_eq_false]
 have:(∀x,x ∈ c.2.2.2.1→¬decide (x.1=k)=true)↔k ∉ c.2.2.2.1.map (·.1):=by
  simp only[decide_eq_true_eq,List.mem_map,not_exists,not_and]
 rw[this,hv]
 unfold mGood
 simp[hk]
def mVotesC (c:TK) (i:Nat) (x:TV):Int:=if mVote x=0 then (if x.1 ∈ c.1.1 then (if x ∈ c.2.2.2.2.1.take i then 7 else if mStands c x then 0 else 6) else 4) else mVote x
def mVotes (c:TK):Int:=code (mVotesC c) c.2.2.2.2.1
theorem P_spec_l12Votes (c:TK) (hc:Small c) (hR:Right c.2.2.1):F_spec_l12Votes c=some (mVotes c):=by
 unfold F_spec_l12Votes mVotes
 refine loop_code _ _ _ (fun i h=>?_) (by simp only[dge,cond_false])
 simp only[dlt h,inB_nat _ i h,getD_toNat _ i _ h,cutOk_nat _ i (Nat.le_of_lt h),cut_nat,cond_true,P_spec_l11Vote,P_spec_l4Among _ (lB hc.keys),P_spec_l12Has _ (take_BIG (lB hc.votes) i),P_spec_l12Stands c hc hR,Option.bind_some,wsucc h (lB hc.votes),bif_code]
 generalize hx:c.2.2.2.2.1[i]=x
 unfold mVotesC
 by_cases h1:mVote x=0
 ·simp only[h1,if_true]
  by_cases h2:x.1 ∈ c.1.1
  ·by_cases h3:x ∈ c.2.2.2.2.1.take i
   ·simp[h2,h3]
   ·cases hs:mStands c x<;>simp[h2,h3]
  ·simp[h2]
 ·simp[h1]
theorem P_impl_votesFault (c:TK) (hc:Small c) (hR:Right c.2.2.1) (hv:c.2.2.2.1.map (·.1)=mGood c.1 c.2.1):F_impl_Cluster_votesFault c=some (mVotes c):=by
 unfold F_impl_Cluster_votesFault mVotes
 refine loop_code _ _ _ (fun i h=>?_) (by simp only[dge,cond_false])
 simp only[dlt h,inB_nat _ i h,getD_toNat _ i _ h,cutOk_nat _ i (Nat.le_of_lt h),cut_nat,cond_true,P_impl_VoteFault,P_Contains_int _ (lB hc.keys),P_Contains_int _ (lB hc.bad),P_Contains_vote _ (take_BIG (lB hc.votes) i),Option.bind_some,wsucc h (lB hc.votes),bif_code]
 generalize hx:c.2.2.2.2.1[i]=x
 unfold mVotesC
 by_cases h1:mVote x=0
 ·simp only[h1,if_true]
  by_cases h2:x.1 ∈ c.1.1
  ·by_cases h3:x ∈ c.2.2.2.2.1.take i
   ·simp[h2,h3]
   ·have hg:=mem_good hv h2
    by_cases h4:x.1 ∈ c.2.1
    ·have:mStands c x=true:=by unfold mStands;rw[if_pos (hg.2 h4)]
     simp[h2,h3,h4,this]
    ·have hnv:¬vAt c x.1<0:=fun hh=>h4 (hg.1 hh)
     rw[P_impl_isVoted c hc hR x hnv h1]
     cases hs:mStands c x<;>simp[h2,h3,h4]
  ·simp[h2]
 ·simp[h1]
def mHeardL (n:Int) (l:List Int):Int:=if l.any (fun a=>!mIn a 0 n) then 3 else code (fun i a=>if a ∈ l.take i then 7 else 0) l
def mHeard (c:TK):Int:=code (fun _ l=>mHeardL (IntKind.wrap .i64 ((c.2.2.2.2.1.length:Int) - 1)) l) c.2.2.2.2.2
theorem loop_codeK {α R:Type} (l:List α) (c:Nat→α→Int) (f:Int→Option (Int⊕(Unit⊕Int)))
  (hs:∀(i:Nat) (h:i<l.length),f (i:Int)=some (if c i l[i]=0 then .inl ((i+1:Nat):Int) else .inr (.inr (c i l[i])))) (he:f (l.length:Int)=some (.inr (.inl ()))) (A:Unit→Option R) (B:Int→Option R) :
  ((loopO f 0).bind fun j=>Sum.elim A B j)=if code c l=0 then A () else B (code c l):=by
 rw[loop_first l (fun i a=>if c i a=0 then none else some (c i a)) f (fun i h=>by rw[hs i h];by_cases hc:c i l[i]=0<;>simp[hc]) he,bind_first]
 by_cases h0:code c l=0
 ·rw[if_pos h0]
  have hz:=code_zero h0
  have:first (fun i a=>if c i a=0 then none else some (c i a)) 0 l=none:=(first_none l 0).2 (fun j a ha=>by rw[Nat.zero_add,if_pos (hz j a ha)])
  rw[this]
 ·rw[if_neg h0]
  unfold code at h0 ⊢
  cases hf:first (fun i a=>if c i a=0 then none else some (c i a)) 0 l with
  | none=>rw[hf] at h0;exact absurd rfl h0
  | some r=>rfl
theorem P_impl_heardFault (c:TK) (hc:Small c):F_impl_Cluster_heardFault c=some (mHeard c):=by
 unfold F_impl_Cluster_heardFault mHeard
 refine loop_code _ _ _ (fun i h=>?_) (by simp only[dge,cond_false])
 simp only[dlt h,inB_nat _ i h,getD_toNat _ i _ h,cond_true]
 have hl:=lB (hc.heards _ (List.getElem_mem h))
 generalize c.2.2.2.2.2[i]=l at hl ⊢
 rw[P_ContainsFunc_int l hl (fun a=>!mIn a 0 (IntKind.wrap .i64 ((c.2.2.2.2.1.length:Int) - 1))) _ (fun a _=>by unfold F_impl_Cluster_heardFault_c1;rw[P_impl_within];rfl),Option.bind_some]
 unfold mHeardL
 cases l.any (fun a=>!mIn a 0 (IntKind.wrap .i64 ((c.2.2.2.2.1.length:Int) - 1))) with
 | true=>rfl
 | false=>
  simp only[cond_false,Bool.false_eq_true,if_false]
  rw[loop_codeK l (fun i a=>if a ∈ l.take i then 7 else 0) _ (fun j hj=>by
   simp only[dlt hj,inB_nat _ j hj,getD_toNat _ j _ hj,cutOk_nat _ j (Nat.le_of_lt hj),cut_nat,cond_true,P_Contains_int _ (take_BIG hl j),Option.bind_some,wsucc hj hl]
   by_cases hm:l[j] ∈ l.take j<;>simp[hm]) (by simp only[dge,cond_false]),wsucc h (lB hc.heard)]
  split<;>rfl
theorem P_spec_l12Heard (c:TK) (hc:Small c):F_spec_l12Heard c=some (mHeard c):=by
 unfold F_spec_l12Heard mHeard
 refine loop_code _ _ _ (fun i h=>?_) (by simp only[dge,cond_false])
 simp only[dlt h,inB_nat _ i h,getD_toNat _ i _ h,cond_true]
 have hl:=lB (hc.heards _ (List.getElem_mem h))
 generalize c.2.2.2.2.2[i]=l at hl ⊢
 unfold mHeardL
 rw[loop_codeK l (fun _ a=>if !mIn a 0 (IntKind.wrap .i64 ((c.2.2.2.2.1.length:Int) - 1)) then 3 else 0) _ (fun j hj=>by
   simp only[dlt hj,inB_nat _ j hj,getD_toNat _ j _ hj,cond_true,P_spec_l1In,Option.bind_some,wsucc hj hl]
   cases mIn l[j] 0 (IntKind.wrap .i64 ((c.2.2.2.2.1.length:Int) - 1))<;>rfl) (by simp only[dge,cond_false])]
 have h3:code (fun _ a=>if !mIn a 0 (IntKind.wrap .i64 ((c.2.2.2.2.1.length:Int) - 1)) then 3 else 0) l=if l.any (fun a=>!mIn a 0 (IntKind.wrap .i64 ((c.2.2.2.2.1.length:Int) - 1))) then 3 else 0:=by
  unfold code
  rw[first_congr (g':=fun _ a=>if (fun a=>!mIn a 0 (IntKind.wrap .i64 ((c.2.2.2.2.1.length:Int) - 1))) a then some 3 else none) l 0 (fun j a _ _=>by dsimp only;by_cases hq:mIn a 0 (IntKind.wrap .i64 ((c.2.2.2.2.1.length:Int) - 1))=true<;>simp[hq]),first_any]
  cases l.any (fun a=>!mIn a 0 (IntKind.wrap .i64 ((c.2.2.2.2.1.length:Int) - 1)))<;>rfl
 rw[h3]
 cases l.any (fun a=>!mIn a 0 (IntKind.wrap .i64 ((c.2.2.2.2.1.length:Int) - 1))) with
 | true=>rfl
 | false=>
  simp only[Bool.false_eq_true,if_false,if_true]
  rw[loop_codeK l (fun i a=>if a ∈ l.take i then 7 else 0) _ (fun j hj=>by
   simp only[dlt hj,inB_nat _ j hj,getD_toNat _ j _ hj,cutOk_nat _ j (Nat.le_of_lt hj),cut_nat,cond_true,P_spec_l4Among _ (take_BIG hl j),Option.bind_some,wsucc hj hl]
   by_cases hm:l[j] ∈ l.take j<;>simp[hm]) (by simp only[dge,cond_false]),wsucc h (lB hc.heard)]
  split<;>rfl
def mMany (c:TK):Bool:=decide ((20:Int)<(c.2.1.length:Int)) || decide ((100:Int)<(c.2.2.2.2.1.length:Int)) || !mIn (c.2.2.2.2.2.length:Int) 1 4
def mCF (c:TK):Int:=
 if mQF c.1=0 then if mMany c then 2 else if mBF c.2.1=0 then if mTree c.2.2.1=0 then if mVoters c=0 then if mVotes c=0 then mHeard c else mVotes c else mVoters c else mTree c.2.2.1 else mBF c.2.1 else mQF c.1
theorem voters_good {c:TK} (h:mVoters c=0):c.2.2.2.1.map (·.1)=mGood c.1 c.2.1:=by
 unfold mVoters at h
 split at h
 ·assumption
 ·cases h
theorem P_impl_ClusterFault (c:TK) (hc:Small c):F_impl_ClusterFault c=some (mCF c):=by
 unfold F_impl_ClusterFault mCF
 simp only[P_impl_QuorumFault _ (lB hc.keys),P_impl_within,P_impl_badFault _ (lB hc.bad),P_impl_TreeFault _ (lB hc.tree),P_impl_votersFault c hc,P_impl_heardFault c hc,Option.bind_some,bif_code]
 split
 ·have hm:((bif decide ((20:Int)<(c.2.1.length:Int)) then some true else bif decide ((100:Int)<(c.2.2.2.2.1.length:Int)) then some true else some (!mIn (c.2.2.2.2.2.length:Int) 1 4)):Option Bool)=some (mMany c):=by
   unfold mMany
   cases decide ((20:Int)<(c.2.1.length:Int))<;>cases decide ((100:Int)<(c.2.2.2.2.1.length:Int))<;>rfl
  rw[hm,Option.bind_some]
  cases mMany c with
  | true=>rfl
  | false=>
   simp only[cond_false,Bool.false_eq_true,if_false]
   split
   ·split
    ·rename_i ht
     split
     ·rename_i hv
      rw[P_impl_votesFault c hc (right_of ht) (voters_good hv),Option.bind_some]
      split<;>rfl
     ·rfl
    ·rfl
   ·rfl
 ·rfl
theorem P_spec_l12Fault (c:TK) (hc:Small c):F_spec_l12Fault c=some (mCF c):=by
 unfold F_spec_l12Fault mCF
 simp only[P_spec_l10Fault _ (lB hc.keys),P_spec_l12Bad _ (lB hc.bad),P_spec_l9Fault _ (lB hc.tree),P_spec_l12Voters c hc,P_spec_l12Heard c hc,Option.bind_some,bif_code]
 split
 ·have hm:((bif decide ((20:Int)<(c.2.1.length:Int)) then some true else bif decide ((100:Int)<(c.2.2.2.2.1.length:Int)) then some true else bif decide ((c.2.2.2.2.2.length:Int)<1) then some true else some (decide ((4:Int)<(c.2.2.2.2.2.length:Int)))):Option Bool)=some (mMany c):=by
   unfold mMany
   have:(!mIn (c.2.2.2.2.2.length:Int) 1 4)=(decide ((c.2.2.2.2.2.length:Int)<1) || decide ((4:Int)<(c.2.2.2.2.2.length:Int))):=by
    unfold mIn;rw[Bool.eq_iff_iff];simp;try omega
   rw[this]
   cases decide ((20:Int)<(c.2.1.length:Int))<;>cases decide ((100:Int)<(c.2.2.2.2.1.length:Int))<;>cases decide ((c.2.2.2.2.2.length:Int)<1)<;>rfl
  rw[hm,Option.bind_some]
  cases mMany c with
  | true=>rfl
  | false=>
   simp only[cond_false,Bool.false_eq_true,if_false]
   split
   ·split
    ·rename_i ht
     split
     ·rename_i hv
      rw[P_spec_l12Votes c hc (right_of ht),Option.bind_some]
      split<;>rfl
     ·rfl
    ·rfl
   ·rfl
 ·rfl
end CL
end Go.Dx
set_option maxHeartbeats 2000000
namespace Go.Dx
namespace CL
set_option synthInstance.maxSize 1000
set_option synthInstance.maxHeartbeats 400000
end CL
end Go.Dx
set_option maxHeartbeats 2000000
namespace Go.Dx
namespace CL
theorem loop_pick {α β:Type} (l:List α) (p:α→Bool) (a b:β) (f:Int→Option (Int⊕β))
  (hs:∀(i:Nat) (h:i<l.length),f (i:Int)=some (if p l[i] then .inr a else .inl ((i+1:Nat):Int))) (he:f (l.length:Int)=some (.inr b)) :
  loopO f 0=some (if l.any p then a else b):=by
 have key:∀(k i:Nat),i+k=l.length→loopO f (i:Int)=some (if (l.drop i).any p then a else b):=by
  intro k
  induction k with
  | zero=>
   intro i hi
   obtain rfl:i=l.length:=by omega
   rw[loopO_out he,List.drop_length];rfl
  | succ k ih=>
   intro i hi
   have h1:i<l.length:=by omega
   have hs:=hs i h1
   rw[List.drop_eq_getElem_cons h1,List.any_cons]
   cases hp:p l[i] with
   | true=>rw[hp] at hs;rw[loopO_out hs];rfl
   | false=>rw[hp] at hs;rw[loopO_next hs,ih (i+1) (by omega)];rfl
 have:=key l.length 0 (by omega)
 simpa using this
def mCount (votes:List TV) (q:TQ) (x:TV):Int:=((q.1.countP fun k=>decide ((k,x.2) ∈ votes):Nat):Int)
theorem fold_count (votes:List TV):∀(l:List Int) (t:Int×TV),(l.foldl (fun (t:Int×TV) k=>(if decide ((k,t.2.2) ∈ votes) then t.1+1 else t.1,(k,t.2.2))) t).1=t.1+((l.countP fun k=>decide ((k,t.2.2) ∈ votes):Nat):Int)
 | [],t=>by simp
 | a::l,t=>by
  rw[List.foldl_cons,fold_count votes l]
  simp only[List.countP_cons]
  cases h:decide ((a,t.2.2) ∈ votes)
  ·simp
  ·simp;omega
theorem fold_count1 (votes:List TV) (l:List Int) (x:TV):(l.foldl (fun (t:Int×TV) k=>(if decide ((k,t.2.2) ∈ votes) then t.1+1 else t.1,(k,t.2.2))) (0,x)).1=((l.countP fun k=>decide ((k,x.2) ∈ votes):Nat):Int):=by
 rw[fold_count];simp
theorem any_mem (votes:List TV) (y:TV):votes.any (fun a=>decide (a=y))=decide (y ∈ votes):=by rw[Bool.eq_iff_iff];simp
theorem P_spec_l11Count (votes:List TV) (q:TQ) (x:TV) (hv:votes.length<BIG) (hq:q.1.length<BIG):F_spec_l11Count votes q x=some (mCount votes q x):=by
 unfold F_spec_l11Count mCount
 have hbig:(BIG:Int)=4611686018427387904:=rfl
 rw[loop_fold q.1 (fun (t:Int×TV) k=>(if decide ((k,t.2.2) ∈ votes) then t.1+1 else t.1,(k,t.2.2))) (fun t i=>(t.1,i,t.2)) (fun t=>t.1) (fun t i=>0≤t.1∧t.1≤(i:Int)) _ (fun i h t ht=>?_) (fun t ht=>by simp only[dge,cond_false]) (0,x) (by simp),Option.bind_some,fold_count1]
 have w:IntKind.wrap .i64 (t.1+1)=t.1+1:=wrap_id (by omega) (by omega)
 rw[loop_pick votes (fun a=>decide (a=(q.1[i],t.2.2))) (t.1+1) t.1 _ (fun j hj=>by
  simp only[dlt hj,inB_nat _ j hj,getD_toNat _ j _ hj,getD_toNat _ i _ h,cond_true,wsucc hj hv,beqV,w]
  cases decide (votes[j]=(q.1[i],t.2.2))<;>rfl) (by simp only[dge,cond_false]),any_mem]
 simp only[dlt h,inB_nat _ i h,getD_toNat _ i _ h,cond_true,Option.bind_some,wsucc h hq]
 refine⟨by first | rfl | trivial,?_⟩
 cases decide ((q.1[i],t.2.2) ∈ votes)<;>simp<;>omega
theorem P_impl_countFor (votes:List TV) (q:TQ) (x:TV) (hv:votes.length<BIG) (hq:q.1.length<BIG):F_impl_countFor votes q x=some (mCount votes q x):=by
 unfold F_impl_countFor mCount
 have hbig:(BIG:Int)=4611686018427387904:=rfl
 rw[loop_fold q.1 (fun (t:Int×TV) k=>(if decide ((k,t.2.2) ∈ votes) then t.1+1 else t.1,(k,t.2.2))) (fun t i=>(t.1,i,t.2)) (fun t=>t.1) (fun t i=>0≤t.1∧t.1≤(i:Int)) _ (fun i h t ht=>?_) (fun t ht=>by simp only[dge,cond_false]) (0,x) (by simp),Option.bind_some,fold_count1]
 have w:IntKind.wrap .i64 (t.1+1)=t.1+1:=wrap_id (by omega) (by omega)
 simp only[dlt h,inB_nat _ i h,getD_toNat _ i _ h,cond_true,P_Contains_vote votes hv,Option.bind_some,wsucc h hq,w]
 cases hd:decide ((q.1[i],t.2.2) ∈ votes)
 ·exact⟨by simp,by simp;omega⟩
 ·exact⟨by simp,by simp;omega⟩
def nodeVote (n:TN):TV:=(0,1,n.1,(0,0),0)
def mLocks (c:TK) (votes:List TV):List Int:=(c.2.2.1.filter fun n=>decide (c.1.2≤mCount votes c.1 (nodeVote n))).map (·.1)
theorem P_spec_l12Locks (c:TK) (hc:Small c) (votes:List TV) (hv:votes.length<BIG):F_spec_l12Locks c votes=some (mLocks c votes):=by
 unfold F_spec_l12Locks mLocks
 rw[loop_fold c.2.2.1 (fun acc n=>if decide (c.1.2≤mCount votes c.1 (nodeVote n)) then acc++[n.1] else acc) (fun t i=>(t,i)) (fun t=>t) (fun t i=>t.length≤i) _ (fun i h t ht=>?_) (fun t ht=>by simp only[dge,cond_false]) ([]:List Int) (by simp),foldl_filterMap]
 ·rfl
 ·have h1:=append_one_lim t c.2.2.1[i].1 i ht (Nat.lt_trans h hc.tree)
  simp only[dlt h,inB_nat _ i h,getD_toNat _ i _ h,cond_true,P_spec_l11Count _ _ _ hv (lB hc.keys),Option.bind_some,wsucc h (lB hc.tree),h1]
  rw[show ((0,1,c.2.2.1[i].1,(0,0),0):TV)=nodeVote c.2.2.1[i] from rfl]
  cases decide (c.1.2≤mCount votes c.1 (nodeVote c.2.2.1[i]))
  ·exact⟨rfl,by simp;omega⟩
  ·exact⟨rfl,by simp;omega⟩
theorem P_impl_lockedBy (c:TK) (hc:Small c) (votes:List TV) (hv:votes.length<BIG):F_impl_Cluster_lockedBy c votes=some (mLocks c votes):=by
 unfold F_impl_Cluster_lockedBy mLocks
 rw[loop_fold c.2.2.1 (fun acc n=>if decide (c.1.2≤mCount votes c.1 (nodeVote n)) then acc++[n.1] else acc) (fun t i=>(t,i)) (fun t=>t) (fun t i=>t.length≤i) _ (fun i h t ht=>?_) (fun t ht=>by simp only[dge,cond_false]) ([]:List Int) (by simp),foldl_filterMap]
 ·rfl
 ·have h1:=append_one_lim t c.2.2.1[i].1 i ht (Nat.lt_trans h hc.tree)
  simp only[dlt h,inB_nat _ i h,getD_toNat _ i _ h,cond_true,P_impl_countFor _ _ _ hv (lB hc.keys),Option.bind_some,wsucc h (lB hc.tree),h1]
  rw[show ((0,1,c.2.2.1[i].1,(0,0),0):TV)=nodeVote c.2.2.1[i] from rfl]
  cases decide (c.1.2≤mCount votes c.1 (nodeVote c.2.2.1[i]))
  ·exact⟨rfl,by simp;omega⟩
  ·exact⟨rfl,by simp;omega⟩
theorem mLocks_len (c:TK) (votes:List TV):(mLocks c votes).length≤c.2.2.1.length:=by
 unfold mLocks;rw[List.length_map];exact List.length_filter_le _ _
def mLB (c:TK):Int×List Int:=if mCF c=0 then (0,mLocks c c.2.2.2.2.1) else (mCF c,[])
theorem P_impl_LockedBlocks (c:TK) (hc:Small c):F_impl_LockedBlocks c=some (mLB c):=by
 unfold F_impl_LockedBlocks mLB
 simp only[P_impl_ClusterFault c hc,P_impl_lockedBy c hc _ (lB hc.votes),Option.bind_some,bif_code]
 split<;>rfl
theorem mLB_len (c:TK) (hc:Small c):(mLB c).2.length<LIM:=by
 unfold mLB
 split
 ·exact Nat.lt_of_le_of_lt (mLocks_len _ _) hc.tree
 ·simp[LIM]
def mRel (t:List TN) (a b:Int):Bool:=mAbove t a b || mAbove t b a
theorem mRel_comm (t:List TN) (a b:Int):mRel t a b=mRel t b a:=Bool.or_comm _ _
theorem P_impl_related (t:List TN) (hR:Right t) (a b:Int):F_impl_related t a b=some (mRel t a b):=by
 unfold F_impl_related mRel
 rw[P_impl_isAbove t hR,P_impl_isAbove t hR]
 cases mAbove t a b<;>rfl
theorem right_BIG {t:List TN} (hR:Right t):t.length<BIG:=by have:=hR.len;unfold BIG;omega
theorem P_spec_l9Related (t:List TN) (hR:Right t) (a b:Int):F_spec_l9Related t a b=some (mRel t a b):=by
 unfold F_spec_l9Related mRel
 rw[P_spec_l9Above t (right_BIG hR) hR,P_spec_l9Above t (right_BIG hR) hR]
 cases mAbove t a b<;>rfl
theorem mCF_tree {c:TK} (h:mCF c=0):mTree c.2.2.1=0:=by
 unfold mCF at h
 by_cases h1:mQF c.1=0
 ·rw[if_pos h1] at h
  cases h2:mMany c with
  | true=>rw[h2] at h;cases h
  | false=>
   rw[h2] at h
   by_cases h3:mBF c.2.1=0
   ·by_cases h4:mTree c.2.2.1=0
    ·exact h4
    ·simp[h3,h4] at h
   ·simp[h3] at h
 ·rw[if_neg h1] at h;exact absurd h h1
theorem mCF_right {c:TK} (h:mCF c=0):Right c.2.2.1:=right_of (mCF_tree h)
end CL
end Go.Dx
set_option maxHeartbeats 2000000
namespace Go.Dx
namespace CL
def c1:Int→Nat:=fun _=>1
end CL
end Go.Dx
set_option maxHeartbeats 2000000
namespace Go.Dx
namespace CL
end CL
end Go.Dx
set_option maxHeartbeats 2000000
namespace Go.Dx
namespace CL
theorem mCF_heard {c:TK} (h:mCF c=0):mHeard c=0:=by
 have ht:=mCF_tree h
 unfold mCF at h
 by_cases h1:mQF c.1=0
 ·rw[if_pos h1] at h
  cases h2:mMany c with
  | true=>rw[h2] at h;cases h
  | false=>
   rw[h2] at h
   by_cases h3:mBF c.2.1=0
   ·by_cases h4:mVoters c=0
    ·by_cases h5:mVotes c=0
     ·simpa [h3,ht,h4,h5] using h
     ·simp[h3,ht,h4,h5] at h
    ·simp[h3,ht,h4] at h
   ·simp[h3] at h
 ·rw[if_neg h1] at h;exact absurd h h1
theorem heard_in {c:TK} (hc:Small c) (h:mCF c=0) {l:List Int} (hl:l ∈ c.2.2.2.2.2):∀a,a ∈ l→inB a c.2.2.2.2.1=true:=by
 intro a ha
 have hh:=mCF_heard h
 obtain⟨i,hi,rfl⟩:=List.getElem_of_mem hl
 have hz:=code_zero hh i _ (List.getElem?_eq_getElem hi)
 unfold mHeardL at hz
 have hv:=lB hc.votes
 have hbig:BIG=4611686018427387904:=rfl
 by_cases hany:(c.2.2.2.2.2[i].any fun a=>!mIn a 0 (IntKind.wrap .i64 ((c.2.2.2.2.1.length:Int) - 1)))=true
 ·rw[if_pos hany] at hz;cases hz
 ·simp only[List.any_eq_true,not_exists,not_and,Bool.not_eq_true',Bool.not_eq_false] at hany
  have:=hany a ha
  rw[wrap_id (by omega) (by omega)] at this
  simp only[mIn,Bool.and_eq_true,decide_eq_true_eq] at this
  simp only[inB,Bool.and_eq_true,decide_eq_true_eq]
  omega
def voteAt (c:TK) (a:Int):TV:=List.getD c.2.2.2.2.1 (Int.toNat a) (0,(0,(0,((0,0),0))))
def heardBy (c:TK) (k:Int):List Int:=List.getD c.2.2.2.2.2 (Int.toNat k) []
theorem hearer_in {c:TK} (hc:Small c) {k:Int} (h:mIn k 0 (IntKind.wrap .i64 ((c.2.2.2.2.2.length:Int) - 1))=true):inB k c.2.2.2.2.2=true∧heardBy c k ∈ c.2.2.2.2.2:=by
 have hv:=lB hc.heard
 have hbig:BIG=4611686018427387904:=rfl
 rw[wrap_id (by omega) (by omega)] at h
 simp only[mIn,Bool.and_eq_true,decide_eq_true_eq] at h
 refine⟨by simp only[inB,Bool.and_eq_true,decide_eq_true_eq];omega,?_⟩
 unfold heardBy
 rw[getD_nat _ _ _ (show k.toNat<c.2.2.2.2.2.length by omega)]
 exact List.getElem_mem _
def mLA (c:TK) (k:Int):Int×List Int:=if mCF c=0 then (if mIn k 0 (IntKind.wrap .i64 ((c.2.2.2.2.2.length:Int) - 1)) then (0,mLocks c ((heardBy c k).map (voteAt c))) else (3,[])) else (mCF c,[])
theorem P_impl_LocksAt (c:TK) (hc:Small c) (k:Int):F_impl_LocksAt c k=some (mLA c k):=by
 unfold F_impl_LocksAt mLA F_impl_Cluster_isHearer
 simp only[P_impl_ClusterFault c hc,P_impl_within,Option.bind_some,bif_code]
 split
 ·rename_i h
  cases hk:mIn k 0 (IntKind.wrap .i64 ((c.2.2.2.2.2.length:Int) - 1)) with
  | false=>rfl
  | true=>
   obtain⟨hi,hm⟩:=hearer_in hc hk
   have hin:=heard_in hc h hm
   have hll:=hc.heards _ hm
   simp only[Bool.not_true,cond_false,hi,cond_true,if_true]
   rw[show List.getD c.2.2.2.2.2 (Int.toNat k) []=heardBy c k from rfl]
   generalize heardBy c k=l at hin hll ⊢
   rw[loop_fold l (fun acc a=>acc++[voteAt c a]) (fun t i=>(t,i)) (fun t=>t) (fun t i=>t.length≤i) _ (fun i h t ht=>?_) (fun t ht=>by simp only[dge,cond_false]) ([]:List TV) (by simp),foldl_map,Option.bind_some,List.nil_append,P_impl_lockedBy c hc _ (by rw[List.length_map];exact lB hll)]
   ·rfl
   ·have h1:=append_one_lim t (voteAt c l[i]) i ht (Nat.lt_trans h hll)
    have h2:=hin l[i] (List.getElem_mem h)
    unfold voteAt at h1 ⊢
    simp only[dlt h,inB_nat _ i h,getD_toNat _ i _ h,cond_true,wsucc h (lB hll),h1,h2]
    exact⟨rfl,by simp;omega⟩
 ·rfl
theorem P_spec_LocksAt (c:TK) (hc:Small c) (k:Int):F_spec_LocksAt c k=some (mLA c k):=by
 unfold F_spec_LocksAt mLA F_spec_l12Known
 simp only[P_spec_l12Fault c hc,P_spec_l1In,Option.bind_some,bif_code]
 split
 ·rename_i h
  cases hk:mIn k 0 (IntKind.wrap .i64 ((c.2.2.2.2.2.length:Int) - 1)) with
  | false=>rfl
  | true=>
   obtain⟨hi,hm⟩:=hearer_in hc hk
   have hin:=heard_in hc h hm
   have hll:=hc.heards _ hm
   simp only[Bool.not_true,cond_false,hi,cond_true,if_true]
   rw[show List.getD c.2.2.2.2.2 (Int.toNat k) []=heardBy c k from rfl]
   generalize heardBy c k=l at hin hll ⊢
   rw[loop_fold l (fun acc a=>acc++[voteAt c a]) (fun t i=>(t,i)) (fun t=>t) (fun t i=>t.length≤i) _ (fun i h t ht=>?_) (fun t ht=>by simp only[dge,cond_false]) ([]:List TV) (by simp),foldl_map,Option.bind_some,Option.bind_some,List.nil_append,P_spec_l12Locks c hc _ (by rw[List.length_map];exact lB hll)]
   ·rfl
   ·have h1:=append_one_lim t (voteAt c l[i]) i ht (Nat.lt_trans h hll)
    have h2:=hin l[i] (List.getElem_mem h)
    unfold voteAt at h1 ⊢
    simp only[dlt h,inB_nat _ i h,getD_toNat _ i _ h,cond_true,wsucc h (lB hll),h1,h2]
    exact⟨rfl,by simp;omega⟩
 ·rfl
theorem mLA_len (c:TK) (hc:Small c) (k:Int):(mLA c k).2.length<LIM:=by
 unfold mLA
 split
 ·split
  ·exact Nat.lt_of_le_of_lt (mLocks_len _ _) hc.tree
  ·simp[LIM]
 ·simp[LIM]
theorem tree_high {t:List TN} (h:mTree t=0):∀i (hi:i<t.length),1≤t[i].2.2:=by
 unfold mTree at h
 by_cases hl:(60:Int)<(t.length:Int)
 ·rw[if_pos hl] at h;cases h
 ·rw[if_neg hl] at h
  intro i hi
  have:=code_zero h i _ (List.getElem?_eq_getElem hi)
  unfold mNode at this
  split at this
  ·rename_i hh
   simp only[Bool.and_eq_true,mIn,decide_eq_true_eq] at hh
   exact hh.2.1
  ·cases this
def highT (t:List TN) (k:Int):Int:=(List.getD t (Int.toNat (idT t k)) (0,(0,0))).2.2
def mBad (t:List TN) (n:TN) (k:Int):Bool:=!mRel t k n.1 || decide (n.2.2<highT t k)
def mFits (t:List TN) (n:TN) (l:List Int):Bool:=!l.any (mBad t n)
theorem P_spec_l9Fits (t:List TN) (hR:Right t) (n:TN) (l:List Int) (hl:l.length<BIG) (hin:∀k,k ∈ l→¬idT t k<0):F_spec_l9Fits t n l=some (mFits t n l):=by
 unfold F_spec_l9Fits mFits
 rw[loop_first l (fun _ k=>if mBad t n k then some false else none) _ (fun i h=>?_) (by simp only[dge,cond_false]),first_any,bind_first]
 ·cases l.any (mBad t n)<;>rfl
 ·simp only[dlt h,inB_nat _ i h,getD_toNat _ i _ h,cond_true,P_spec_l9Related t hR,P_spec_l9At t (right_BIG hR),Option.bind_some,wsucc h hl,idT_inB (hin _ (List.getElem_mem h))]
  unfold mBad highT
  rw[mRel_comm t l[i] n.1]
  cases mRel t n.1 l[i]
  ·rfl
  ·generalize (List.getD t (Int.toNat (idT t l[i])) (0,(0,0))).2.2=hh
   by_cases hd:n.2.2<hh<;>simp[hd]
theorem P_bestOf_c1 (t:List TN) (hR:Right t) (n:TN) (k:Int) (hin:¬idT t k<0):F_impl_bestOf_c1 k t n=some (mBad t n k):=by
 unfold F_impl_bestOf_c1 mBad highT
 simp only[P_impl_related t hR,P_impl_findNode t (right_BIG hR),Option.bind_some,idT_inB hin,cond_true]
 cases mRel t k n.1
 ·rfl
 ·by_cases hd:n.2.2<(List.getD t (Int.toNat (idT t k)) (0,(0,0))).2.2<;>simp[hd]
def bestStep (t:List TN) (l:List Int) (b n:TN):TN:=if mFits t n l&&decide (b.2.2<n.2.2) then n else b
theorem P_impl_bestOf (t:List TN) (hR:Right t) (l:List Int) (hl:l.length<BIG) (hin:∀k,k ∈ l→¬idT t k<0):F_impl_bestOf t l=some (t.foldl (bestStep t l) (0,0,0)).1:=by
 unfold F_impl_bestOf
 rw[loop_fold t (bestStep t l) (fun b i=>(i,b)) (fun b=>b) (fun _ _=>True) _ (fun i h b _=>?_) (fun b _=>by simp only[dge,cond_false]) (0,0,0) trivial]
 ·rfl
 ·refine⟨?_,trivial⟩
  simp only[dlt h,inB_nat _ i h,getD_toNat _ i _ h,cond_true,wsucc h (right_BIG hR)]
  rw[P_ContainsFunc_int l hl (mBad t t[i]) _ (fun k hk=>by rw[P_bestOf_c1 t hR _ _ (hin k hk)];rfl),Option.bind_some]
  unfold bestStep mFits
  cases l.any (mBad t t[i])
  ·by_cases hd:b.2.2<t[i].2.2<;>simp[hd]
  ·simp
theorem P_spec_l9Best (t:List TN) (hR:Right t) (hH:∀i (hi:i<t.length),1≤t[i].2.2) (l:List Int) (hl:l.length<BIG) (hin:∀k,k ∈ l→¬idT t k<0):F_spec_l9Best t l=some (t.foldl (bestStep t l) (0,0,0)).1:=by
 unfold F_spec_l9Best
 generalize hf:(fun (s23:Int×Int)=>_)=f
 have hB:=right_BIG hR
 have key:∀(n i:Nat) (k:Int) (b:TN),i+n=t.length→((k = -1∧b=(0,0,0))∨∃(j:Nat) (hj:j<t.length),k=(j:Int)∧b=t[j])→
   ∃k',loopO f (k,(i:Int))=some k'∧((k' = -1∧(t.drop i).foldl (bestStep t l) b=(0,0,0))∨∃(j:Nat) (hj:j<t.length),k'=(j:Int)∧(t.drop i).foldl (bestStep t l) b=t[j]):=by
  intro n
  induction n with
  | zero=>
   intro i k b hi hkb
   obtain rfl:i=t.length:=by omega
   refine⟨k,loopO_out (by rw[←hf];simp only[dge,cond_false]),?_⟩
   rw[List.drop_length]
   exact hkb
  | succ n ih=>
   intro i k b hi hkb
   have h:i<t.length:=by omega
   rw[List.drop_eq_getElem_cons h,List.foldl_cons]
   have hstep:f (k,(i:Int))=some (.inl (if mFits t t[i] l&&decide (b.2.2<t[i].2.2) then (i:Int) else k,((i+1:Nat):Int))):=by
    rw[←hf]
    simp only[dlt h,inB_nat _ i h,getD_toNat _ i _ h,cond_true,P_spec_l9Fits t hR _ l hl hin,Option.bind_some,wsucc h hB]
    rcases hkb with ⟨rfl,rfl⟩ | ⟨j,hj,rfl,rfl⟩
    ·have h1:=hH i h
     have hd:(0:Int)<t[i].2.2:=by omega
     cases mFits t t[i] l<;>simp[hd]
    ·have hneg:¬(j:Int)<0:=by omega
     cases mFits t t[i] l
     ·simp
     ·simp only[hneg,decide_false,cond_true,cond_false,inB_nat _ j hj,getD_toNat _ j _ hj,Option.bind_some,Bool.true_and]
      by_cases hd:t[j].2.2<t[i].2.2<;>simp[hd]
   obtain⟨k',h1,h2⟩:=ih (i+1) (if mFits t t[i] l&&decide (b.2.2<t[i].2.2) then (i:Int) else k) (bestStep t l b t[i]) (by omega) (by
    unfold bestStep
    cases hq:mFits t t[i] l&&decide (b.2.2<t[i].2.2) with
    | true=>exact .inr ⟨i,h,by simp,by simp⟩
    | false=>simpa using hkb)
   exact⟨k',(loopO_next hstep).trans h1,h2⟩
 obtain⟨k',h1,h2⟩:=key t.length 0 (-1) (0,0,0) (by omega) (.inl ⟨rfl,rfl⟩)
 rw[show ((0:Nat):Int)=0 from rfl] at h1
 rw[h1,Option.bind_some]
 simp only[List.drop_zero] at h2
 rcases h2 with ⟨rfl,h2⟩ | ⟨j,hj,rfl,h2⟩
 ·rw[h2];rfl
 ·rw[h2]
  have hneg:¬(j:Int)<0:=by omega
  simp only[hneg,decide_false,cond_false,inB_nat _ j hj,getD_toNat _ j _ hj,cond_true]
def mBest (t:List TN) (l:List Int):Int×Int:=if mTree t=0 then (if (20:Int)<(l.length:Int) then (2,0) else if l.any (fun k=>decide (idT t k<0)) then (4,0) else (0,(t.foldl (bestStep t l) (0,0,0)).1)) else (mTree t,0)
theorem P_impl_BestOf (t:List TN) (ht:t.length<BIG) (l:List Int) (hl:l.length<BIG):F_impl_BestOf t l=some (mBest t l):=by
 unfold F_impl_BestOf mBest
 simp only[P_impl_TreeFault t ht,Option.bind_some,bif_code]
 split
 ·rename_i h0
  by_cases h20:(20:Int)<(l.length:Int)
  ·simp[h20]
  ·rw[P_ContainsFunc_int l hl (fun k=>decide (idT t k<0)) _ (fun a _=>by unfold F_impl_BestOf_c1 F_impl_isIn;rw[P_impl_findNode t ht];simp only[Option.bind_some,nonneg_dec,Bool.not_not]),Option.bind_some]
   simp only[h20,decide_false,cond_false,if_false]
   cases hany:l.any (fun k=>decide (idT t k<0)) with
   | true=>rfl
   | false=>
    have hin:∀k,k ∈ l→¬idT t k<0:=fun k hk=>by
     rw[List.any_eq_false] at hany
     simpa using hany k hk
    rw[P_impl_bestOf t (right_of h0) l hl hin];rfl
 ·rfl
theorem P_spec_BestOf (t:List TN) (ht:t.length<BIG) (l:List Int) (hl:l.length<BIG):F_spec_BestOf t l=some (mBest t l):=by
 unfold F_spec_BestOf mBest
 simp only[P_spec_l9Fault t ht,Option.bind_some,bif_code]
 split
 ·rename_i h0
  by_cases h20:(20:Int)<(l.length:Int)
  ·simp[h20]
  ·simp only[h20,decide_false,cond_false,if_false]
   rw[loop_first l (fun _ k=>if decide (idT t k<0) then some ((4,0):Int×Int) else none) _ (fun i h=>by
    simp only[dlt h,inB_nat _ i h,getD_toNat _ i _ h,cond_true,P_spec_l9At t ht,Option.bind_some,wsucc h hl]
    by_cases hd:idT t l[i]<0<;>simp[hd]) (by simp only[dge,cond_false]),first_any,bind_first]
   cases hany:l.any (fun k=>decide (idT t k<0)) with
   | true=>rfl
   | false=>
    have hin:∀k,k ∈ l→¬idT t k<0:=fun k hk=>by
     rw[List.any_eq_false] at hany
     simpa using hany k hk
    simp only[Bool.false_eq_true,if_false]
    rw[P_spec_l9Best t (right_of h0) (tree_high h0) l hl hin];rfl
 ·rfl
theorem bestfor_same (c:TK) (hc:Small c) (k:Int):∃r,F_spec_BestFor c k=some r∧F_impl_BestFor c k=some r:=by
 unfold F_spec_BestFor F_impl_BestFor
 simp only[P_spec_LocksAt c hc,P_impl_LocksAt c hc,Option.bind_some,P_spec_BestOf _ (lB hc.tree) _ (lB (mLA_len c hc k)),P_impl_BestOf _ (lB hc.tree) _ (lB (mLA_len c hc k))]
 cases decide ((mLA c k).1=0)
 ·exact⟨_,rfl,rfl⟩
 ·exact⟨_,rfl,rfl⟩
end CL
end Go.Dx
set_option maxHeartbeats 2000000
namespace Go.Dx
namespace CL
end CL
end Go.Dx
set_option maxHeartbeats 2000000
namespace Go.Dx
namespace CL
theorem P_impl_ownVoter (v:TR) (h:v.2.2.length<LIM):F_impl_ownVoter v=some v:=by
 unfold F_impl_ownVoter;rw[P_Clone_choice _ (Nat.le_of_lt h)];rfl
theorem foldl_id {α:Type} (l:List α):l.foldl (fun acc a=>acc++[a]) []=l:=by
 have:=foldl_map (fun a:α=>a) l []
 simpa using this
theorem P_impl_ownCluster (c:TK) (hc:Small c):F_impl_ownCluster c=some c:=by
 unfold F_impl_ownCluster
 rw[P_Clone_int _ (Nat.le_of_lt hc.keys),Option.bind_some,P_Clone_int _ (Nat.le_of_lt hc.bad),Option.bind_some,P_Clone_node _ (Nat.le_of_lt hc.tree),Option.bind_some,P_Clone_vote _ (Nat.le_of_lt hc.votes),Option.bind_some]
 rw[loop_fold c.2.2.2.1 (fun acc v=>acc++[v]) (fun t i=>(i,((c.1.1,c.1.2),c.2.1,c.2.2.1,t,c.2.2.2.2.1,([]:List (List Int))))) (fun t=>((c.1.1,c.1.2),c.2.1,c.2.2.1,t,c.2.2.2.2.1,([]:List (List Int)))) (fun t i=>t.length≤i) _ (fun i h t ht=>?_) (fun t ht=>by simp only[dge,cond_false]) ([]:List TR) (by simp),Option.bind_some,foldl_id,
  loop_fold c.2.2.2.2.2 (fun acc v=>acc++[v]) (fun t i=>(i,((c.1.1,c.1.2),c.2.1,c.2.2.1,c.2.2.2.1,c.2.2.2.2.1,t))) (fun t=>((c.1.1,c.1.2),c.2.1,c.2.2.1,c.2.2.2.1,c.2.2.2.2.1,t)) (fun t i=>t.length≤i) _ (fun i h t ht=>?_) (fun t ht=>by simp only[dge,cond_false]) ([]:List (List Int)) (by simp),Option.bind_some,foldl_id]
 ·have h1:=append_one_lim t c.2.2.2.2.2[i] i ht (Nat.lt_trans h hc.heard)
  simp only[dlt h,inB_nat _ i h,getD_toNat _ i _ h,cond_true,wsucc h (lB hc.heard),P_Clone_int _ (Nat.le_of_lt (hc.heards _ (List.getElem_mem h))),Option.bind_some,h1]
  exact⟨rfl,by simp;omega⟩
 ·have h1:=append_one_lim t c.2.2.2.1[i] i ht (Nat.lt_trans h hc.voters)
  simp only[dlt h,inB_nat _ i h,getD_toNat _ i _ h,cond_true,wsucc h (lB hc.voters),P_impl_ownVoter _ (hc.choices _ (List.getElem_mem h)),Option.bind_some,h1]
  exact⟨rfl,by simp;omega⟩
def noK:TK:=(([],0),[],[],[],[],[])
def errK (k:Int):Int×TK:=(k,noK)
theorem tree_60 {t:List TN} (h:mTree t=0):t.length≤60:=(right_of h).len
def mAdd (t:List TN) (n:TN):Int×List TN:=if mNode t n=0 then (if t.length=60 then (2,[]) else (0,t++[n])) else (mNode t n,[])
theorem P_impl_addNode (t:List TN) (h:t.length<1000) (n:TN):F_impl_addNode t n=some ((mAdd t n).2,(mAdd t n).1):=by
 have hL:LIM=1073741824:=rfl
 unfold F_impl_addNode mAdd
 rw[P_impl_nodeFault t (by unfold BIG;omega),Option.bind_some,bif_code]
 split
 ·by_cases h6:t.length=60
  ·simp[h6]
  ·rw[if_neg h6,show decide ((t.length:Int)=60)=false by simp;omega,cond_false,P_Clone_node t (by omega),Option.bind_some,append_one_lim t n 1000 (by omega) (by omega)]
   rfl
 ·rfl
def mGrow (c:TK) (n:TN):Int×TK:=if mCF c=0 then (if (mAdd c.2.2.1 n).1=0 then (0,(c.1,c.2.1,(mAdd c.2.2.1 n).2,c.2.2.2)) else errK (mAdd c.2.2.1 n).1) else errK (mCF c)
theorem P_impl_GrowTree (c:TK) (hc:Small c) (n:TN):F_impl_GrowTree c n=some (mGrow c n):=by
 unfold F_impl_GrowTree mGrow
 rw[P_impl_ClusterFault c hc,Option.bind_some,bif_code]
 split
 ·rename_i h
  have:=tree_60 (mCF_tree h)
  rw[P_impl_addNode _ (by omega),Option.bind_some,bif_code]
  split
  ·rw[P_impl_ownCluster c hc];rfl
  ·rfl
 ·rfl
theorem mCF_votes {c:TK} (h:mCF c=0):c.2.2.2.2.1.length≤100:=by
 unfold mCF at h
 by_cases h1:mQF c.1=0
 ·rw[if_pos h1] at h
  cases h2:mMany c with
  | true=>rw[h2] at h;cases h
  | false=>
   unfold mMany at h2
   simp only[Bool.or_eq_false_iff,decide_eq_false_iff_not] at h2
   omega
 ·rw[if_neg h1] at h;exact absurd h h1
def withVote (c:TK) (x:TV):TK:=(c.1,c.2.1,c.2.2.1,c.2.2.2.1,c.2.2.2.2.1++[x],c.2.2.2.2.2)
def mPut (c:TK) (x:TV):Int×TK:=if x ∈ c.2.2.2.2.1 then (0,c) else if c.2.2.2.2.1.length=100 then errK 2 else (0,withVote c x)
theorem P_impl_put (c:TK) (hv:c.2.2.2.2.1.length≤100) (x:TV):F_impl_Cluster_put c x=some (if x ∈ c.2.2.2.2.1 then (0,c) else if c.2.2.2.2.1.length=100 then (2,c) else (0,withVote c x)):=by
 have hL:LIM=1073741824:=rfl
 unfold F_impl_Cluster_put
 rw[P_Contains_vote _ (by unfold BIG;omega),Option.bind_some]
 by_cases hm:x ∈ c.2.2.2.2.1
 ·simp[hm]
 ·rw[decide_eq_false hm,if_neg hm,cond_false]
  by_cases h1:c.2.2.2.2.1.length=100
  ·rw[if_pos h1,show decide ((c.2.2.2.2.1.length:Int)=100)=true by simp;omega];rfl
  ·rw[if_neg h1,show decide ((c.2.2.2.2.1.length:Int)=100)=false by simp;omega,cond_false,append_one_lim _ x 100 hv (by omega)];rfl
theorem put_end (c:TK) (hv:c.2.2.2.2.1.length≤100) (x:TV):((F_impl_Cluster_put c x).bind fun (y18:Int×TK)=>bif (!decide ((y18.1:Int)=0)) then some (y18.1,noK) else some (0,y18.2))=some (mPut c x):=by
 rw[P_impl_put c hv,Option.bind_some]
 unfold mPut
 by_cases hm:x ∈ c.2.2.2.2.1
 ·simp[hm]
 ·by_cases h1:c.2.2.2.2.1.length=100
  ·simp[hm,h1,errK]
  ·simp[hm,h1]
def mForge (c:TK) (x:TV):Int×TK:=if mCF c=0 then (if mVote x=0 then (if x.1 ∈ c.2.1∧x.1 ∈ c.1.1 then mPut c x else errK 6) else errK (mVote x)) else errK (mCF c)
theorem P_impl_ForgeAt (c:TK) (hc:Small c) (x:TV):F_impl_ForgeAt c x=some (mForge c x):=by
 unfold F_impl_ForgeAt mForge
 simp only[P_impl_ClusterFault c hc,P_impl_VoteFault,P_Contains_int _ (lB hc.bad),P_Contains_int _ (lB hc.keys),P_impl_ownCluster c hc,Option.bind_some]
 rw[bif_code,bif_code]
 split
 ·rename_i h
  have hp:=put_end c (mCF_votes h) x
  split
  ·by_cases h1:x.1 ∈ c.2.1<;>by_cases h2:x.1 ∈ c.1.1
   ·simp only[h1,h2,decide_true,Bool.not_true,cond_false,Option.bind_some,and_self,if_true]
    exact hp
   ·simp[h1,h2];rfl
   ·simp[h1];rfl
   ·simp[h1];rfl
  ·rfl
 ·rfl
end CL
end Go.Dx
set_option maxHeartbeats 2000000
namespace Go.Dx
namespace CL
abbrev VV:=Int×TV×TR
def noVV (k:Int):VV:=(k,((0,(0,(0,((0,0),0)))),(0,(0,[]))))
def setV (c:TK) (k:Int) (v:TR):TK:=(c.1,(c.2.1,(c.2.2.1,(List.set c.2.2.2.1 (Int.toNat k) v,c.2.2.2.2))))
def mVoted (c:TK) (k:Int) (y:VV):Int×TK:=if y.1=0 then mPut (setV c k y.2.2) y.2.1 else errK y.1
def mVB2 (c:TK) (key:Int) (g:TR→VV):Int×TK:=if mCF c=0 then (if vAt c key<0 then errK 4 else mVoted c (vAt c key) (g (vOf c key))) else errK (mCF c)
theorem P_impl_voted (c:TK) (hc:Small c) (hv:c.2.2.2.2.1.length≤100) (key:Int) (g:TR→VV) (f:TR→Option VV) (hf:vOf c key ∈ c.2.2.2.1→f (vOf c key)=some (g (vOf c key))):F_impl_voted c key f=some (if vAt c key<0 then errK 4 else mVoted c (vAt c key) (g (vOf c key))):=by
 unfold F_impl_voted
 rw[P_impl_findVoter c hc,Option.bind_some]
 by_cases hn:vAt c key<0
 ·rw[decide_eq_true hn,if_pos hn];rfl
 ·rw[decide_eq_false hn,if_neg hn]
  obtain⟨hm,hi⟩:=vOf_mem hn
  simp only[cond_false,hi,cond_true]
  rw[show List.getD c.2.2.2.1 (Int.toNat (vAt c key)) (0,(0,[]))=vOf c key from rfl,hf hm,Option.bind_some]
  generalize g (vOf c key)=y
  unfold mVoted
  by_cases h:y.1=0
  ·rw[if_pos h,decide_eq_true h,Bool.not_true,cond_false,P_impl_ownCluster c hc,Option.bind_some,hi,cond_true]
   exact put_end (setV c (vAt c key) y.2.2) hv y.2.1
  ·rw[if_neg h,decide_eq_false h];rfl
def gCast (t:List TN) (id:Int) (v:TR):VV:=
 if idT t id<0 then noVV 4
 else if v.2.1=id∨(v.2.1 ≠ 0∧mAbove t v.2.1 id=false) then noVV 10
 else (0,((v.1,(1,(id,((0,0),0)))),(v.1,(id,v.2.2))))
theorem P_impl_castFor (t:List TN) (hR:Right t) (v:TR) (hv:v.2.2.length<LIM) (id:Int):F_impl_castFor t v id=some (gCast t id v):=by
 unfold F_impl_castFor gCast F_impl_isIn
 rw[P_impl_findNode t (right_BIG hR),Option.bind_some,Option.bind_some,nonneg_dec]
 by_cases h:idT t id<0
 ·rw[decide_eq_true h,if_pos h];rfl
 ·rw[decide_eq_false h,if_neg h]
  simp only[Bool.not_false,Bool.not_true,cond_false,P_impl_isAbove t hR,P_impl_ownVoter v hv,Option.bind_some]
  by_cases h0:v.2.1=0
  ·by_cases h1:v.2.1=id
   ·rw[if_pos (Or.inl h1),decide_eq_true h0,decide_eq_true h1];rfl
   ·rw[if_neg (by rintro (h2 | h2);exact h1 h2;exact h2.1 h0),decide_eq_true h0,decide_eq_false h1];rfl
  ·by_cases h1:v.2.1=id
   ·rw[if_pos (Or.inl h1),decide_eq_false h0,decide_eq_true h1]
    cases mAbove t v.2.1 id<;>rfl
   ·rw[decide_eq_false h0,decide_eq_false h1]
    cases hm:mAbove t v.2.1 id
    ·rw[if_pos (Or.inr ⟨h0,rfl⟩)];rfl
    ·rw[if_neg (by rintro (h2 | h2);exact h1 h2;cases h2.2)];rfl
theorem P_impl_CastAt (c:TK) (hc:Small c) (key id:Int):F_impl_CastAt c key id=some (mVB2 c key (gCast c.2.2.1 id)):=by
 unfold F_impl_CastAt mVB2
 rw[P_impl_ClusterFault c hc,Option.bind_some,bif_code]
 split
 ·rename_i h
  rw[P_impl_voted c hc (mCF_votes h) key (gCast c.2.2.1 id) _ (fun hm=>by unfold F_impl_CastAt_c1;rw[P_impl_castFor _ (mCF_right h) _ (hc.choices _ hm)];rfl)]
  rfl
 ·rfl
def chTx (v:TR) (r:Int×Int):Int:=(List.getD v.2.2 (Int.toNat (chAt v r)) ((0,0),0)).2
def mChosen (v:TR) (r:Int×Int) (tx:Int):VV:=
 if chAt v r<0 then (if v.2.2.length=40 then noVV 2 else (0,((v.1,(2,(0,(r,tx)))),(v.1,(v.2.1,v.2.2++[(r,tx)])))))
 else if chTx v r=tx then (0,((v.1,(2,(0,(r,tx)))),v)) else noVV 7
def gChoose (r:Int×Int) (tx:Int) (v:TR):VV:=if mVoter v=0 then (if (mRef r&&mIn tx 1 60)=true then mChosen v r tx else noVV 3) else noVV (mVoter v)
theorem chAt_in {v:TR} {r:Int×Int} (h:¬chAt v r<0):inB (chAt v r) v.2.2=true:=idxF_inB (by unfold chAt at h;omega)
theorem voter_40 {v:TR} (h:mVoter v=0):v.2.2.length≤40:=by
 unfold mVoter at h
 split at h
 ·split at h
  ·cases h
  ·omega
 ·cases h
theorem voter_tx {v:TR} (h:mVoter v=0) {r:Int×Int} (hr:¬chAt v r<0):chTx v r ≠ 0:=by
 have hany:v.2.2.any (fun c=>decide (c.1=r))=true:=by
  rw[←idxF_nonneg];unfold chAt at hr;simp;omega
 obtain⟨k,hk,h1,_⟩:=idxF_found hany
 unfold mVoter at h
 split at h
 ·split at h
  ·cases h
  ·have:=code_zero h k _ (List.getElem?_eq_getElem hk)
   unfold mChoice at this
   split at this
   ·rename_i hh
    unfold chTx chAt
    rw[h1,Int.toNat_natCast,getD_nat _ k _ hk]
    simp only[Bool.and_eq_true,mIn,decide_eq_true_eq] at hh
    omega
   ·cases this
 ·cases h
theorem P_impl_chosen (v:TR) (hv:v.2.2.length<LIM) (r:Int×Int):F_impl_Voter_chosen v r=some (if chAt v r<0 then 0 else chTx v r):=by
 unfold F_impl_Voter_chosen
 rw[P_IndexFunc_choice _ (lB hv) (fun c=>decide (c.1=r)) _ (fun a _=>by unfold F_impl_Voter_chosen_c1;rw[beqP2];rfl),Option.bind_some]
 rw[show idxF (fun (c:TC)=>decide (c.1=r)) v.2.2=chAt v r from rfl]
 by_cases h2:chAt v r<0
 ·simp[h2]
 ·simp[h2,chAt_in h2];rfl
theorem P_impl_ChooseFor (v:TR) (hv:v.2.2.length<LIM) (r:Int×Int) (tx:Int):F_impl_ChooseFor v r tx=some (gChoose r tx v):=by
 have hL:LIM=1073741824:=rfl
 unfold F_impl_ChooseFor gChoose
 rw[P_impl_VoterFault v (lB hv),Option.bind_some,bif_code]
 split
 ·rename_i h
  have h40:=voter_40 h
  simp only[P_impl_isRef,P_impl_isId,P_impl_ownVoter v hv,P_impl_chosen v hv,Option.bind_some]
  cases hr:mRef r
  ·rfl
  cases htx:mIn tx 1 60
  ·rfl
  have ht0:tx ≠ 0:=by simp only[mIn,Bool.and_eq_true,decide_eq_true_eq] at htx;omega
  simp only[Bool.not_true,cond_false,Option.bind_some,Bool.and_self,if_true]
  unfold mChosen
  by_cases hn:chAt v r<0
  ·rw[if_pos hn,if_pos hn,decide_eq_false (show ¬((0:Int)=tx) by omega),decide_eq_true (show (0:Int)=0 from rfl)]
   by_cases h4:v.2.2.length=40
   ·rw[if_pos h4,show decide ((v.2.2.length:Int)=40)=true by simp;omega];rfl
   ·rw[if_neg h4,show decide ((v.2.2.length:Int)=40)=false by simp;omega]
    simp only[append_one_lim v.2.2 (r,tx) 100 (by omega) (by omega)]
    rfl
  ·rw[if_neg hn,if_neg hn]
   by_cases ht:chTx v r=tx
   ·rw[if_pos ht,decide_eq_true ht];rfl
   ·rw[if_neg ht,decide_eq_false ht,decide_eq_false (voter_tx h hn)];rfl
 ·rfl
theorem P_impl_ChooseAt (c:TK) (hc:Small c) (key:Int) (r:Int×Int) (tx:Int):F_impl_ChooseAt c key r tx=some (mVB2 c key (gChoose r tx)):=by
 unfold F_impl_ChooseAt mVB2
 rw[P_impl_ClusterFault c hc,Option.bind_some,bif_code]
 split
 ·rename_i h
  rw[P_impl_voted c hc (mCF_votes h) key (gChoose r tx) _ (fun hm=>by unfold F_impl_ChooseAt_c1;rw[P_impl_ChooseFor _ (hc.choices _ hm)];rfl)]
  rfl
 ·rfl
end CL
end Go.Dx
set_option maxHeartbeats 2000000
namespace Go.Dx
namespace CL
def hearB (c:TK) (k a:Int):TK:=(c.1,(c.2.1,(c.2.2.1,(c.2.2.2.1,(c.2.2.2.2.1,List.set c.2.2.2.2.2 (Int.toNat k) (List.append (heardBy c k) [a]))))))
def mHear (c:TK) (k a:Int):Int×TK:=if mCF c=0 then (if (mIn k 0 (IntKind.wrap .i64 ((c.2.2.2.2.2.length:Int) - 1))&&mIn a 0 (IntKind.wrap .i64 ((c.2.2.2.2.1.length:Int) - 1)))=true then (0,if a ∈ heardBy c k then c else hearB c k a) else errK 3) else errK (mCF c)
theorem hear_end (c:TK) (hc:Small c) (k a:Int) (hi:inB k c.2.2.2.2.2=true) (hm:heardBy c k ∈ c.2.2.2.2.2) (t:Bool) (ht:t=true) :
  ((bif (!decide (a ∈ heardBy c k)) then
 bif (inB k c.2.2.2.2.2) then
 bif decide (List.length (heardBy c k)+List.length ([a]:List Int)≤LIM) then
 bif (inB k c.2.2.2.2.2) then
 bif t then
 some (hearB c k a)
 else none
 else none
 else none
 else none
 else
 some c:Option TK).bind fun (j:TK)=>some ((0:Int),j))=some ((0:Int),if a ∈ heardBy c k then c else hearB c k a):=by
 have hl:=hc.heards _ hm
 have hlim:decide (List.length (heardBy c k)+List.length ([a]:List Int)≤LIM)=true:=by simp;omega
 by_cases ha:a ∈ heardBy c k
 ·simp[ha]
 ·rw[decide_eq_false ha,if_neg ha,hi,hlim,ht];rfl
theorem P_impl_HearAt (c:TK) (hc:Small c) (k a:Int):F_impl_HearAt c k a=some (mHear c k a):=by
 unfold F_impl_HearAt mHear F_impl_Cluster_isHearer
 simp only[P_impl_ClusterFault c hc,P_impl_within,Option.bind_some,bif_code]
 split
 ·rename_i h
  cases hk:mIn k 0 (IntKind.wrap .i64 ((c.2.2.2.2.2.length:Int) - 1)) with
  | false=>rfl
  | true=>
   cases ha:mIn a 0 (IntKind.wrap .i64 ((c.2.2.2.2.1.length:Int) - 1)) with
   | false=>rfl
   | true=>
    obtain⟨hi,hm⟩:=hearer_in hc hk
    simp only[Bool.not_true,cond_false,Option.bind_some,P_impl_ownCluster c hc,Bool.and_self,if_true]
    rw[hi,cond_true,show List.getD c.2.2.2.2.2 (Int.toNat k) []=heardBy c k from rfl,P_Contains_int _ (lB (hc.heards _ hm)),Option.bind_some]
    have:=hear_end c hc k a hi hm (decide True) (by simp)
    rw[hi] at this
    exact this
 ·rfl
end CL
end Go.Dx
set_option maxHeartbeats 2000000
namespace Go.Dx
namespace CL
theorem P_spec_l10Bad (l b:List Int) (hl:l.length<BIG) (hb:b.length<BIG):F_spec_l10Bad l b=some ((l.countP fun k=>decide (k ∈ b):Nat):Int):=by
 unfold F_spec_l10Bad
 rw[loop_fold l (fun (n:Int) k=>if decide (k ∈ b) then n+1 else n) (fun t i=>(t,i)) (fun t=>t) (fun t i=>0≤t∧t≤(i:Int)) _ (fun i h t ht=>?_) (fun t ht=>by simp only[dge,cond_false]) (0:Int) (by simp),foldl_count]
 ·simp
 ·have hbig:(BIG:Int)=4611686018427387904:=rfl
  simp only[dlt h,inB_nat l i h,getD_toNat l i _ h,cond_true,P_spec_l4Among b hb,Option.bind_some,wsucc h hl]
  cases decide (l[i] ∈ b)
  ·exact⟨rfl,by simp;omega⟩
  ·rw[wrap_id (n:=t+1) (by omega) (by omega)]
   exact⟨rfl,by simp;omega⟩
theorem P_impl_meetOf (l b:List Int) (hl:l.length<LIM) (hb:b.length<BIG):F_impl_meetOf l b=some (l.filter fun k=>decide (k ∈ b)):=by
 unfold F_impl_meetOf
 rw[P_Clone_int _ (Nat.le_of_lt hl),Option.bind_some,P_DeleteFunc_int l (lB hl) (fun k=>!decide (k ∈ b)) _ (fun a _=>by unfold F_impl_meetOf_c1;rw[P_Contains_int b hb];rfl)]
 simp
def mSafe (c:TK):Bool:=decide (((c.1.1.countP fun k=>decide (k ∈ c.2.1):Nat):Int)<IntKind.wrap .i64 (IntKind.wrap .i64 (2 * c.1.2) - (c.1.1.length:Int)))
theorem P_spec_l10Safe (c:TK) (hc:Small c):F_spec_l10Safe c.1 c.2.1=some (mSafe c):=by
 unfold F_spec_l10Safe mSafe
 rw[P_spec_l10Bad _ _ (lB hc.keys) (lB hc.bad)];rfl
theorem P_impl_IsSafe (c:TK) (hc:Small c) (h:mQF c.1=0):F_impl_IsSafe c.1 c.2.1=some (mSafe c):=by
 unfold F_impl_IsSafe mSafe F_impl_Quorum_badIn
 rw[P_impl_QuorumFault _ (lB hc.keys),Option.bind_some,h,P_impl_meetOf _ _ hc.keys (lB hc.bad)]
 simp[List.countP_eq_length_filter]
theorem mCF_QF {c:TK} (h:mCF c=0):mQF c.1=0:=by
 unfold mCF at h
 by_cases hq:mQF c.1=0
 ·exact hq
 ·rw[if_neg hq] at h;exact h
end CL
end Go.Dx
set_option maxHeartbeats 2000000
namespace Go.Dx
namespace CL
theorem mCF_parts {c:TK} (h:mCF c=0):mQF c.1=0∧mTree c.2.2.1=0∧mVoters c=0∧mVotes c=0∧mHeard c=0:=by
 unfold mCF at h
 by_cases h1:mQF c.1=0
 ·rw[if_pos h1] at h
  cases h2:mMany c with
  | true=>rw[h2] at h;cases h
  | false=>
   rw[h2,if_neg (by simp)] at h
   by_cases h3:mBF c.2.1=0
   ·rw[if_pos h3] at h
    by_cases h4:mTree c.2.2.1=0
    ·rw[if_pos h4] at h
     by_cases h5:mVoters c=0
     ·rw[if_pos h5] at h
      by_cases h6:mVotes c=0
      ·rw[if_pos h6] at h;exact⟨h1,h4,h5,h6,h⟩
      ·rw[if_neg h6] at h;exact absurd h h6
     ·rw[if_neg h5] at h;exact absurd h h5
    ·rw[if_neg h4] at h;exact absurd h h4
   ·rw[if_neg h3] at h;exact absurd h h3
 ·rw[if_neg h1] at h;exact absurd h h1
theorem pigeon {α:Type} (p q b:α→Bool):∀(l:List α),l.length+l.countP b<l.countP p+l.countP q→∃k,k ∈ l∧p k=true∧q k=true∧b k=false
 | [],h=>by simp at h
 | a::l,h=>by
  simp only[List.countP_cons,List.length_cons] at h
  have ih:=pigeon p q b l
  have next:l.length+l.countP b<l.countP p+l.countP q→∃k,k ∈ a::l∧p k=true∧q k=true∧b k=false:=fun hh=>by
   obtain⟨k,h1,h2⟩:=ih hh
   exact⟨k,List.mem_cons_of_mem _ h1,h2⟩
  cases hp:p a<;>cases hq:q a<;>cases hb:b a<;>simp only[hp,hq,hb] at h<;>first | exact⟨a,List.mem_cons_self,hp,hq,hb⟩ | exact next (by simp at h;omega)
theorem quorum_num {c:TK} (h:mQF c.1=0):1≤c.1.2∧c.1.2≤(c.1.1.length:Int)∧c.1.1.length≤8:=by
 unfold mQF at h
 split at h
 ·rename_i h1
  split at h
  ·rename_i h2
   simp only[mIn,Bool.and_eq_true,decide_eq_true_eq] at h1 h2
   exact⟨h2.2.1,h2.2.2,by omega⟩
  ·cases h
 ·cases h
theorem good_voter {c:TK} (h:mCF c=0) (hs:mSafe c=true) {x y:TV} (hx:c.1.2≤mCount c.2.2.2.2.1 c.1 x) (hy:c.1.2≤mCount c.2.2.2.2.1 c.1 y) :
  ∃k,(k,x.2) ∈ c.2.2.2.2.1∧(k,y.2) ∈ c.2.2.2.2.1∧¬vAt c k<0:=by
 obtain⟨h1,_,h3,_⟩:=mCF_parts h
 obtain⟨n1,n2,n3⟩:=quorum_num h1
 unfold mSafe at hs
 rw[wrap_id (n:=2 * c.1.2) (by omega) (by omega),wrap_id (by omega) (by omega)] at hs
 have hs:=of_decide_eq_true hs
 unfold mCount at hx hy
 obtain⟨k,hk,hp,hq,hb⟩:=pigeon (fun k=>decide ((k,x.2) ∈ c.2.2.2.2.1)) (fun k=>decide ((k,y.2) ∈ c.2.2.2.2.1)) (fun k=>decide (k ∈ c.2.1)) c.1.1 (by omega)
 exact⟨k,of_decide_eq_true hp,of_decide_eq_true hq,fun hv=>of_decide_eq_false hb ((mem_good (voters_good h3) hk).1 hv)⟩
theorem vote_stands {c:TK} (h:mCF c=0) {x:TV} (hx:x ∈ c.2.2.2.2.1):mVote x=0∧mStands c x=true:=by
 obtain⟨_,_,_,h4,_⟩:=mCF_parts h
 obtain⟨i,hi,rfl⟩:=List.getElem_of_mem hx
 have:=code_zero h4 i _ (List.getElem?_eq_getElem hi)
 unfold mVotesC at this
 split at this
 ·rename_i hv
  refine⟨hv,?_⟩
  split at this
  ·split at this
   ·cases this
   ·split at this
    ·assumption
    ·cases this
  ·cases this
 ·rename_i hv;exact absurd this hv
theorem up_mono (t:List TN):∀(n:Nat) (b a:Int),a ∈ up t n b→a ∈ up t (n+1) b
 | 0,b,a,h=>by simp[up] at h
 | n+1,b,a,h=>by
  unfold up at h ⊢
  split at h
  ·cases h
  ·rename_i hb
   rw[if_neg hb]
   rcases List.mem_cons.1 h with h | h
   ·exact List.mem_cons.2 (.inl h)
   ·exact List.mem_cons.2 (.inr (up_mono t n _ a h))
theorem up_rel (t:List TN):∀(n:Nat) (x a b:Int),a ∈ up t n x→b ∈ up t n x→b ∈ up t n a∨a ∈ up t n b
 | 0,x,a,b,h,_=>by simp[up] at h
 | n+1,x,a,b,ha,hb=>by
  have ha':=ha
  have hb':=hb
  unfold up at ha hb
  split at ha
  ·cases ha
  ·rename_i hx
   rw[if_neg hx] at hb
   rcases List.mem_cons.1 ha with h | h
   ·subst h;exact .inl hb'
   ·rcases List.mem_cons.1 hb with h2 | h2
    ·subst h2;exact .inr ha'
    ·exact (up_rel t n _ a b h h2).imp (up_mono t n _ _) (up_mono t n _ _)
theorem above_rel {t:List TN} {x a b:Int} (ha:mAbove t a x=true) (hb:mAbove t b x=true):mRel t a b=true:=by
 unfold mAbove at ha hb
 unfold mRel mAbove
 rcases up_rel t t.length x a b (of_decide_eq_true ha) (of_decide_eq_true hb) with h | h
 ·rw[Bool.or_eq_true];exact .inr (decide_eq_true h)
 ·rw[Bool.or_eq_true];exact .inl (decide_eq_true h)
theorem stands_block {c:TK} {z:TV} (h3:¬vAt c z.1<0) (h2:z.2.1=1) (s:mStands c z=true):mAbove c.2.2.1 z.2.2.1 (vOf c z.1).2.1=true:=by
 unfold mStands at s
 rw[if_neg h3,if_pos h2] at s
 exact s
theorem locked_rel {c:TK} (h:mCF c=0) (hs:mSafe c=true) {a b:Int} (ha:a ∈ mLocks c c.2.2.2.2.1) (hb:b ∈ mLocks c c.2.2.2.2.1):mRel c.2.2.1 a b=true:=by
 unfold mLocks at ha hb
 obtain⟨na,ha',rfl⟩:=List.mem_map.1 ha
 obtain⟨nb,hb',rfl⟩:=List.mem_map.1 hb
 have ha:=of_decide_eq_true (List.mem_filter.1 ha').2
 have hb:=of_decide_eq_true (List.mem_filter.1 hb').2
 obtain⟨k,h1,h2,h3⟩:=good_voter h hs ha hb
 obtain⟨_,s1⟩:=vote_stands h h1
 obtain⟨_,s2⟩:=vote_stands h h2
 exact above_rel (stands_block (z:=(k,(nodeVote na).2)) h3 rfl s1) (stands_block (z:=(k,(nodeVote nb).2)) h3 rfl s2)
end CL
end Go.Dx
set_option maxHeartbeats 2000000
namespace Go.Dx
namespace CL
def mPrem (c:TK):Bool:=decide (mCF c=0)&&mSafe c
theorem premise_is (c:TK) (hc:Small c):F_spec_PremiseOf c=some (mPrem c)∧F_impl_PremiseOf c=some (mPrem c):=by
 unfold F_spec_PremiseOf F_impl_PremiseOf mPrem
 simp only[P_spec_l12Fault c hc,P_impl_ClusterFault c hc,Option.bind_some]
 by_cases h:mCF c=0
 ·simp only[h,decide_true,cond_true,P_spec_l10Safe c hc,P_impl_IsSafe c hc (mCF_QF h),Option.bind_some,Bool.true_and]
  exact⟨trivial,trivial⟩
 ·simp only[h,decide_false,cond_false,Option.bind_some,Bool.false_and]
  exact⟨trivial,trivial⟩
end CL
end Go.Dx
set_option maxHeartbeats 2000000
namespace Go.Dx
namespace CL
theorem code_of {α:Type} {c:Nat→α→Int} {l:List α} (h:∀i a,l[i]? = some a→c i a=0):code c l=0:=by
 unfold code
 rw[(first_none l 0).2 (fun i a ha=>by rw[Nat.zero_add,if_pos (h i a ha)])]
theorem nodup_take {α:Type} (l:List α):(∀i a,l[i]? = some a→a ∉ l.take i)↔l.Nodup:=by
 unfold List.Nodup
 rw[List.pairwise_iff_getElem]
 constructor
 ·intro h i j hi hj hij he
  refine h j _ (List.getElem?_eq_getElem hj) ?_
  rw[List.mem_take_iff_getElem]
  exact⟨i,by omega,he⟩
 ·intro h i a ha hm
  obtain⟨hi,rfl⟩:=List.getElem?_eq_some_iff.1 ha
  rw[List.mem_take_iff_getElem] at hm
  obtain⟨k,hk,hke⟩:=hm
  exact h k i (by omega) hi (by omega) hke
def standsV (t:List TN) (v:TR) (x:TV):Bool:=
 if x.2.1=1 then mAbove t x.2.2.1 v.2.1
 else !decide (chAt v x.2.2.2.1<0)&&decide ((List.getD v.2.2 (Int.toNat (chAt v x.2.2.2.1)) ((0,0),0)).2=x.2.2.2.2)
theorem stands_eq (c:TK) (x:TV):mStands c x=if vAt c x.1<0 then true else standsV c.2.2.1 (vOf c x.1) x:=rfl
structure RC (c:TK):Prop where
 q:mQF c.1=0
 many:mMany c=false
 bad:mBF c.2.1=0
 tree:mTree c.2.2.1=0
 keys:c.2.2.2.1.map (·.1)=mGood c.1 c.2.1
 voter:∀v,v ∈ c.2.2.2.1→mVoter v=0
 vote:∀x,x ∈ c.2.2.2.2.1→mVote x=0∧x.1 ∈ c.1.1∧mStands c x=true
 nodup:c.2.2.2.2.1.Nodup
 heard:∀l,l ∈ c.2.2.2.2.2→(∀a,a ∈ l→0≤a∧a<(c.2.2.2.2.1.length:Int))∧l.Nodup
theorem many_nums {c:TK} (h:mMany c=false):c.2.1.length≤20∧c.2.2.2.2.1.length≤100∧1≤c.2.2.2.2.2.length∧c.2.2.2.2.2.length≤4:=by
 unfold mMany mIn at h
 simp only[Bool.or_eq_false_iff,decide_eq_false_iff_not,Bool.not_eq_false',Bool.and_eq_true,decide_eq_true_eq] at h
 obtain⟨⟨h1,h2⟩,h3,h4⟩:=h
 exact⟨by omega,by omega,by omega,by omega⟩
theorem heardL_zero {n:Nat} (hn:n<1000) (l:List Int):mHeardL (IntKind.wrap .i64 ((n:Int) - 1)) l=0↔(∀a,a ∈ l→0≤a∧a<(n:Int))∧l.Nodup:=by
 rw[wrap_id (by omega) (by omega)]
 unfold mHeardL
 have hany:l.any (fun a=>!mIn a 0 ((n:Int) - 1))=false↔∀a,a ∈ l→0≤a∧a<(n:Int):=by
  rw[List.any_eq_false]
  constructor
  ·intro h a ha
   have:=h a ha
   unfold mIn at this
   simp only[Bool.not_eq_true',Bool.not_eq_false,Bool.and_eq_true,decide_eq_true_eq] at this
   omega
  ·intro h a ha
   have:=h a ha
   unfold mIn
   simp only[Bool.not_eq_true',Bool.not_eq_false,Bool.and_eq_true,decide_eq_true_eq]
   omega
 have hcode:code (fun i a=>if a ∈ l.take i then (7:Int) else 0) l=0↔l.Nodup:=by
  rw[←nodup_take]
  constructor
  ·intro h i a ha hm
   have:=code_zero h i a ha
   rw[if_pos hm] at this;cases this
  ·intro h
   exact code_of fun i a ha=>by rw[if_neg (h i a ha)]
 cases hb:l.any (fun a=>!mIn a 0 ((n:Int) - 1)) with
 | true=>
  rw[if_pos rfl]
  constructor
  ·intro h;cases h
  ·intro h;have:=hany.2 h.1;rw[hb] at this;cases this
 | false=>
  rw[if_neg (by simp),hcode]
  exact⟨fun h=>⟨hany.1 hb,h⟩,fun h=>h.2⟩
theorem RC.zero {c:TK} (h:RC c):mCF c=0:=by
 obtain⟨n1,n2,n3,n4⟩:=many_nums h.many
 have h3:mVoters c=0:=by
  unfold mVoters
  rw[if_pos h.keys]
  exact code_of fun i a ha=>h.voter a (List.mem_of_getElem? ha)
 have h4:mVotes c=0:=code_of fun i a ha=>by
  obtain⟨v1,v2,v3⟩:=h.vote a (List.mem_of_getElem? ha)
  unfold mVotesC
  rw[if_pos v1,if_pos v2,if_neg ((nodup_take _).2 h.nodup i a ha),v3,if_pos rfl]
 have h5:mHeard c=0:=code_of fun i a ha=>(heardL_zero (by omega) a).2 (h.heard a (List.mem_of_getElem? ha))
 unfold mCF
 rw[if_pos h.q,h.many,if_neg (by simp),if_pos h.bad,if_pos h.tree,if_pos h3,if_pos h4,h5]
theorem pigeonN:∀(n:Nat) (l:List Int),l.Nodup→(∀a,a ∈ l→0≤a∧a<(n:Int))→l.length≤n
 | 0,l,_,h=>by
  cases l with
  | nil=>simp
  | cons a l=>have:=h a List.mem_cons_self;omega
 | n+1,l,hn,h=>by
  have ih:=pigeonN n (l.filter fun a=>!decide (a=(n:Int))) (hn.sublist List.filter_sublist) (fun a ha=>by
   rw[List.mem_filter] at ha
   have h1:=h a ha.1
   have h2:=ha.2
   simp only[Bool.not_eq_true',decide_eq_false_iff_not] at h2
   omega)
  have hc:l.count (n:Int)≤1:=List.nodup_iff_count.1 hn _
  have hl:=List.length_eq_countP_add_countP (fun a=>decide (a=(n:Int))) (l:=l)
  rw[←List.countP_eq_length_filter] at ih
  have e1:l.countP (fun a=>decide (a=(n:Int)))=l.count (n:Int):=by
   unfold List.count
   exact List.countP_congr fun a _=>by simp
  have e2:l.countP (fun a=>decide ¬decide (a=(n:Int))=true)=l.countP (fun a=>!decide (a=(n:Int))):=List.countP_congr fun a _=>by simp
  omega
theorem RC.small {c:TK} (h:RC c):Small c:=by
 obtain⟨n1,n2,n3,n4⟩:=many_nums h.many
 obtain⟨q1,q2,q3⟩:=quorum_num h.q
 have ht:=(right_of h.tree).len
 have hv:c.2.2.2.1.length≤8:=by
  have:=congrArg List.length h.keys
  rw[List.length_map] at this
  unfold mGood at this
  have h2:=List.length_filter_le (fun k=>!decide (k ∈ c.2.1)) c.1.1
  omega
 have hlim:LIM=1073741824:=rfl
 refine⟨by omega,by omega,by omega,by omega,fun v hv=>?_,by omega,by omega,fun l hl=>?_⟩
 ·have:=voter_40 (h.voter v hv);omega
 ·have:=pigeonN _ l (h.heard l hl).2 (h.heard l hl).1;omega
theorem up_app (t:List TN) (n:TN):∀(k:Nat) (b a:Int),a ∈ up t k b→a ∈ up (t++[n]) k b
 | 0,b,a,h=>by simp[up] at h
 | k+1,b,a,h=>by
  unfold up at h ⊢
  split at h
  ·cases h
  ·rename_i hb
   obtain⟨i,hi,h1,h2,h3⟩:=idT_found hb
   have hi':i<(t++[n]).length:=by simp;omega
   have hg:(t++[n])[i]=t[i]:=List.getElem_append_left hi
   obtain⟨e1,e2⟩:=idT_le (t:=t++[n]) (b:=b) hi' (by rw[hg];exact h2)
   obtain⟨i2,hi2,f1,f2,f3⟩:=idT_found e1
   have hle:i2=i:=by
    rcases Nat.lt_or_ge i2 i with hh | hh
    ·have hg2:(t++[n])[i2]=t[i2]'(by omega):=List.getElem_append_left (by omega)
     exact absurd (by rw[←hg2];exact f2) (h3 i2 hh)
    ·omega
   subst hle
   rw[if_neg e1]
   rw[h1,Int.toNat_natCast,getD_nat t i2 _ hi] at h
   rw[f1,Int.toNat_natCast,getD_nat _ i2 _ hi',hg]
   rcases List.mem_cons.1 h with h | h
   ·exact List.mem_cons.2 (.inl h)
   ·exact List.mem_cons.2 (.inr (up_app t n k _ a h))
theorem above_app {t:List TN} {n:TN} {a b:Int} (h:mAbove t a b=true):mAbove (t++[n]) a b=true:=by
 unfold mAbove at h ⊢
 have h1:=up_app t n _ b a (of_decide_eq_true h)
 have h2:=up_mono (t++[n]) t.length b a h1
 refine decide_eq_true ?_
 rw[show (t++[n]).length=t.length+1 by simp]
 exact h2
theorem tree_app {t:List TN} {n:TN} (h:mTree t=0) (hn:mNode t n=0) (hl:t.length ≠ 60):mTree (t++[n])=0:=by
 have h60:=(right_of h).len
 unfold mTree at h ⊢
 rw[if_neg (by omega)] at h
 rw[if_neg (by simp;omega)]
 refine code_of fun i a ha=>?_
 rcases Nat.lt_or_ge i t.length with hi | hi
 ·rw[List.getElem?_append_left hi] at ha
  rw[List.take_append_of_le_length (by omega)]
  exact code_zero h i a ha
 ·rw[List.getElem?_append_right hi] at ha
  have:i - t.length=0:=by
   rcases Nat.eq_zero_or_pos (i - t.length) with h | h
   ·exact h
   ·rw[List.getElem?_eq_none (by simp;omega)] at ha;cases ha
  rw[this] at ha
  simp only[List.getElem?_cons_zero,Option.some.injEq] at ha
  subst ha
  rw[show i=t.length by omega,List.take_left]
  exact hn
theorem grow_rc {c:TK} (h:RC c) {n:TN} (h0:(mGrow c n).1=0):RC (mGrow c n).2:=by
 unfold mGrow at h0 ⊢
 rw[if_pos h.zero] at h0 ⊢
 by_cases ha:(mAdd c.2.2.1 n).1=0
 ·rw[if_pos ha]
  have hb:=ha
  unfold mAdd at hb ⊢
  split at hb
  ·rename_i hn
   split at hb
   ·cases hb
   ·rename_i hl
    rw[if_pos hn,if_neg hl]
    refine⟨h.q,h.many,h.bad,tree_app h.tree hn hl,h.keys,h.voter,fun x hx=>?_,h.nodup,h.heard⟩
    obtain⟨v1,v2,v3⟩:=h.vote x hx
    refine⟨v1,v2,?_⟩
    rw[stands_eq] at v3 ⊢
    show (if vAt c x.1<0 then true else standsV (c.2.2.1++[n]) (vOf c x.1) x)=true
    split
    ·rfl
    ·rename_i hv
     rw[if_neg hv] at v3
     unfold standsV at v3 ⊢
     split
     ·rename_i hk
      rw[if_pos hk] at v3
      exact above_app v3
     ·rename_i hk
      rw[if_neg hk] at v3
      exact v3
  ·rename_i hn;exact absurd hb hn
 ·rw[if_neg ha] at h0;exact absurd h0 ha
theorem put_rc {c:TK} (h:RC c) {x:TV} (h1:mVote x=0) (h2:x.1 ∈ c.1.1) (h3:mStands c x=true) (h0:(mPut c x).1=0):RC (mPut c x).2:=by
 obtain⟨n1,n2,n3,n4⟩:=many_nums h.many
 unfold mPut at h0 ⊢
 split
 ·exact h
 ·rename_i hx
  rw[if_neg hx] at h0
  split
  ·rename_i hl;rw[if_pos hl] at h0;cases h0
  ·rename_i hl
   refine⟨h.q,?_,h.bad,h.tree,h.keys,h.voter,fun y hy=>?_,?_,fun l hl=>?_⟩
   ·unfold mMany mIn
    show (decide ((20:Int)<(c.2.1.length:Int)) || decide ((100:Int)<((c.2.2.2.2.1++[x]).length:Int)) || !(decide ((1:Int)≤(c.2.2.2.2.2.length:Int))&&decide ((c.2.2.2.2.2.length:Int)≤4)))=false
    simp only[List.length_append,List.length_cons,List.length_nil,Bool.or_eq_false_iff,decide_eq_false_iff_not,Bool.not_eq_false',Bool.and_eq_true,decide_eq_true_eq]
    exact⟨⟨by omega,by omega⟩,by omega,by omega⟩
   ·rcases List.mem_append.1 hy with hy | hy
    ·exact h.vote y hy
    ·rw[List.mem_singleton] at hy
     subst hy
     exact⟨h1,h2,h3⟩
   ·show (c.2.2.2.2.1++[x]).Nodup
    rw[List.nodup_append]
    refine⟨h.nodup,by simp,fun u hu v hv=>?_⟩
    rw[List.mem_singleton] at hv
    subst hv
    rintro rfl;exact hx hu
   ·obtain⟨h4,h5⟩:=h.heard l hl
    refine⟨fun a ha=>?_,h5⟩
    have:=h4 a ha
    simp only[withVote,List.length_append,List.length_cons,List.length_nil]
    omega
theorem forge_rc {c:TK} (h:RC c) {x:TV} (h0:(mForge c x).1=0):RC (mForge c x).2:=by
 unfold mForge at h0 ⊢
 rw[if_pos h.zero] at h0 ⊢
 by_cases h1:mVote x=0
 ·rw[if_pos h1] at h0 ⊢
  by_cases h2:x.1 ∈ c.2.1∧x.1 ∈ c.1.1
  ·rw[if_pos h2] at h0 ⊢
   refine put_rc h h1 h2.2 ?_ h0
   rw[stands_eq,if_pos ((mem_good h.keys h2.2).2 h2.1)]
  ·rw[if_neg h2] at h0;cases h0
 ·rw[if_neg h1] at h0;exact absurd h0 h1
theorem vAt_map (c:TK) (k:Int):vAt c k=idxF (fun a=>decide (a=k)) (c.2.2.2.1.map (·.1)):=by
 unfold vAt
 rw[idxF_eq,idxF_eq,List.findIdx?_map]
 rfl
theorem vAt_found {c:TK} {k:Int} (h:¬vAt c k<0):∃(i:Nat) (hi:i<c.2.2.2.1.length),vAt c k=(i:Int)∧vOf c k=c.2.2.2.1[i]∧(vOf c k).1=k:=by
 have hany:c.2.2.2.1.any (fun v=>decide (v.1=k))=true:=by
  rw[←idxF_nonneg];unfold vAt at h;simp;omega
 obtain⟨i,hi,h1,h2,_⟩:=idxF_found hany
 have h1:vAt c k=(i:Int):=h1
 have h3:vOf c k=c.2.2.2.1[i]:=by unfold vOf;rw[h1,Int.toNat_natCast,getD_nat _ i _ hi]
 exact⟨i,hi,h1,h3,by rw[h3];simpa using h2⟩
theorem set_keys {c:TK} {k:Int} (h:¬vAt c k<0) {v:TR} (hv:v.1=k):(setV c (vAt c k) v).2.2.2.1.map (·.1)=c.2.2.2.1.map (·.1):=by
 obtain⟨i,hi,h1,h2,h3⟩:=vAt_found h
 show (List.set c.2.2.2.1 (Int.toNat (vAt c k)) v).map (·.1)=_
 rw[h1,Int.toNat_natCast,List.map_set]
 have:(c.2.2.2.1.map (·.1))[i]'(by simpa using hi)=v.1:=by rw[List.getElem_map,←h2,h3,hv]
 rw[←this,List.set_getElem_self]
theorem set_vAt {c:TK} {k:Int} (h:¬vAt c k<0) {v:TR} (hv:v.1=k) (k2:Int):vAt (setV c (vAt c k) v) k2=vAt c k2:=by
 rw[vAt_map,set_keys h hv,←vAt_map]
theorem set_vOf {c:TK} {k:Int} (h:¬vAt c k<0) {v:TR} (hv:v.1=k) {k2:Int} (h2:¬vAt c k2<0):vOf (setV c (vAt c k) v) k2=if k2=k then v else vOf c k2:=by
 obtain⟨i,hi,a1,a2,a3⟩:=vAt_found h
 obtain⟨j,hj,b1,b2,b3⟩:=vAt_found h2
 have e:vOf (setV c (vAt c k) v) k2=List.getD (List.set c.2.2.2.1 i v) j (0,(0,[])):=by
  unfold vOf
  rw[set_vAt h hv,b1,Int.toNat_natCast]
  show List.getD (List.set c.2.2.2.1 (Int.toNat (vAt c k)) v) j _=_
  rw[a1,Int.toNat_natCast]
 rw[e,getD_nat _ j _ (by simpa using hj),List.getElem_set]
 by_cases hk:k2=k
 ·subst hk
  rw[a1] at b1
  rw[if_pos (by omega),if_pos rfl]
 ·rw[if_neg hk,if_neg (fun hij=>hk ?_),←b2]
  subst hij
  rw[←b3,b2,←a2,a3]
theorem setV_rc {c:TK} (h:RC c) {key:Int} (hk:¬vAt c key<0) {v:TR} (h1:v.1=key) (h2:mVoter v=0) (h3:∀x,x ∈ c.2.2.2.2.1→x.1=key→standsV c.2.2.1 (vOf c key) x=true→standsV c.2.2.1 v x=true):RC (setV c (vAt c key) v):=by
 refine⟨h.q,h.many,h.bad,h.tree,by rw[set_keys hk h1];exact h.keys,fun u hu=>?_,fun x hx=>?_,h.nodup,h.heard⟩
 ·rcases List.mem_or_eq_of_mem_set hu with hu | hu
  ·exact h.voter u hu
  ·subst hu;exact h2
 ·obtain⟨v1,v2,v3⟩:=h.vote x hx
  refine⟨v1,v2,?_⟩
  rw[stands_eq] at v3 ⊢
  rw[set_vAt hk h1]
  split
  ·rfl
  ·rename_i hv
   rw[if_neg hv] at v3
   rw[set_vOf hk h1 hv]
   show standsV c.2.2.1 _ x=true
   split
   ·rename_i he
    exact h3 x hx he (by rw[←he];exact v3)
   ·exact v3
theorem up_sat {t:List TN} (hR:Right t):∀(n m:Nat) (b:Int),pos t b≤n→pos t b≤m→up t n b=up t m b:=by
 intro n
 induction n with
 | zero=>
  intro m b h1 _
  have hn:idT t b<0:=by unfold pos at h1;omega
  cases m with
  | zero=>rfl
  | succ m=>simp only[up];rw[if_pos hn]
 | succ n ih=>
  intro m b h1 h2
  by_cases hn:idT t b<0
  ·cases m with
   | zero=>simp only[up];rw[if_pos hn]
   | succ m=>simp only[up];rw[if_pos hn,if_pos hn]
  ·cases m with
   | zero=>exfalso;unfold pos at h2;omega
   | succ m=>
    simp only[up]
    rw[if_neg hn,if_neg hn]
    have:=hR.down hn
    rw[ih m _ (by omega) (by omega)]
theorem above_trans {t:List TN} (hR:Right t) {a b d:Int} (h1:mAbove t a b=true) (h2:mAbove t b d=true):mAbove t a d=true:=by
 unfold mAbove at *
 have h1:=of_decide_eq_true h1
 have key:∀(n:Nat) (d:Int),b ∈ up t n d→a ∈ up t t.length d:=by
  intro n
  induction n with
  | zero=>intro d h;simp[up] at h
  | succ n ih=>
   intro d h
   simp only[up] at h
   split at h
   ·cases h
   ·rename_i hd
    rcases List.mem_cons.1 h with h | h
    ·subst h;exact h1
    ·have h3:=ih _ h
     have h4:a ∈ up t (t.length+1) d:=by
      simp only[up];rw[if_neg hd];exact List.mem_cons_of_mem _ h3
     rw[up_sat hR t.length (t.length+1) d (pos_le t d) (by have:=pos_le t d;omega)]
     exact h4
 exact decide_eq_true (key _ d (of_decide_eq_true h2))
theorem above_self {t:List TN} {a:Int} (h:¬idT t a<0):mAbove t a a=true:=by
 unfold mAbove
 obtain⟨i,hi,_⟩:=idT_found h
 refine decide_eq_true ?_
 obtain⟨n,hn⟩:∃n,t.length=n+1:=⟨t.length - 1,by omega⟩
 rw[hn]
 simp only[up]
 rw[if_neg h]
 exact List.mem_cons_self
theorem above_zero {t:List TN} (hR:Right t) (a:Int):mAbove t a 0=false:=by
 unfold mAbove
 cases t with
 | nil=>simp[up]
 | cons n t=>simp only[List.length_cons,up];rw[if_pos hR.zero];simp
theorem key_in {c:TK} (h:RC c) {key:Int} (hk:¬vAt c key<0):key ∈ c.1.1∧key ∉ c.2.1∧mIn key 1 999=true:=by
 obtain⟨i,hi,h1,h2,h3⟩:=vAt_found hk
 have hm:key ∈ c.2.2.2.1.map (·.1):=List.mem_map.2 ⟨_,List.getElem_mem hi,by rw[←h2,h3]⟩
 rw[h.keys] at hm
 unfold mGood at hm
 rw[List.mem_filter] at hm
 refine⟨hm.1,by simpa using hm.2,?_⟩
 have hq:=h.q
 unfold mQF at hq
 split at hq
 ·split at hq
  ·rename_i ha
   simp only[Bool.and_eq_true] at ha
   exact List.all_eq_true.1 ha.1 key hm.1
  ·cases hq
 ·cases hq
theorem idIn {t:List TN} (h:mTree t=0) {id:Int} (hi:¬idT t id<0):mIn id 1 60=true:=by
 obtain⟨k,hk,_,h2,_⟩:=idT_found hi
 unfold mTree at h
 split at h
 ·cases h
 ·have:=code_zero h k _ (List.getElem?_eq_getElem hk)
  unfold mNode at this
  split at this
  ·rename_i hh
   simp only[Bool.and_eq_true] at hh
   rw[←h2];exact hh.1
  ·cases this
theorem voter_last {v:TR} (h:mVoter v=0) {id:Int} (hi:mIn id 0 60=true):mVoter (v.1,(id,v.2.2))=0:=by
 unfold mVoter at h ⊢
 split at h
 ·rename_i hh
  simp only[Bool.and_eq_true] at hh
  rw[if_pos (by simp only[Bool.and_eq_true];exact⟨hh.1,hi⟩)]
  exact h
 ·cases h
theorem cast_rc {c:TK} (h:RC c) {key id:Int} (h0:(mVB2 c key (gCast c.2.2.1 id)).1=0):RC (mVB2 c key (gCast c.2.2.1 id)).2:=by
 have hR:=right_of h.tree
 unfold mVB2 at h0 ⊢
 rw[if_pos h.zero] at h0 ⊢
 by_cases hk:vAt c key<0
 ·rw[if_pos hk] at h0;cases h0
 ·rw[if_neg hk] at h0 ⊢
  obtain⟨i,hi,v1,v2,v3⟩:=vAt_found hk
  unfold mVoted at h0 ⊢
  unfold gCast at h0 ⊢
  by_cases hid:idT c.2.2.1 id<0
  ·rw[if_pos hid] at h0;cases h0
  ·rw[if_neg hid] at h0 ⊢
   by_cases hl:(vOf c key).2.1=id∨((vOf c key).2.1 ≠ 0∧mAbove c.2.2.1 (vOf c key).2.1 id=false)
   ·rw[if_pos hl] at h0;cases h0
   ·rw[if_neg hl] at h0 ⊢
    simp only[if_true] at h0 ⊢
    have hin:=idIn h.tree hid
    have hin0:mIn id 0 60=true:=by
     unfold mIn at hin ⊢;simp only[Bool.and_eq_true,decide_eq_true_eq] at hin ⊢;omega
    obtain⟨k1,k2,k3⟩:=key_in h hk
    have hset:RC (setV c (vAt c key) ((vOf c key).1,(id,(vOf c key).2.2))):=by
     refine setV_rc h hk v3 (voter_last (h.voter _ (by rw[v2];exact List.getElem_mem hi)) hin0) (fun x hx he hs=>?_)
     unfold standsV at hs ⊢
     split
     ·rename_i hkind
      rw[if_pos hkind] at hs
      have hl0:(vOf c key).2.1 ≠ 0:=fun h0=>by
       rw[h0,above_zero hR] at hs;cases hs
      have hab:mAbove c.2.2.1 (vOf c key).2.1 id=true:=by
       cases hab:mAbove c.2.2.1 (vOf c key).2.1 id with
       | true=>rfl
       | false=>exact absurd (.inr ⟨hl0,hab⟩) hl
      exact above_trans hR hs hab
     ·rename_i hkind
      rw[if_neg hkind] at hs
      exact hs
    refine put_rc hset ?_ (by show (vOf c key).1 ∈ c.1.1;rw[v3];exact k1) ?_ h0
    ·unfold mVote
     rw[if_pos rfl,if_pos rfl,if_pos rfl,if_pos (by simp only[Bool.and_eq_true];rw[v3];exact⟨k3,hin⟩)]
    ·rw[stands_eq]
     show (if vAt (setV c (vAt c key) ((vOf c key).1,(id,(vOf c key).2.2))) (vOf c key).1<0 then true else _)=true
     rw[set_vAt (v:=((vOf c key).1,(id,(vOf c key).2.2))) hk v3,v3,if_neg hk]
     have:=set_vOf (v:=((vOf c key).1,(id,(vOf c key).2.2))) hk v3 hk
     rw[if_pos rfl,v3] at this
     show standsV c.2.2.1 (vOf (setV c (vAt c key) (key,(id,(vOf c key).2.2))) key) _=true
     rw[this]
     unfold standsV
     rw[if_pos rfl]
     exact above_self hid
theorem chAt_found {v:TR} {r:Int×Int} (h:¬chAt v r<0):∃(i:Nat) (hi:i<v.2.2.length),chAt v r=(i:Int)∧v.2.2[i].1=r∧∀j (hj:j<i),(v.2.2[j]'(by omega)).1 ≠ r:=by
 have hany:v.2.2.any (fun c=>decide (c.1=r))=true:=by
  rw[←idxF_nonneg];unfold chAt at h;simp;omega
 obtain⟨i,hi,h1,h2,h3⟩:=idxF_found hany
 exact⟨i,hi,h1,by simpa using h2,fun j hj=>by simpa using h3 j hj⟩
theorem chAt_first {v:TR} {r:Int×Int} {i:Nat} (hi:i<v.2.2.length) (h1:v.2.2[i].1=r) (h2:∀j (hj:j<i),(v.2.2[j]'(by omega)).1 ≠ r):chAt v r=(i:Int):=by
 have h:¬chAt v r<0:=by
  unfold chAt
  rw[idxF_neg,List.any_eq_false]
  intro hh
  exact hh _ (List.getElem_mem hi) (by simpa using h1)
 obtain⟨k,hk,e1,e2,e3⟩:=chAt_found h
 rw[e1]
 rcases Nat.lt_trichotomy k i with hh | hh | hh
 ·exact absurd e2 (h2 k hh)
 ·rw[hh]
 ·exact absurd h1 (e3 i hh)
theorem choose_rc {c:TK} (h:RC c) {key:Int} {r:Int×Int} {tx:Int} (h0:(mVB2 c key (gChoose r tx)).1=0):RC (mVB2 c key (gChoose r tx)).2:=by
 unfold mVB2 at h0 ⊢
 rw[if_pos h.zero] at h0 ⊢
 by_cases hk:vAt c key<0
 ·rw[if_pos hk] at h0;cases h0
 ·rw[if_neg hk] at h0 ⊢
  obtain⟨i,hi,v1,v2,v3⟩:=vAt_found hk
  have hvr:mVoter (vOf c key)=0:=h.voter _ (by rw[v2];exact List.getElem_mem hi)
  obtain⟨k1,k2,k3⟩:=key_in h hk
  unfold mVoted at h0 ⊢
  unfold gChoose at h0 ⊢
  rw[if_pos hvr] at h0 ⊢
  by_cases hrt:(mRef r&&mIn tx 1 60)=true
  ·rw[if_pos hrt] at h0 ⊢
   have hvote:mVote (key,(2,(0,(r,tx))))=0:=by
    unfold mVote
    rw[if_neg (show ¬(2:Int)=1 by decide),if_pos rfl,if_pos rfl,if_pos (by simp only[Bool.and_eq_true] at hrt ⊢;exact⟨k3,hrt⟩)]
   generalize hv:vOf c key=v at *
   unfold mChosen at h0 ⊢
   by_cases hc:chAt v r<0
   ·rw[if_pos hc] at h0 ⊢
    by_cases h40:v.2.2.length=40
    ·rw[if_pos h40] at h0;cases h0
    ·rw[if_neg h40] at h0 ⊢
     simp only[if_true] at h0 ⊢
     have hno:∀y,y ∈ v.2.2→y.1 ≠ r:=fun y hy he=>by
      have:=(idxF_neg _ _).1 (show idxF (fun c=>decide (c.1=r)) v.2.2<0 from hc)
      rw[List.any_eq_false] at this
      exact this y hy (by simpa using he)
     have hg:∀(j:Nat) (hj:j<v.2.2.length),(v.2.2++[(r,tx)])[j]'(by simp;omega)=v.2.2[j]:=fun j hj=>List.getElem_append_left hj
     have hstay:∀r2,¬chAt v r2<0→chAt (v.1,(v.2.1,v.2.2++[(r,tx)])) r2=chAt v r2:=fun r2 hr2=>by
      obtain⟨j,hj,e1,e2,e3⟩:=chAt_found hr2
      rw[e1]
      exact chAt_first (v:=(v.1,(v.2.1,v.2.2++[(r,tx)]))) (i:=j) (by show j<(v.2.2++[(r,tx)]).length;simp;omega) (by show ((v.2.2++[(r,tx)])[j]'(by simp;omega)).1=r2;rw[hg j hj];exact e2) (fun m hm=>by show ((v.2.2++[(r,tx)])[m]'(by simp;omega)).1 ≠ r2;rw[hg m (by omega)];exact e3 m hm)
     have hset:RC (setV c (vAt c key) (v.1,(v.2.1,v.2.2++[(r,tx)]))):=by
      refine setV_rc h hk v3 ?_ (fun x hx he hs=>?_)
      ·have h40':=voter_40 hvr
       unfold mVoter at hvr ⊢
       split at hvr
       ·rename_i hh
        rw[if_pos hh]
        rw[if_neg (by omega)] at hvr
        rw[if_neg (by show ¬(40:Int)<((v.2.2++[(r,tx)]).length:Int);simp;omega)]
        refine code_of fun j a ha=>?_
        have ha:(v.2.2++[(r,tx)])[j]? = some a:=ha
        show mChoice (v.2.2++[(r,tx)]) j a=0
        rcases Nat.lt_or_ge j v.2.2.length with hj | hj
        ·rw[List.getElem?_append_left hj] at ha
         have:=code_zero hvr j a ha
         unfold mChoice at this ⊢
         rw[List.take_append_of_le_length (by omega)]
         exact this
        ·rw[List.getElem?_append_right hj] at ha
         have hj0:j - v.2.2.length=0:=by
          rcases Nat.eq_zero_or_pos (j - v.2.2.length) with hh | hh
          ·exact hh
          ·rw[List.getElem?_eq_none (by simp;omega)] at ha;cases ha
         rw[hj0] at ha
         simp only[List.getElem?_cons_zero,Option.some.injEq] at ha
         subst ha
         unfold mChoice
         rw[if_pos hrt,show j=v.2.2.length by omega,List.take_left,if_neg]
         simp only[List.any_eq_true,decide_eq_true_eq,not_exists,not_and]
         exact hno
       ·cases hvr
      ·rw[hv] at hs
       unfold standsV at hs ⊢
       split
       ·rename_i hkind;rw[if_pos hkind] at hs;exact hs
       ·rename_i hkind
        rw[if_neg hkind] at hs
        simp only[Bool.and_eq_true,Bool.not_eq_true',decide_eq_false_iff_not,decide_eq_true_eq] at hs ⊢
        rw[hstay _ hs.1]
        refine⟨hs.1,?_⟩
        obtain⟨j,hj,e1,_⟩:=chAt_found hs.1
        have h2:=hs.2
        rw[e1,Int.toNat_natCast,getD_nat _ j _ hj] at h2
        rw[e1,Int.toNat_natCast,getD_nat _ j _ (by show j<(v.2.2++[(r,tx)]).length;simp;omega)]
        show ((v.2.2++[(r,tx)])[j]'(by simp;omega)).2=_
        rw[hg j hj];exact h2
     refine put_rc hset (by show mVote (v.1,_)=0;rw[v3];exact hvote) (by show v.1 ∈ c.1.1;rw[v3];exact k1) ?_ h0
     rw[stands_eq]
     show (if vAt (setV c (vAt c key) (v.1,(v.2.1,v.2.2++[(r,tx)]))) v.1<0 then true else standsV c.2.2.1 (vOf (setV c (vAt c key) (v.1,(v.2.1,v.2.2++[(r,tx)]))) v.1) (v.1,(2,(0,(r,tx)))))=true
     have hso:=set_vOf (v:=(v.1,(v.2.1,v.2.2++[(r,tx)]))) hk v3 hk
     rw[set_vAt (v:=(v.1,(v.2.1,v.2.2++[(r,tx)]))) hk v3,v3,if_neg hk]
     rw[if_pos rfl,v3] at hso
     rw[hso]
     unfold standsV
     rw[if_neg (show ¬(2:Int)=1 by decide)]
     have hlast:chAt (key,(v.2.1,v.2.2++[(r,tx)])) r=(v.2.2.length:Int):=
      chAt_first (v:=(key,(v.2.1,v.2.2++[(r,tx)]))) (i:=v.2.2.length) (by show _<(v.2.2++[(r,tx)]).length;simp) (by show ((v.2.2++[(r,tx)])[v.2.2.length]'(by simp)).1=r;simp) (fun m hm=>by show ((v.2.2++[(r,tx)])[m]'(by simp;omega)).1 ≠ r;rw[hg m hm];exact hno _ (List.getElem_mem hm))
     show (!decide (chAt (key,(v.2.1,v.2.2++[(r,tx)])) r<0)&&decide ((List.getD (v.2.2++[(r,tx)]) (Int.toNat (chAt (key,(v.2.1,v.2.2++[(r,tx)])) r)) ((0,0),0)).2=tx))=true
     rw[hlast,Int.toNat_natCast,getD_nat _ v.2.2.length _ (by simp)]
     simp
   ·rw[if_neg hc] at h0 ⊢
    by_cases htx:chTx v r=tx
    ·rw[if_pos htx] at h0 ⊢
     simp only[if_true] at h0 ⊢
     have hset:RC (setV c (vAt c key) v):=setV_rc h hk v3 hvr (fun x hx he hs=>by rw[hv] at hs;exact hs)
     refine put_rc hset (by show mVote (v.1,_)=0;rw[v3];exact hvote) (by show v.1 ∈ c.1.1;rw[v3];exact k1) ?_ h0
     rw[stands_eq]
     show (if vAt (setV c (vAt c key) v) v.1<0 then true else standsV c.2.2.1 (vOf (setV c (vAt c key) v) v.1) (v.1,(2,(0,(r,tx)))))=true
     have hso:=set_vOf (v:=v) hk v3 hk
     rw[if_pos rfl] at hso
     rw[set_vAt (v:=v) hk v3,v3,if_neg hk,hso]
     unfold standsV
     rw[if_neg (show ¬(2:Int)=1 by decide)]
     show (!decide (chAt v r<0)&&decide ((List.getD v.2.2 (Int.toNat (chAt v r)) ((0,0),0)).2=tx))=true
     unfold chTx at htx
     rw[htx]
     simp;omega
    ·rw[if_neg htx] at h0;cases h0
  ·rw[if_neg hrt] at h0;cases h0
theorem hear_rc {c:TK} (h:RC c) {k a:Int} (h0:(mHear c k a).1=0):RC (mHear c k a).2:=by
 obtain⟨n1,n2,n3,n4⟩:=many_nums h.many
 unfold mHear at h0 ⊢
 rw[if_pos h.zero] at h0 ⊢
 split
 ·rename_i hh
  simp only[Bool.and_eq_true] at hh
  have ha:=hh.2
  rw[wrap_id (n:=(c.2.2.2.2.1.length:Int) - 1) (by omega) (by omega)] at ha
  unfold mIn at ha
  simp only[Bool.and_eq_true,decide_eq_true_eq] at ha
  show RC (if a ∈ heardBy c k then c else hearB c k a)
  split
  ·exact h
  ·rename_i hna
   refine⟨h.q,?_,h.bad,h.tree,h.keys,h.voter,h.vote,h.nodup,fun l hl=>?_⟩
   ·have:=h.many
    unfold mMany at this ⊢
    simp only[hearB,List.length_set]
    exact this
   ·rcases List.mem_or_eq_of_mem_set hl with hl | hl
    ·exact h.heard l hl
    ·subst hl
     obtain⟨_,hmem⟩:=hearer_in h.small hh.1
     obtain⟨g1,g2⟩:=h.heard _ hmem
     refine⟨fun b hb=>?_,?_⟩
     ·rcases List.mem_append.1 hb with hb | hb
      ·exact g1 b hb
      ·rw[List.mem_singleton] at hb
       subst hb
       exact⟨ha.1,by show b<(c.2.2.2.2.1.length:Int);omega⟩
     ·show (heardBy c k++[a]).Nodup
      rw[List.nodup_append]
      refine⟨g2,by simp,fun u hu v hv=>?_⟩
      rw[List.mem_singleton] at hv
      subst hv
      rintro rfl;exact hna hu
 ·rename_i hh
  rw[if_neg hh] at h0;cases h0
end CL
end Go.Dx
set_option maxHeartbeats 2000000
namespace Go.Dx
namespace CL
def Y {α:Type} (o:Option α) (Q:α→Prop):Prop:=∃a,o=some a∧Q a
theorem Y.some {α:Type} {a:α} {Q:α→Prop} (h:Q a):Y (some a) Q:=⟨a,rfl,h⟩
theorem Y.bind {α β:Type} {o:Option α} {f:α→Option β} {Q:α→Prop} {R:β→Prop} (h:Y o Q) (k:∀a,Q a→Y (f a) R):Y (o.bind f) R:=by
 obtain⟨a,rfl,ha⟩:=h
 exact k a ha
theorem Y.mono {α:Type} {o:Option α} {Q R:α→Prop} (h:Y o Q) (k:∀a,Q a→R a):Y o R:=let ⟨a,h1,h2⟩:=h;⟨a,h1,k a h2⟩
theorem Y.bif {α:Type} {c:Bool} {a b:Option α} {Q:α→Prop} (h1:c=true→Y a Q) (h2:c=false→Y b Q):Y (bif c then a else b) Q:=by
 cases c
 ·exact h2 rfl
 ·exact h1 rfl
theorem Y.grd {α:Type} {c:Bool} {a b:Option α} {Q:α→Prop} (h:c=true) (h1:Y a Q):Y (bif c then a else b) Q:=by rw[h];exact h1
theorem Y.loop {S X:Type} {f:S→Option (S⊕X)} {Q:X→Prop} (I:Nat→S→Prop) (hs:∀n s,I n s→Y (f s) (fun r=>match r with | .inl s'=>∃m,m<n∧I m s' | .inr x=>Q x)):∀n s,I n s→Y (loopO f s) Q:=by
 intro n
 induction n using Nat.strongRecOn with
 | ind n ih=>
  intro s hi
  obtain⟨r,h1,h2⟩:=hs n s hi
  cases r with
  | inl s'=>
   obtain⟨m,hm,hi'⟩:=h2
   obtain⟨x,h3,h4⟩:=ih m hm s' hi'
   exact⟨x,loopO_go h1 h3,h4⟩
  | inr x=>exact⟨x,loopO_out h1,h2⟩
theorem lim_one {α:Type} (l:List α) (a:α) (h:l.length<1000000):decide (List.length l+List.length [a]≤LIM)=true:=by
 simp only[List.length_cons,List.length_nil,decide_eq_true_eq]
 unfold LIM;omega
theorem inB_of {α:Type} {l:List α} {i:Int} (h0:0≤i) (h:i<(l.length:Int)):inB i l=true:=by
 simp[inB,h0,h]
structure CodeOk (l:List Int):Prop where
 len:l.length≤1048576
 byte:∀a,a ∈ l→0≤a∧a≤255
structure Src (N:Nat) (s:List Int×Int):Prop where
 code:CodeOk s.1
 lo:0≤s.2
 hi:s.2≤N
theorem Src.mono {N M:Nat} {s:List Int×Int} (h:Src N s) (hm:N≤M):Src M s:=⟨h.code,h.lo,by have:=h.hi;omega⟩
theorem byte_at {l:List Int} (h:CodeOk l) (i:Int):0≤List.getD l (Int.toNat i) 0∧List.getD l (Int.toNat i) 0≤255:=by
 rw[List.getD_eq_getElem?_getD]
 cases hg:l[i.toNat]? with
 | none=>simp
 | some a=>exact h.byte a (List.mem_of_getElem? hg)
end CL
end Go.Dx
set_option maxHeartbeats 2000000
namespace Go.Dx
namespace CL
structure Rise (l:List Int) (m:Int):Prop where
 pw:l.Pairwise (· < ·)
 mem:∀a,a ∈ l→1≤a∧a≤m
theorem Rise.push {l:List Int} {m a:Int} (h:Rise l m) (h1:m<a) (h0:0≤m):Rise (l++[a]) a:=by
 refine⟨?_,fun x hx=>?_⟩
 ·rw[List.pairwise_append]
  refine⟨h.pw,by simp,fun x hx y hy=>?_⟩
  rw[List.mem_singleton] at hy
  have:=(h.mem x hx).2
  omega
 ·rcases List.mem_append.1 hx with hx | hx
  ·have:=h.mem x hx;omega
  ·rw[List.mem_singleton] at hx;omega
theorem rising_of {l:List Int} (h:l.Pairwise (· < ·)):mRising l=true:=by
 unfold mRising
 rw[List.all_eq_true]
 intro i hi
 rw[List.mem_range] at hi
 rw[getD_nat l i 0 (by omega),getD_nat l (i+1) 0 (by omega)]
 exact decide_eq_true (List.pairwise_iff_getElem.1 h i (i+1) (by omega) (by omega) (by omega))
theorem Rise.keys {l:List Int} {m:Int} (h:Rise l m) (hm:m≤999):(l.all fun k=>mIn k 1 999)=true:=by
 rw[List.all_eq_true]
 intro a ha
 have:=h.mem a ha
 unfold mIn
 simp only[Bool.and_eq_true,decide_eq_true_eq]
 omega
theorem qf_of {l:List Int} {m need:Int} (h:Rise l m) (hm:m≤999) (h1:1≤l.length) (h8:l.length≤8) (hn:1≤need∧need≤(l.length:Int)):mQF (l,need)=0:=by
 have a1:mIn (l.length:Int) 1 8=true:=by unfold mIn;simp only[Bool.and_eq_true,decide_eq_true_eq];omega
 have a2:mIn need 1 (l.length:Int)=true:=by unfold mIn;simp only[Bool.and_eq_true,decide_eq_true_eq];exact hn
 have a3:=h.keys hm
 have a4:=rising_of h.pw
 unfold mQF
 simp only at *
 rw[a1,a2,a3,a4];rfl
def newC (q:TQ) (bad:List Int) (n:Int):TK:=(q,bad,[],(mGood q bad).map (fun k=>(k,0,[])),[],List.replicate n.toNat [])
def mNew (q:TQ) (bad:List Int) (n:Int):Int×TK:=
 if mQF q=0 then (if decide ((20:Int)<(bad.length:Int)) || !mIn n 1 4 then errK 2 else if mBF bad=0 then (0,newC q bad n) else errK (mBF bad)) else errK (mQF q)
theorem new_rc {q:TQ} {bad:List Int} {n:Int} (h0:(mNew q bad n).1=0):RC (mNew q bad n).2:=by
 unfold mNew at h0 ⊢
 split
 ·rename_i hq
  rw[if_pos hq] at h0
  split
  ·rename_i hm;rw[if_pos hm] at h0;cases h0
  ·rename_i hm
   rw[if_neg hm] at h0
   split
   ·rename_i hb
    have hm:decide ((20:Int)<(bad.length:Int))=false∧mIn n 1 4=true:=by
     simp only[Bool.or_eq_true,Bool.not_eq_true',not_or,Bool.not_eq_true,Bool.not_eq_false] at hm
     exact hm
    have hn:1≤n∧n≤4:=by have:=hm.2;unfold mIn at this;simpa using this
    have hall:(q.1.all fun k=>mIn k 1 999)=true:=by
     unfold mQF at hq
     split at hq
     ·split at hq
      ·rename_i hh;simp only[Bool.and_eq_true] at hh;exact hh.1
      ·cases hq
     ·cases hq
    refine⟨hq,?_,hb,?_,?_,fun v hv=>?_,fun x hx=>(by cases hx),List.nodup_nil,fun l hl=>?_⟩
    ·unfold mMany
     show (decide ((20:Int)<(bad.length:Int)) || decide ((100:Int)<(([]:List TV).length:Int)) || !mIn ((List.replicate n.toNat ([]:List Int)).length:Int) 1 4)=false
     rw[hm.1,List.length_replicate]
     unfold mIn
     simp;omega
    ·unfold mTree code;rfl
    ·show ((mGood q bad).map (fun k=>((k,0,[]):TR))).map (·.1)=mGood q bad
     rw[List.map_map];exact List.map_id' _
    ·obtain⟨k,hk,rfl⟩:=List.mem_map.1 hv
     unfold mGood at hk
     rw[List.mem_filter] at hk
     have hk1:=List.all_eq_true.1 hall k hk.1
     unfold mVoter
     rw[if_pos (by simp only[Bool.and_eq_true];exact⟨hk1,rfl⟩),if_neg (by simp)]
     rfl
    ·have:=List.eq_of_mem_replicate hl
     subst this
     exact⟨fun a ha=>(by cases ha),List.nodup_nil⟩
   ·rename_i hb;rw[if_neg hb] at h0;exact absurd h0 hb
 ·rename_i hq;rw[if_neg hq] at h0;exact absurd h0 hq
end CL
end Go.Dx
set_option maxHeartbeats 2000000
namespace Go.Dx
namespace CL
def bCode (x:List Int):Prop:=List.length x≤maxLen∧∀y,y ∈ x→(Lit.int .u8 y).wf=true
theorem code_ok {x:List Int} (h:bCode x) (hl:x.length≤1048576):CodeOk x:=by
 refine⟨hl,fun a ha=>?_⟩
 have:=h.2 a ha
 simp only[Lit.wf,Bool.and_eq_true,decide_eq_true_eq] at this
 have e1:IntKind.u8.min=0:=by decide
 have e2:IntKind.u8.max=255:=by decide
 rw[e1,e2] at this
 exact this
theorem P_laws_lwHas (a:List Int) (ha:a.length<BIG) (v:Int):F_laws_lwHas a v=some (decide (v ∈ a)):=by
 unfold F_laws_lwHas
 rw[loop_first a (fun _ y=>if decide (y=v) then some true else none) _ (fun i h=>?_) (by simp only[dge,cond_false]),first_any,bind_first]
 ·rw[any_eq']
  by_cases h:v ∈ a
  ·rw[decide_eq_true h];rfl
  ·rw[decide_eq_false h];rfl
 ·simp only[dlt h,inB_nat a i h,getD_toNat a i _ h,cond_true,wsucc h ha]
  by_cases he:a[i]=v<;>simp[he]
theorem Y_true {o:Option Bool} (h:Y o (fun b=>b=true)):o=some true:=by obtain⟨b,h1,h2⟩:=h;rw[h1,h2]
theorem P_impl_Related (t:List TN) (ht:mTree t=0) (hl:t.length<BIG) (a b:Int):F_impl_Related t a b=some (mRel t a b):=by
 unfold F_impl_Related
 rw[P_impl_TreeFault t hl,Option.bind_some,ht]
 simp only[decide_true,cond_true]
 rw[P_impl_related t (right_of ht)]
 rfl
theorem forge_sub {c:TK} {x:TV} (h:(mForge c x).1=0):mCF c=0∧mVote x=0∧x.1 ∈ c.2.1∧x.1 ∈ c.1.1∧(mForge c x)=mPut c x:=by
 unfold mForge at h ⊢
 split at h
 ·rename_i h1
  split at h
  ·rename_i h2
   split at h
   ·rename_i h3
    rw[if_pos h1,if_pos h2,if_pos h3]
    exact⟨h1,h2,h3.1,h3.2,rfl⟩
   ·cases h
  ·rename_i h2;exact absurd h h2
 ·rename_i h1;exact absurd h h1
end CL
end Go.Dx
set_option maxHeartbeats 2000000
namespace Go.Dx
namespace CL
theorem lwAt_ok {x:List Int} (hk:CodeOk x) (i:Int) (h0:0≤i) (h1:i≤1000000) (n:Int):Y (F_laws_lwAt x i n) (fun r=>0≤r∧(2≤n→r<n)∧(n≤1→r=0)):=by
 unfold F_laws_lwAt
 refine Y.bif (fun h=>Y.some ⟨Int.le_refl _,fun h2=>by have:=of_decide_eq_true h;omega,fun _=>rfl⟩) (fun h=>?_)
 have hn:2≤n:=by have:=of_decide_eq_false h;omega
 have hn0:(!decide (n=0))=true:=by simp;omega
 have fin:∀v:Int,0≤v→(0≤Int.tmod v n∧(2≤n→Int.tmod v n<n)∧(n≤1→Int.tmod v n=0)):=fun v hv=>by
  rw[Int.tmod_eq_emod_of_nonneg hv]
  exact⟨Int.emod_nonneg _ (by omega),fun _=>Int.emod_lt_of_pos _ (by omega),fun h=>by omega⟩
 refine Y.bif (fun h2=>?_) (fun h2=>?_)
 ·refine Y.grd hn0 (Y.some (fin _ ?_))
  rw[wrap_id (n:=i * 7) (by omega) (by omega)];omega
 ·have hz:(!decide ((List.length x:Int)=0))=true:=by rw[h2];rfl
  have hl:0<(x.length:Int):=by have:=of_decide_eq_false h2;omega
  have md:∀v:Int,0≤v→inB (Int.tmod v (List.length x:Int)) x=true:=fun v hv=>by
   rw[Int.tmod_eq_emod_of_nonneg hv]
   exact inB_of (Int.emod_nonneg _ (by omega)) (Int.emod_lt_of_pos _ hl)
  refine Y.grd hz (Y.grd (md _ h0) (Y.grd hz ?_))
  obtain⟨b1,b2⟩:=byte_at hk (Int.tmod i (List.length x:Int))
  have d1:0≤Int.tdiv i (List.length x:Int):=Int.tdiv_nonneg h0 (by omega)
  have d2:Int.tdiv i (List.length x:Int)≤i:=by
   rw[Int.tdiv_eq_ediv_of_nonneg h0];exact Int.ediv_le_self _ h0
  generalize Int.tdiv i (List.length x:Int)=d at d1 d2
  generalize List.getD x (Int.toNat (Int.tmod i (List.length x:Int))) 0=b at b1 b2
  have wb:IntKind.wrap .i64 b=b:=wrap_id (by omega) (by omega)
  have wd:IntKind.wrap .i64 d=d:=wrap_id (by omega) (by omega)
  have wd2:IntKind.wrap .i64 (d * 3)=d * 3:=wrap_id (by omega) (by omega)
  have wv:IntKind.wrap .i64 (b+d * 3)=b+d * 3:=wrap_id (by omega) (by omega)
  have wi:IntKind.wrap .i64 (i+1)=i+1:=wrap_id (by omega) (by omega)
  simp only[wb,wd,wd2,wv,wi]
  refine Y.bind (Q:=fun v=>0≤v) ?_ (fun v hv=>Y.grd hn0 (Y.some (fin v hv)))
  refine Y.bif (fun h3=>?_) (fun h3=>Y.some (by omega))
  refine Y.grd hz (Y.grd (md _ (by omega)) ?_)
  obtain⟨c1,c2⟩:=byte_at hk (Int.tmod (i+1) (List.length x:Int))
  generalize List.getD x (Int.toNat (Int.tmod (i+1) (List.length x:Int))) 0=c at c1 c2
  refine Y.some ?_
  show 0≤_
  rw[wrap_id (n:=c) (by omega) (by omega),wrap_id (n:=(b+d * 3) * 251) (by omega) (by omega),wrap_id (n:=(b+d * 3) * 251+c) (by omega) (by omega)]
  omega
theorem rise_pw {l:List Int} (h:mRising l=true):l.Pairwise (· < ·):=by
 unfold mRising at h
 rw[List.all_eq_true] at h
 have step:∀i (hi:i+1<l.length),l[i]<l[i+1]:=fun i hi=>by
  have:=of_decide_eq_true (h i (List.mem_range.2 (by omega)))
  rw[getD_nat l i 0 (by omega),getD_nat l (i+1) 0 hi] at this
  exact this
 rw[List.pairwise_iff_getElem]
 intro i j hi hj hij
 obtain⟨k,rfl⟩:∃k,j=i+1+k:=⟨j - (i+1),by omega⟩
 clear hij
 induction k with
 | zero=>exact step i (by omega)
 | succ k ih=>
  have h1:=ih (by omega)
  have h2:=step (i+1+k) (by omega)
  exact Int.lt_trans h1 h2
theorem mQF_rise {q:TQ} (h:mQF q=0):q.1.Pairwise (· < ·):=by
 unfold mQF at h
 split at h
 ·split at h
  ·split at h
   ·rename_i hr;exact rise_pw hr
   ·cases h
  ·cases h
 ·cases h
theorem cmp_voter (a b:TR):((F_impl_NewCluster_c1 a b).bind fun r=>some r)=some (if a.1<b.1 then -1 else if b.1<a.1 then 1 else 0):=by
 unfold F_impl_NewCluster_c1 F_cmp_Compare_int64
 have hn:∀z:Int,F_cmp_isNaN_int64 z=some false:=fun z=>by unfold F_cmp_isNaN_int64;simp
 simp only[hn,Option.bind_some,cond_false]
 by_cases h1:a.1<b.1
 ·simp[h1]
 ·by_cases h2:b.1<a.1<;>simp[h1,h2]
theorem sort_voters {l:List Int} (h:l.Pairwise (· < ·)) (hl:l.length<1000) (g:TR→TR→Option Int) (hg:∀a b,g a b=some (if a.1<b.1 then -1 else if b.1<a.1 then 1 else 0)) :
  sortO (l.map fun k=>((k,0,[]):TR)) g=some (l.map fun k=>((k,0,[]):TR)):=by
 have hless:∀a b,lessS g a b=decide (a.1<b.1):=fun a b=>by
  unfold lessS
  rw[hg]
  by_cases h1:a.1<b.1
  ·simp[h1]
  ·by_cases h2:b.1<a.1<;>simp[h1,h2]
 refine sortO_eq ⟨fun a _ b _=>⟨_,hg a b⟩,fun a _=>by rw[hless];simp,fun a _ b _ c _ h1 h2=>?_,fun a _ b _ c _ h1 h2=>?_,fun a ha b hb h1 h2=>?_,by rw[List.length_map];omega⟩ ⟨List.Perm.refl _,?_⟩
 ·rw[hless] at *;simp only[decide_eq_true_eq] at *;omega
 ·rw[hless] at *;simp only[decide_eq_false_iff_not] at *;omega
 ·rw[hless] at *
  simp only[decide_eq_false_iff_not] at *
  obtain⟨k,_,rfl⟩:=List.mem_map.1 ha
  obtain⟨k2,_,rfl⟩:=List.mem_map.1 hb
  have:k=k2:=by simp only at h1 h2;omega
  rw[this]
 ·rw[List.pairwise_map]
  exact h.imp fun {a b} hab=>by rw[hless];simp;omega
theorem P_impl_NewCluster (q:TQ) (bad:List Int) (n:Int) (hq:q.1.length<LIM) (hb:bad.length<LIM):F_impl_NewCluster q bad n=some (mNew q bad n):=by
 unfold F_impl_NewCluster mNew
 simp only[P_impl_QuorumFault _ (lB hq),P_impl_badFault _ (lB hb),Option.bind_some,P_impl_within,bif_code]
 by_cases h1:mQF q=0
 ·rw[if_pos h1,if_pos h1]
  have e:((bif decide ((20:Int)<(List.length bad:Int)) then some true else some (!mIn n 1 4)):Option Bool)=some (decide ((20:Int)<(bad.length:Int)) || !mIn n 1 4):=by
   cases decide ((20:Int)<(bad.length:Int))<;>rfl
  rw[e,Option.bind_some]
  cases hm:(decide ((20:Int)<(bad.length:Int)) || !mIn n 1 4) with
  | true=>rfl
  | false=>
   rw[cond_false,if_neg (show ¬false=true by simp)]
   simp only[Bool.or_eq_false_iff,Bool.not_eq_false'] at hm
   have hn:1≤n∧n≤4:=by have:=hm.2;unfold mIn at this;simpa using this
   by_cases hbf:mBF bad=0
   ·rw[if_pos hbf,if_pos hbf]
    rw[P_Clone_int _ (Nat.le_of_lt hq),P_Clone_int _ (Nat.le_of_lt hb),Option.bind_some,Option.bind_some,P_impl_goodKeys q bad (Nat.le_of_lt hq) (lB hb),show (decide (0≤n)&&decide (n≤(LIM:Int)))=true by simp;exact⟨by omega,by unfold LIM;omega⟩]
    simp only[cond_true,Option.bind_some]
    have hlen:(mGood q bad).length≤q.1.length:=by unfold mGood;exact List.length_filter_le _ _
    have h8:=(quorum_num (c:=(q,([],[],[],[],[]))) h1).2.2
    have h8:q.1.length≤8:=h8
    rw[loop_fold (mGood q bad) (fun (acc:List TR) k=>acc++[(k,0,[])]) (fun t i=>(i,((q.1,q.2),(bad,([],(t,([],List.replicate (Int.toNat n) []))))))) (fun t=>((q.1,q.2),(bad,([],(t,([],List.replicate (Int.toNat n) [])))))) (fun t i=>t.length≤i) _ (fun i h t ht=>?_) (fun t ht=>by simp only[dge,cond_false]) [] (by simp),foldl_map]
    ·rw[Option.bind_some]
     simp only[List.nil_append]
     have hpw:(mGood q bad).Pairwise (· < ·):=(mQF_rise h1).sublist (by unfold mGood;exact List.filter_sublist)
     unfold F_slices_SortFunc_Limpl_Voter_impl_Voter
     rw[sort_voters hpw (by omega) _ (fun a b=>cmp_voter a b)]
     rfl
    ·simp only[dlt h,inB_nat _ i h,getD_toNat _ i _ h,cond_true,wsucc h (lB (by omega:(mGood q bad).length<LIM))]
     rw[append_one_lim _ _ i ht (by omega)]
     exact⟨rfl,by simp;omega⟩
   ·rw[if_neg hbf,if_neg hbf];rfl
 ·rw[if_neg h1,if_neg h1];rfl
structure Own (k:Nat) (c:TK):Prop where
 rc:RC c
 votes:c.2.2.2.2.1.length≤k
 heard:c.2.2.2.2.2.length=2
 need:3≤c.1.2
theorem grow_own {k:Nat} {c:TK} (h:Own k c) {n:TN} (h0:(mGrow c n).1=0):Own (k+1) (mGrow c n).2:=by
 have hr:=grow_rc h.rc h0
 have e:(mGrow c n).2=(c.1,c.2.1,(mAdd c.2.2.1 n).2,c.2.2.2):=by
  unfold mGrow at h0 ⊢
  rw[if_pos h.rc.zero] at h0 ⊢
  split
  ·rfl
  ·rename_i hh;rw[if_neg hh] at h0;exact absurd h0 hh
 exact⟨hr,by rw[e];have:=h.votes;exact Nat.le_succ_of_le this,by rw[e];exact h.heard,by rw[e];exact h.need⟩
theorem put_own {k:Nat} {c:TK} {x:TV} (h1:c.2.2.2.2.1.length≤k) (h2:c.2.2.2.2.2.length=2) (h3:3≤c.1.2) (h0:(mPut c x).1=0):(mPut c x).2.2.2.2.2.1.length≤k+1∧(mPut c x).2.2.2.2.2.2.length=2∧3≤(mPut c x).2.1.2:=by
 unfold mPut at h0 ⊢
 split
 ·exact⟨by show c.2.2.2.2.1.length≤k+1;omega,h2,h3⟩
 ·rename_i hx
  rw[if_neg hx] at h0
  split
  ·rename_i hl;rw[if_pos hl] at h0;cases h0
  ·exact⟨by simp only[withVote,List.length_append,List.length_cons,List.length_nil];omega,h2,h3⟩
theorem forge_own {k:Nat} {c:TK} (h:Own k c) {x:TV} (h0:(mForge c x).1=0):Own (k+1) (mForge c x).2:=by
 have hr:=forge_rc h.rc h0
 obtain⟨_,_,_,_,e⟩:=forge_sub h0
 have:=put_own (c:=c) (x:=x) h.votes h.heard h.need (by rw[←e];exact h0)
 rw[←e] at this
 exact⟨hr,this.1,this.2.1,this.2.2⟩
theorem vb2_own {k:Nat} {c:TK} (h:Own k c) {key:Int} {g:TR→VV} (hr:RC (mVB2 c key g).2) (h0:(mVB2 c key g).1=0):Own (k+1) (mVB2 c key g).2:=by
 unfold mVB2 at h0 hr ⊢
 rw[if_pos h.rc.zero] at h0 hr ⊢
 split
 ·rename_i hk;rw[if_pos hk] at h0;cases h0
 ·rename_i hk
  rw[if_neg hk] at h0 hr
  unfold mVoted at h0 hr ⊢
  split
  ·rename_i h1
   rw[if_pos h1] at h0 hr
   have:=put_own (c:=setV c (vAt c key) (g (vOf c key)).2.2) (x:=(g (vOf c key)).2.1) h.votes h.heard h.need h0
   exact⟨hr,this.1,this.2.1,this.2.2⟩
  ·rename_i h1;rw[if_neg h1] at h0;exact absurd h0 h1
theorem hear_own {k:Nat} {c:TK} (h:Own k c) {a b:Int} (h0:(mHear c a b).1=0):Own (k+1) (mHear c a b).2:=by
 have hr:=hear_rc h.rc h0
 have e:(mHear c a b).2.1=c.1∧(mHear c a b).2.2.2.2.2.1=c.2.2.2.2.1∧(mHear c a b).2.2.2.2.2.2.length=c.2.2.2.2.2.length:=by
  unfold mHear at h0 ⊢
  rw[if_pos h.rc.zero] at h0 ⊢
  split
  ·show (if b ∈ heardBy c a then c else hearB c a b).1=c.1∧_
   split
   ·exact⟨rfl,rfl,rfl⟩
   ·exact⟨rfl,rfl,by simp[hearB]⟩
  ·rename_i hh;rw[if_neg hh] at h0;cases h0
 exact⟨hr,by rw[e.2.1];have:=h.votes;omega,by rw[e.2.2];exact h.heard,by rw[e.1];exact h.need⟩
theorem lwCluster_ok {x:List Int} (hk:CodeOk x):Y (F_laws_lwCluster x) (fun r=>Own 50 r.1∧r.2=true):=by
 unfold F_laws_lwCluster
 have hlim:LIM=1073741824:=rfl
 refine Y.bind (lwAt_ok hk 0 (by omega) (by omega) 5) fun r0 h0=>?_
 have a0:=h0.1
 have a1:=h0.2.1 (by omega)
 obtain⟨n,hn⟩:∃n:Nat,3+r0=(n:Int):=⟨(3+r0).toNat,by omega⟩
 have w:IntKind.wrap .i64 (3+r0)=(n:Int):=by rw[wrap_id (n:=3+r0) (by omega) (by omega),hn]
 simp only[w]
 refine Y.bind (Q:=fun (j:List Int×List Int)=>Rise j.1 n∧j.1.length=n∧j.2.Sublist j.1) ?_ (fun j hj=>?_)
 ·refine Y.loop (fun m (st:List Int×List Int×Int)=>∃i:Nat,st.2.2=(i:Int)+1∧i+m=n∧Rise st.1 i∧st.1.length=i∧st.2.1.Sublist st.1) (fun m st hI=>?_) n _ ⟨0,rfl,by omega,⟨by simp,by simp⟩,rfl,by simp⟩
  obtain⟨i,i1,i2,i3,i4,i5⟩:=hI
  have hsl:=i5.length_le
  refine Y.bif (fun g=>?_) (fun g=>?_)
  ·have g:=of_decide_eq_true g
   refine Y.grd (lim_one _ _ (by omega)) (Y.bind (lwAt_ok hk _ (by omega) (by omega) 4) fun r1 h1=>?_)
   refine Y.bind (Q:=fun (l:List Int)=>l.Sublist (st.1++[st.2.2])) ?_ (fun l hl=>?_)
   ·refine Y.bif (fun _=>Y.grd (lim_one _ _ (by omega)) (Y.some ?_)) (fun _=>Y.some (i5.trans (List.sublist_append_left _ _)))
    exact List.Sublist.append i5 (List.Sublist.refl _)
   ·refine Y.some ⟨m - 1,by omega,i+1,?_,by omega,?_,?_,hl⟩
    ·show IntKind.wrap .i64 (st.2.2+1)=_
     rw[wrap_id (n:=st.2.2+1) (by omega) (by omega)];omega
    ·have:=i3.push (a:=st.2.2) (by omega) (by omega)
     rw[i1] at this ⊢
     exact this
    ·show (st.1++[_]).length=i+1
     simp only[List.length_append,List.length_cons,List.length_nil];omega
  ·have g:=of_decide_eq_false g
   have:i=n:=by omega
   subst this
   exact Y.some ⟨i3,i4,i5⟩
 ·obtain⟨j1,j2,j3⟩:=hj
  have hsl:=j3.length_le
  have hnn:3≤n∧n≤7:=by omega
  have hneed:F_impl_NeedOf (n:Int)=some (0,2 * (n:Int) / 3+1):=by
   unfold F_impl_NeedOf
   rw[P_impl_within,Option.bind_some]
   have:mIn (n:Int) 1 8=true:=by unfold mIn;simp only[Bool.and_eq_true,decide_eq_true_eq];omega
   rw[this,wrap_id (n:=(n:Int) * 2) (by omega) (by omega),Int.tdiv_eq_ediv_of_nonneg (by omega),wrap_id (n:=(n:Int) * 2 / 3) (by omega) (by omega),wrap_id (n:=(n:Int) * 2 / 3+1) (by omega) (by omega),Int.mul_comm]
   rfl
  rw[hneed,Option.bind_some,P_impl_NewCluster _ _ _ (by show j.1.length<LIM;omega) (by omega),Option.bind_some]
  have hb:Rise j.2 n:=⟨j1.pw.sublist j3,fun a ha=>j1.mem a (j3.subset ha)⟩
  have hnew:(mNew (j.1,2 * (n:Int) / 3+1) j.2 2).1=0:=by
   have hq:mQF (j.1,2 * (n:Int) / 3+1)=0:=qf_of j1 (by omega) (by omega) (by omega) ⟨by omega,by omega⟩
   have hbf:mBF j.2=0:=by unfold mBF;rw[hb.keys (by omega),rising_of hb.pw];rfl
   have hm:(decide ((20:Int)<(j.2.length:Int)) || !mIn 2 1 4)=false:=by
    unfold mIn
    simp;omega
   unfold mNew
   rw[if_pos hq,hm,if_neg (by simp),if_pos hbf]
  have hown:Own 0 (mNew (j.1,2 * (n:Int) / 3+1) j.2 2).2:=by
   have hr:=new_rc hnew
   have e:(mNew (j.1,2 * (n:Int) / 3+1) j.2 2).2=newC (j.1,2 * (n:Int) / 3+1) j.2 2:=by
    unfold mNew at hnew ⊢
    split
    ·rename_i hq
     rw[if_pos hq] at hnew
     split
     ·rename_i hm;rw[if_pos hm] at hnew;cases hnew
     ·rename_i hm
      rw[if_neg hm] at hnew
      split
      ·rfl
      ·rename_i hb;rw[if_neg hb] at hnew;exact absurd hnew hb
    ·rename_i hq;rw[if_neg hq] at hnew;exact absurd hnew hq
   refine⟨hr,?_,?_,?_⟩
   ·rw[e];exact Nat.le_refl _
   ·rw[e];rfl
   ·rw[e];show 3≤2 * (n:Int) / 3+1;omega
  have hkl:(mNew (j.1,2 * (n:Int) / 3+1) j.2 2).2.1.1.length=n:=by
   have:(mNew (j.1,2 * (n:Int) / 3+1) j.2 2).2.1.1=j.1:=by
    unfold mNew at hnew ⊢
    split
    ·rename_i hq
     rw[if_pos hq] at hnew
     split
     ·rename_i hm;rw[if_pos hm] at hnew;cases hnew
     ·rename_i hm
      rw[if_neg hm] at hnew
      split
      ·rfl
      ·rename_i hb;rw[if_neg hb] at hnew;exact absurd hnew hb
    ·rename_i hq;rw[if_neg hq] at hnew;exact absurd hnew hq
   rw[this];exact j2
  generalize (mNew (j.1,2 * (n:Int) / 3+1) j.2 2).2=c0 at hown hkl ⊢
  refine Y.bind (Q:=fun (r:Bool×TK)=>Own 50 r.2∧r.1=true) ?_ (fun r hr=>Y.some hr)
  refine Y.loop (fun m (st:Bool×Int×TK)=>∃i:Nat,st.2.1=(i:Int)∧i+m=50∧st.1=true∧Own i st.2.2) (fun m st hI=>?_) 50 _ ⟨0,rfl,rfl,by simp[hkl],hown⟩
  obtain⟨i,i1,i2,i3,i4⟩:=hI
  have hrc:=i4.rc
  have hs:=hrc.small
  have htl:=(right_of hrc.tree).len
  rw[i1]
  refine Y.bind (Q:=fun (b:Bool)=>b=decide (i<50)) ?_ (fun b hb=>?_)
  ·refine Y.bif (fun g=>Y.some ?_) (fun g=>Y.some ?_)
   ·have:=of_decide_eq_true g;rw[i3];simp;omega
   ·have:=of_decide_eq_false g;simp;omega
  ·subst hb
   refine Y.bif (fun g=>?_) (fun g=>?_)
   ·have g:=of_decide_eq_true g
    have wi:∀z:Int,0≤z→z≤1000→IntKind.wrap .i64 ((i:Int)+z)=(i:Int)+z:=fun z hz1 hz2=>wrap_id (by omega) (by omega)
    simp only[wi 40 (by omega) (by omega),wi 70 (by omega) (by omega),wi 10 (by omega) (by omega),wi 100 (by omega) (by omega),wi 130 (by omega) (by omega)]
    refine Y.bind (lwAt_ok hk _ (by omega) (by omega) _) fun r1 h1=>?_
    refine Y.bind (lwAt_ok hk _ (by omega) (by omega) _) fun r2 h2=>?_
    refine Y.bind (lwAt_ok hk _ (by omega) (by omega) _) fun r3 h3=>?_
    refine Y.bind (Q:=fun (_:Bool)=>True) (Y.bif (fun _=>Y.some trivial) (fun _=>Y.some trivial)) fun j1 _=>?_
    have two:∀z:Int,0≤z→z≤1000→Y (F_laws_lwAt x ((i:Int)+z) 2) (fun _=>True):=fun z hz1 hz2=>(lwAt_ok hk _ (by omega) (by omega) 2).mono fun _ _=>trivial
    refine Y.bind (Q:=fun (r:Int×TK)=>r.1=0→Own (i+1) r.2) ?_ (fun r hr=>?_)
    ·refine Y.bif (fun _=>?_) (fun _=>?_)
     ·refine Y.bind (Q:=fun (b:Bool)=>b=true→0<st.2.2.2.2.1.length) ?_ (fun b hb=>?_)
      ·refine Y.bif (fun g2=>?_) (fun _=>Y.some (fun h=>by cases h))
       exact Y.bind (lwAt_ok hk _ (by omega) (by omega) 6) fun r4 h4=>Y.some (fun _=>by have:=of_decide_eq_true g2;omega)
      ·refine Y.bind (Q:=fun (_:TN)=>True) ?_ (fun nd _=>?_)
       ·refine Y.bif (fun g2=>?_) (fun _=>Y.some trivial)
        have hp:=hb g2
        refine Y.bind (lwAt_ok hk _ (by omega) (by omega) _) fun r4 h4=>?_
        have e0:=h4.1
        have e1:r4<(st.2.2.2.2.1.length:Int):=by
         rcases Int.lt_or_le (st.2.2.2.2.1.length:Int) 2 with hh | hh
         ·rw[h4.2.2 (by omega)];omega
         ·exact h4.2.1 hh
        rw[Int.tdiv_eq_ediv_of_nonneg e0,wrap_id (n:=r4 / 2) (by omega) (by omega),wrap_id (n:=(st.2.2.2.2.1.length:Int) - 1) (by omega) (by omega),wrap_id (n:=(st.2.2.2.2.1.length:Int) - 1 - r4 / 2) (by omega) (by omega)]
        exact Y.grd (inB_of (by omega) (by omega)) (Y.some trivial)
       ·rw[P_impl_GrowTree _ hs,Option.bind_some]
        exact Y.some (fun h=>grow_own i4 h)
     ·refine Y.bind (Q:=fun (r:Int×TK)=>r.1=0→Own (i+1) r.2) ?_ (fun r hr=>Y.some hr)
      refine Y.bif (fun _=>?_) (fun _=>?_)
      ·refine Y.bind (two 100 (by omega) (by omega)) fun r4 _=>Y.bind (two 130 (by omega) (by omega)) fun r5 _=>?_
       rw[P_impl_ChooseAt _ hs,Option.bind_some]
       exact Y.some (fun h=>vb2_own i4 (choose_rc hrc h) h)
      ·refine Y.bind (Q:=fun (r:Int×TK)=>r.1=0→Own (i+1) r.2) ?_ (fun r hr=>Y.some hr)
       refine Y.bif (fun _=>?_) (fun _=>?_)
       ·rw[P_impl_ForgeAt _ hs,Option.bind_some]
        exact Y.some (fun h=>forge_own i4 h)
       ·refine Y.bind (Q:=fun (r:Int×TK)=>r.1=0→Own (i+1) r.2) ?_ (fun r hr=>Y.some hr)
        refine Y.bif (fun _=>?_) (fun _=>?_)
        ·refine Y.bind (two 100 (by omega) (by omega)) fun r4 _=>Y.bind (two 130 (by omega) (by omega)) fun r5 _=>?_
         rw[P_impl_ForgeAt _ hs,Option.bind_some]
         exact Y.some (fun h=>forge_own i4 h)
        ·refine Y.bind (Q:=fun (r:Int×TK)=>r.1=0→Own (i+1) r.2) ?_ (fun r hr=>Y.some hr)
         refine Y.bif (fun _=>?_) (fun _=>?_)
         ·refine Y.bind (two 100 (by omega) (by omega)) fun r4 _=>Y.bind (lwAt_ok hk _ (by omega) (by omega) _) fun r5 _=>?_
          rw[P_impl_HearAt _ hs,Option.bind_some]
          exact Y.some (fun h=>hear_own i4 h)
         ·rw[P_impl_CastAt _ hs,Option.bind_some]
          exact Y.some (fun h=>vb2_own i4 (cast_rc hrc h) h)
    ·refine Y.bind (Q:=fun (r:Bool×TK)=>Own (i+1) r.2∧r.1=true) ?_ (fun r2 hr2=>?_)
     ·refine Y.bif (fun g2=>?_) (fun _=>Y.some ⟨⟨hrc,Nat.le_trans i4.votes (by omega),i4.heard,i4.need⟩,i3⟩)
      have ho:=hr (of_decide_eq_true g2)
      rw[P_impl_ClusterFault _ ho.rc.small,Option.bind_some,ho.rc.zero]
      exact Y.some ⟨ho,rfl⟩
     ·refine Y.some ⟨m - 1,by omega,i+1,?_,by omega,hr2.2,hr2.1⟩
      exact wsucc (n:=1000) (by omega) (by unfold BIG;omega)
   ·have g:=of_decide_eq_false g
    exact Y.some ⟨⟨hrc,Nat.le_trans i4.votes (by omega),i4.heard,i4.need⟩,i3⟩
end CL
end Go.Dx
set_option maxHeartbeats 2000000
namespace Go.Dx
namespace CL
theorem mem_len {α:Type} [DecidableEq α]:∀(p v:List α),p.Nodup→(∀a,a ∈ p→a ∈ v)→p.length≤v.length
 | [],v,_,_=>by simp
 | a::p,v,hn,h=>by
  have hn:=List.nodup_cons.1 hn
  have ha:=h a List.mem_cons_self
  have ih:=mem_len p (v.erase a) hn.2 (fun b hb=>by
   have hne:b ≠ a:=fun he=>hn.1 (he ▸ hb)
   exact (List.mem_erase_of_ne hne).2 (h b (List.mem_cons_of_mem _ hb)))
  rw[List.length_erase_of_mem ha] at ih
  have:=List.length_pos_of_mem ha
  simp only[List.length_cons]
  omega
theorem count_mono {v w:List TV} (h:∀x,x ∈ v→x ∈ w) (q:TQ) (x:TV):mCount v q x≤mCount w q x:=by
 unfold mCount
 have:(q.1.countP fun k=>decide ((k,x.2) ∈ v))≤(q.1.countP fun k=>decide ((k,x.2) ∈ w)):=by
  refine List.countP_mono_left fun k _ hk=>?_
  exact decide_eq_true (h _ (of_decide_eq_true hk))
 omega
theorem locks_mono {c:TK} {v w:List TV} (h:∀x,x ∈ v→x ∈ w) {a:Int} (ha:a ∈ mLocks c v):a ∈ mLocks c w:=by
 unfold mLocks at ha ⊢
 obtain⟨n,hn,rfl⟩:=List.mem_map.1 ha
 rw[List.mem_filter] at hn
 refine List.mem_map.2 ⟨n,List.mem_filter.2 ⟨hn.1,?_⟩,rfl⟩
 have:=of_decide_eq_true hn.2
 exact decide_eq_true (Int.le_trans this (count_mono h _ _))
theorem heard_sub {c:TK} (h:RC c) {k:Nat} (hk:k<c.2.2.2.2.2.length):∀x,x ∈ (heardBy c k).map (voteAt c)→x ∈ c.2.2.2.2.1:=by
 intro x hx
 obtain⟨a,ha,rfl⟩:=List.mem_map.1 hx
 have hm:heardBy c k ∈ c.2.2.2.2.2:=by
  unfold heardBy
  rw[Int.toNat_natCast,getD_nat _ k _ hk];exact List.getElem_mem _
 have:=(h.heard _ hm).1 a ha
 unfold voteAt
 rw[getD_nat _ a.toNat _ (by omega)]
 exact List.getElem_mem _
theorem tree_ids {t:List TN} (h:mTree t=0):(t.map (·.1)).Nodup:=by
 unfold List.Nodup
 rw[List.pairwise_map,List.pairwise_iff_getElem]
 intro i j hi hj hij he
 unfold mTree at h
 split at h
 ·cases h
 ·have:=code_zero h j _ (List.getElem?_eq_getElem hj)
  unfold mNode at this
  split at this
  ·split at this
   ·rename_i hn
    unfold idT at hn
    rw[idxF_neg,List.any_eq_false] at hn
    have hmem:t[i] ∈ t.take j:=List.mem_take_iff_getElem.2 ⟨i,by omega,rfl⟩
    exact hn _ hmem (by simpa using he)
   ·cases this
  ·cases this
theorem keys_nodup {q:TQ} (h:mQF q=0):q.1.Nodup:=(mQF_rise h).imp fun {a b} hab=>by omega
theorem locks_few {c:TK} (h:RC c) {v:List TV} (hv:∀x,x ∈ v→x ∈ c.2.2.2.2.1):c.1.2.toNat * (mLocks c v).length≤c.2.2.2.2.1.length:=by
 have key:∀(l:List Int),l.Nodup→(∀id,id ∈ l→c.1.2≤mCount v c.1 (0,(1,(id,((0,0),0)))))→
   ∃p:List TV,p.Nodup∧(∀x,x ∈ p→x ∈ v∧x.2.2.1 ∈ l)∧c.1.2.toNat * l.length≤p.length:=by
  intro l
  induction l with
  | nil=>intro _ _;exact⟨[],by simp,by simp,by simp⟩
  | cons id l ih=>
   intro hn hc
   have hn:=List.nodup_cons.1 hn
   obtain⟨p,p1,p2,p3⟩:=ih hn.2 (fun i hi=>hc i (List.mem_cons_of_mem _ hi))
   have h1:=hc id List.mem_cons_self
   unfold mCount at h1
   refine⟨(c.1.1.filter fun k=>decide ((k,(1,(id,((0,0),0)))) ∈ v)).map (fun k=>(k,(1,(id,((0,0),0)))))++p,?_,fun x hx=>?_,?_⟩
   ·rw[List.nodup_append]
    refine⟨?_,p1,fun x hx y hy=>?_⟩
    ·unfold List.Nodup
     rw[List.pairwise_map]
     exact ((keys_nodup h.q).sublist List.filter_sublist).imp fun {a b} hab he=>hab (congrArg Prod.fst he)
    ·rintro rfl
     obtain⟨k,_,rfl⟩:=List.mem_map.1 hx
     exact hn.1 (p2 _ hy).2
   ·rcases List.mem_append.1 hx with hx | hx
    ·obtain⟨k,hk,rfl⟩:=List.mem_map.1 hx
     rw[List.mem_filter] at hk
     exact⟨of_decide_eq_true hk.2,List.mem_cons_self⟩
    ·exact⟨(p2 x hx).1,List.mem_cons_of_mem _ (p2 x hx).2⟩
   ·rw[List.length_append,List.length_map,←List.countP_eq_length_filter,List.length_cons,Nat.mul_add,Nat.mul_one]
    have h2:c.1.2≤((c.1.1.countP fun k=>decide ((k,(1,(id,((0,0),0)))) ∈ v):Nat):Int):=h1
    omega
 have hl:(mLocks c v).Nodup:=by
  unfold mLocks
  exact (tree_ids h.tree).sublist (List.Sublist.map _ List.filter_sublist)
 obtain⟨p,p1,p2,p3⟩:=key (mLocks c v) hl (fun id hid=>by
  unfold mLocks at hid
  obtain⟨n,hn,rfl⟩:=List.mem_map.1 hid
  rw[List.mem_filter] at hn
  exact of_decide_eq_true hn.2)
 have:=mem_len p c.2.2.2.2.1 p1 (fun x hx=>hv x (p2 x hx).1)
 omega
theorem locks_in {c:TK} {v:List TV} {a:Int} (ha:a ∈ mLocks c v):¬idT c.2.2.1 a<0:=by
 unfold mLocks at ha
 obtain⟨n,hn,rfl⟩:=List.mem_map.1 ha
 rw[List.mem_filter] at hn
 obtain⟨i,hi,rfl⟩:=List.getElem_of_mem hn.1
 exact (idT_le hi rfl).1
theorem node_of {t:List TN} (h:mTree t=0) {i:Nat} (hi:i<t.length):1≤t[i].2.2∧t[i].2.2≤40∧idT t t[i].1=(i:Int)∧
  ((t[i].2.1=0∧t[i].2.2=1)∨(t[i].2.1 ≠ 0∧∃j,∃(hj:j<i),idT t t[i].2.1=(j:Int)∧t[i].2.2=(t[j]'(by omega)).2.2+1)):=by
 have hid:=tree_ids h
 have hix:∀(k:Nat) (hk:k<t.length),idT t t[k].1=(k:Int):=fun k hk=>by
  obtain⟨h1,h2⟩:=idT_le (t:=t) (b:=t[k].1) hk rfl
  obtain⟨j,hj,e1,e2,_⟩:=idT_found h1
  rw[e1]
  have:(t.map (·.1))[j]? = (t.map (·.1))[k]?:=by simp[hj,hk,e2]
  have:=(List.getElem?_inj (by simpa using hj) hid).1 this
  omega
 have h0:=h
 unfold mTree at h
 split at h
 ·cases h
 ·have hc:=code_zero h i _ (List.getElem?_eq_getElem hi)
  unfold mNode at hc
  split at hc
  ·rename_i hh
   simp only[Bool.and_eq_true,mIn,decide_eq_true_eq] at hh
   refine⟨hh.2.1,hh.2.2,hix i hi,?_⟩
   split at hc
   ·split at hc
    ·rename_i hp
     split at hc
     ·rename_i hq;exact .inl ⟨hp,hq⟩
     ·cases hc
    ·rename_i hp
     split at hc
     ·cases hc
     ·rename_i hq
      split at hc
      ·rename_i hw
       obtain⟨j,hj,e1,e2,_⟩:=idT_found hq
       rw[List.length_take] at hj
       have hj':j<i:=by omega
       have hjt:j<t.length:=by omega
       rw[List.getElem_take] at e2
       rw[e1,Int.toNat_natCast,getD_nat _ j _ (by rw[List.length_take];omega),List.getElem_take] at hw
       have e3:=hix j hjt
       rw[e2] at e3
       refine .inr ⟨hp,j,hj',e3,?_⟩
       have hjn:=code_zero h j _ (List.getElem?_eq_getElem hjt)
       unfold mNode at hjn
       split at hjn
       ·rename_i hh2
        simp only[Bool.and_eq_true,mIn,decide_eq_true_eq] at hh2
        rw[wrap_id (n:=t[j].2.2+1) (by omega) (by omega)] at hw
        exact hw
       ·cases hjn
      ·cases hc
   ·cases hc
  ·cases hc
theorem highT_at {t:List TN} (h:mTree t=0) {i:Nat} (hi:i<t.length):highT t t[i].1=t[i].2.2:=by
 unfold highT
 rw[(node_of h hi).2.2.1,Int.toNat_natCast,getD_nat _ i _ hi]
theorem up_high {t:List TN} (h:mTree t=0):∀(n:Nat) (b a:Int),a ∈ up t n b→highT t a<highT t b∨a=b
 | 0,b,a,ha=>by simp[up] at ha
 | n+1,b,a,ha=>by
  simp only[up] at ha
  split at ha
  ·cases ha
  ·rename_i hb
   rcases List.mem_cons.1 ha with ha | ha
   ·exact .inr ha
   ·obtain⟨i,hi,e1,e2,_⟩:=idT_found hb
    rw[e1,Int.toNat_natCast,getD_nat _ i _ hi] at ha
    have ih:=up_high h n _ a ha
    obtain⟨_,_,_,hn⟩:=node_of h hi
    rcases hn with ⟨hp,_⟩ | ⟨hp,j,hj,e3,e4⟩
    ·rw[hp] at ha
     cases n with
     | zero=>simp[up] at ha
     | succ n=>simp only[up] at ha;rw[if_pos (right_of h).zero] at ha;cases ha
    ·have hjt:j<t.length:=by omega
     have e5:highT t t[i].2.1=t[j].2.2:=by unfold highT;rw[e3,Int.toNat_natCast,getD_nat _ j _ hjt]
     have e6:highT t b=t[i].2.2:=by rw[←e2];exact highT_at h hi
     left
     rcases ih with ih | ih
     ·omega
     ·rw[ih];omega
theorem high_above {t:List TN} (h:mTree t=0) {a b:Int} (ha:¬idT t a<0) (hr:mRel t a b=true) (hh:¬highT t b<highT t a):mAbove t a b=true:=by
 unfold mRel at hr
 rw[Bool.or_eq_true] at hr
 rcases hr with hr | hr
 ·exact hr
 ·unfold mAbove at hr
  rcases up_high h _ a b (of_decide_eq_true hr) with h1 | h1
  ·exact absurd h1 hh
  ·subst h1;exact above_self ha
theorem best_fits {t:List TN} (h:mTree t=0) (l:List Int):∀(ns:List TN) (b:TN),(∀n,n ∈ ns→n ∈ t)→((b=(0,0,0))∨(b ∈ t∧mFits t b l=true))→
  (((ns.foldl (bestStep t l) b)=(0,0,0))∨((ns.foldl (bestStep t l) b) ∈ t∧mFits t (ns.foldl (bestStep t l) b) l=true))∧b.2.2≤(ns.foldl (bestStep t l) b).2.2∧∀n,n ∈ ns→mFits t n l=true→n.2.2≤(ns.foldl (bestStep t l) b).2.2
 | [],b,_,hb=>⟨hb,Int.le_refl _,fun n hn=>by cases hn⟩
 | n::ns,b,hn,hb=>by
  rw[List.foldl_cons]
  have hb2:(bestStep t l b n=(0,0,0))∨(bestStep t l b n ∈ t∧mFits t (bestStep t l b n) l=true):=by
   unfold bestStep
   split
   ·rename_i hh
    simp only[Bool.and_eq_true] at hh
    exact .inr ⟨hn n List.mem_cons_self,hh.1⟩
   ·exact hb
  obtain⟨h1,h2,h3⟩:=best_fits h l ns _ (fun m hm=>hn m (List.mem_cons_of_mem _ hm)) hb2
  have hs:b.2.2≤(bestStep t l b n).2.2∧(mFits t n l=true→n.2.2≤(bestStep t l b n).2.2):=by
   unfold bestStep
   split
   ·rename_i hh
    simp only[Bool.and_eq_true,decide_eq_true_eq] at hh
    exact⟨by omega,fun _=>Int.le_refl _⟩
   ·rename_i hh
    simp only[Bool.and_eq_true,decide_eq_true_eq,not_and] at hh
    exact⟨Int.le_refl _,fun hf=>by have:=hh hf;omega⟩
  refine⟨h1,by omega,fun m hm hf=>?_⟩
  rcases List.mem_cons.1 hm with hm | hm
  ·subst hm;have:=hs.2 hf;omega
  ·exact h3 m hm hf
theorem exists_max:∀(l:List Int) (f:Int→Int),l ≠ []→∃k,k ∈ l∧∀j,j ∈ l→f j≤f k
 | [],f,h=>absurd rfl h
 | [a],f,_=>⟨a,by simp,fun j hj=>by simp at hj;subst hj;exact Int.le_refl _⟩
 | a::b::l,f,_=>by
  obtain⟨k,hk,hm⟩:=exists_max (b::l) f (by simp)
  rcases Int.lt_or_le (f k) (f a) with h | h
  ·refine⟨a,by simp,fun j hj=>?_⟩
   rcases List.mem_cons.1 hj with hj | hj
   ·subst hj;exact Int.le_refl _
   ·have:=hm j hj;omega
  ·refine⟨k,List.mem_cons_of_mem _ hk,fun j hj=>?_⟩
   rcases List.mem_cons.1 hj with hj | hj
   ·subst hj;exact h
   ·exact hm j hj
theorem best_above {t:List TN} (h:mTree t=0) {l:List Int} (hin:∀k,k ∈ l→¬idT t k<0) (hrel:∀a,a ∈ l→∀b,b ∈ l→mRel t a b=true) {a:Int} (ha:a ∈ l):mAbove t a (t.foldl (bestStep t l) (0,0,0)).1=true:=by
 obtain⟨k,hk,hmax⟩:=exists_max l (highT t) (by intro hl;rw[hl] at ha;cases ha)
 obtain⟨i,hi,e1,e2,_⟩:=idT_found (hin k hk)
 have hhk:highT t k=t[i].2.2:=by rw[←e2];exact highT_at h hi
 have hfit:mFits t t[i] l=true:=by
  unfold mFits
  rw[Bool.not_eq_true',List.any_eq_false]
  intro j hj
  unfold mBad
  have h1:=hrel j hj k hk
  have h2:=hmax j hj
  rw[e2,h1]
  simp only[Bool.not_true,Bool.false_or,decide_eq_true_eq]
  omega
 obtain⟨b1,_,b3⟩:=best_fits h l t (0,0,0) (fun n hn=>hn) (.inl rfl)
 have h1:=b3 t[i] (List.getElem_mem hi) hfit
 have hpos:=(node_of h hi).1
 generalize t.foldl (bestStep t l) (0,0,0)=b at b1 h1 ⊢
 rcases b1 with b1 | ⟨b1,b2⟩
 ·subst b1;simp only at h1;omega
 ·unfold mFits at b2
  rw[Bool.not_eq_true',List.any_eq_false] at b2
  have:=b2 a ha
  unfold mBad at this
  simp only[Bool.or_eq_true,Bool.not_eq_true',decide_eq_true_eq,not_or,Bool.not_eq_false] at this
  obtain⟨j,hj,rfl⟩:=List.getElem_of_mem b1
  refine high_above h (hin a ha) this.1 ?_
  rw[highT_at h hj];exact this.2
theorem law_FnHearers (x:List Int) (hx:bCode x):F_laws_FnHearers x=some true:=by
 unfold F_laws_FnHearers F_laws_lwBig
 rw[Option.bind_some]
 cases hb:decide ((1048576:Int)<(List.length x:Int)) with
 | true=>rfl
 | false=>
  rw[cond_false]
  have hk:=code_ok hx (by have:=of_decide_eq_false hb;omega)
  refine Y_true ?_
  refine Y.bind (lwCluster_ok hk) fun r hr=>?_
  obtain⟨c,b⟩:=r
  obtain⟨ho,rfl⟩:=hr
  have hrc:RC c:=ho.rc
  have hs:=hrc.small
  have h2:c.2.2.2.2.2.length=2:=ho.heard
  have hvv:c.2.2.2.2.1.length≤50:=ho.votes
  have hnd:3≤c.1.2:=ho.need
  refine Y.bif (fun h=>by cases h) (fun _=>?_)
  have hear:∀k:Nat,k<2→mLA c (k:Int)=(0,mLocks c ((heardBy c k).map (voteAt c))):=fun k hk2=>by
   unfold mLA
   rw[if_pos hrc.zero,if_pos]
   rw[h2,wrap_id (n:=((2:Nat):Int) - 1) (by omega) (by omega)]
   unfold mIn
   simp only[Bool.and_eq_true,decide_eq_true_eq];omega
  have e0:mLA c 0=_:=hear 0 (by omega)
  have e1:mLA c 1=_:=hear 1 (by omega)
  have eb:mLB c=(0,mLocks c c.2.2.2.2.1):=by unfold mLB;rw[if_pos hrc.zero]
  obtain⟨bv,hb1,hb2⟩:=bestfor_same c hs 0
  have hbest:F_impl_BestFor c 0=some (mBest c.2.2.1 (mLocks c ((heardBy c 0).map (voteAt c)))):=by
   unfold F_impl_BestFor
   rw[P_impl_LocksAt c hs,Option.bind_some,e0]
   simp only[decide_true,Bool.not_true,cond_false]
   rw[P_impl_BestOf _ (lB hs.tree) _ (by have:=mLA_len c hs 0;rw[e0] at this;exact lB this)]
   rfl
  have hsub0:=heard_sub hrc (k:=0) (by omega)
  have hsub1:=heard_sub hrc (k:=1) (by omega)
  have hl0:=mLA_len c hs 0
  have hl1:=mLA_len c hs 1
  have hlb:=mLB_len c hs
  rw[e0] at hl0
  rw[e1] at hl1
  rw[eb] at hlb
  have hfew:=locks_few hrc hsub0
  have hin0:∀k,k ∈ mLocks c ((heardBy c 0).map (voteAt c))→¬idT c.2.2.1 k<0:=fun k hk=>locks_in hk
  have hall0:∀k,k ∈ mLocks c ((heardBy c 0).map (voteAt c))→k ∈ mLocks c c.2.2.2.2.1:=fun k hk=>locks_mono hsub0 hk
  have hall1:∀k,k ∈ mLocks c ((heardBy c 1).map (voteAt c))→k ∈ mLocks c c.2.2.2.2.1:=fun k hk=>locks_mono hsub1 hk
  simp only[P_impl_LockedBlocks c hs,P_impl_LocksAt c hs,e0,e1,eb,Option.bind_some,hbest,(premise_is c hs).2]
  rw[hb2,Option.some.injEq] at hbest
  rw[hb1,hbest]
  have e00:((heardBy c ((0:Nat):Int)).map (voteAt c))=((heardBy c 0).map (voteAt c)):=rfl
  have e11:((heardBy c ((1:Nat):Int)).map (voteAt c))=((heardBy c 1).map (voteAt c)):=rfl
  rw[e00] at *
  rw[e11] at *
  generalize mLocks c ((heardBy c 0).map (voteAt c))=la at *
  generalize mLocks c ((heardBy c 1).map (voteAt c))=lb at *
  have hrel:mPrem c=true→∀a,a ∈ mLocks c c.2.2.2.2.1→∀b,b ∈ mLocks c c.2.2.2.2.1→mRel c.2.2.1 a b=true:=fun hp a ha b hb=>by
   unfold mPrem at hp
   simp only[Bool.and_eq_true,decide_eq_true_eq] at hp
   exact locked_rel hp.1 hp.2 ha hb
  have h20:la.length≤20:=by
   have:3 * la.length≤c.1.2.toNat * la.length:=Nat.mul_le_mul_right _ (by omega)
   omega
  have hmb:mBest c.2.2.1 la=(0,(c.2.2.1.foldl (bestStep c.2.2.1 la) (0,0,0)).1):=by
   unfold mBest
   rw[if_pos hrc.tree,if_neg (by omega),if_neg]
   simp only[List.any_eq_true,decide_eq_true_eq,not_exists,not_and]
   exact hin0
  rw[hmb]
  generalize mLocks c c.2.2.2.2.1=ll at *
  refine Y.bind (Q:=fun (j:Unit⊕Bool)=>j=Sum.inl ()) ?_ (fun j hj=>?_)
  ·refine Y.loop (fun m (st:Int)=>∃i:Nat,st=(i:Int)∧i+m=la.length) (fun m st hI=>?_) la.length 0 ⟨0,rfl,by omega⟩
   obtain⟨i,rfl,hi⟩:=hI
   refine Y.bif (fun g=>?_) (fun _=>Y.some rfl)
   have g:=of_decide_eq_true g
   have hi':i<la.length:=by omega
   rw[inB_nat _ i hi',getD_toNat _ i _ hi',P_laws_lwHas _ (lB hlb),decide_eq_true (hall0 _ (List.getElem_mem hi'))]
   simp only[Option.bind_some,cond_true,Bool.not_true,cond_false]
   refine Y.bind (Q:=fun (j:Unit⊕Bool)=>j=Sum.inl ()) ?_ (fun j hj=>?_)
   ·refine Y.loop (fun m (st:Int)=>∃k:Nat,st=(k:Int)∧k+m=lb.length) (fun m st hI=>?_) lb.length 0 ⟨0,rfl,by omega⟩
    obtain⟨k,rfl,hk2⟩:=hI
    refine Y.bif (fun g3=>?_) (fun _=>Y.some rfl)
    have g3:=of_decide_eq_true g3
    have hk':k<lb.length:=by omega
    refine Y.bind (Q:=fun (b:Bool)=>b=false) ?_ (fun b hb=>?_)
    ·refine Y.bif (fun hp=>?_) (fun _=>Y.some rfl)
     rw[inB_nat _ k hk',getD_toNat _ k _ hk',P_impl_Related _ hrc.tree (lB hs.tree),hrel hp _ (hall0 _ (List.getElem_mem hi')) _ (hall1 _ (List.getElem_mem hk'))]
     exact Y.some rfl
    ·subst hb
     rw[wsucc hk' (lB hl1)]
     exact Y.some ⟨m - 1,by omega,k+1,rfl,by omega⟩
   ·subst hj
    rw[wsucc hi' (lB hl0)]
    exact Y.some ⟨m - 1,by omega,i+1,rfl,by omega⟩
  ·subst hj
   simp only[Sum.elim_inl,decide_true,Bool.not_true,cond_false,Option.bind_some]
   refine Y.bind (Q:=fun (j:Unit⊕Bool)=>j=Sum.inl ()) ?_ (fun j hj=>?_)
   ·refine Y.loop (fun m (st:Int)=>∃i:Nat,st=(i:Int)∧i+m=la.length) (fun m st hI=>?_) la.length 0 ⟨0,rfl,by omega⟩
    obtain⟨i,rfl,hi⟩:=hI
    refine Y.bif (fun g=>?_) (fun _=>Y.some rfl)
    have g:=of_decide_eq_true g
    have hi':i<la.length:=by omega
    refine Y.bind (Q:=fun (b:Bool)=>b=false) ?_ (fun b hb=>?_)
    ·refine Y.bif (fun hp=>?_) (fun _=>Y.some rfl)
     have hab:=best_above hrc.tree hin0 (fun a ha b hb=>hrel hp a (hall0 a ha) b (hall0 b hb)) (List.getElem_mem hi')
     rw[inB_nat _ i hi',getD_toNat _ i _ hi']
     unfold F_impl_IsAbove
     rw[P_impl_TreeFault _ (lB hs.tree),hrc.tree,P_impl_isAbove _ (right_of hrc.tree),hab]
     exact Y.some rfl
    ·subst hb
     rw[wsucc hi' (lB hl0)]
     exact Y.some ⟨m - 1,by omega,i+1,rfl,by omega⟩
   ·subst hj
    simp only[Sum.elim_inl,h2]
    exact Y.some rfl
end CL
end Go.Dx
