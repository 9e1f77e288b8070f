/- The plain law: no program in sight -/
import Derived.Test.YtmhbfgbadiikfaaGreatSca
set_option linter.unusedVariables false
set_option linter.unusedSimpArgs false
set_option maxHeartbeats 2000000
namespace Go.Dx
namespace CL
abbrev TN := Int × Int × Int
abbrev TC := (Int × Int) × Int
abbrev TR := Int × Int × List TC
abbrev TV := Int × Int × Int × (Int × Int) × Int
abbrev TQ := List Int × Int
abbrev TK := TQ × List Int × List TN × List TR × List TV × List (List Int)
def mIn (v lo hi : Int) : Bool := decide (lo ≤ v) && decide (v ≤ hi)
theorem P_spec_l1In (v lo hi : Int) : F_spec_l1In v lo hi = some (mIn v lo hi) := by
  unfold F_spec_l1In mIn
  cases decide (lo ≤ v) <;> rfl
theorem P_impl_within (v lo hi : Int) : F_impl_within v lo hi = some (mIn v lo hi) := by
  unfold F_impl_within mIn
  cases decide (lo ≤ v) <;> rfl
theorem P_spec_l1Key (v : Int) : F_spec_l1Key v = some (mIn v 1 999) := by unfold F_spec_l1Key; rw [P_spec_l1In]; rfl
theorem P_impl_isKey (v : Int) : F_impl_isKey v = some (mIn v 1 999) := by unfold F_impl_isKey; rw [P_impl_within]; rfl
theorem P_impl_isId (v : Int) : F_impl_isId v = some (mIn v 1 60) := by unfold F_impl_isId; rw [P_impl_within]; rfl
theorem P_spec_l11Tx (v : Int) : F_spec_l11Tx v = some (mIn v 1 60) := by unfold F_spec_l11Tx; rw [P_spec_l1In]; rfl
def mRef (r : Int × Int) : Bool := mIn r.1 1 60 && mIn r.2 0 3
theorem P_impl_isRef (r : Int × Int) : F_impl_isRef r = some (mRef r) := by
  unfold F_impl_isRef mRef; rw [P_impl_isId, P_impl_within]; cases mIn r.1 1 60 <;> rfl
theorem P_spec_l3Ref (r : Int × Int) : F_spec_l3Ref r = some (mRef r) := by
  unfold F_spec_l3Ref mRef; rw [P_spec_l1In, P_spec_l1In]; cases mIn r.1 1 60 <;> rfl
/-! the library -/
theorem P_IndexFunc_int (l : List Int) (hl : l.length < BIG) (p : Int → Bool) (f : Int → Option Bool) (hf : ∀ a, a ∈ l → f a = some (p a)) : F_slices_IndexFunc_Lint64_int64 l f = some (idxF p l) := by
  unfold F_slices_IndexFunc_Lint64_int64
  refine loop_idx l p _ (fun i h => ?_) (by simp only [dge, cond_false])
  simp only [dlt h, inB_nat l i h, getD_toNat l i _ h, cond_true, hf _ (List.getElem_mem h), Option.bind_some, wsucc h hl]
  cases p l[i] <;> rfl
theorem P_IndexFunc_node (l : List TN) (hl : l.length < BIG) (p : TN → Bool) (f : TN → Option Bool) (hf : ∀ a, a ∈ l → f a = some (p a)) : F_slices_IndexFunc_Limpl_Node_impl_Node l f = some (idxF p l) := by
  unfold F_slices_IndexFunc_Limpl_Node_impl_Node
  refine loop_idx l p _ (fun i h => ?_) (by simp only [dge, cond_false])
  simp only [dlt h, inB_nat l i h, getD_toNat l i _ h, cond_true, hf _ (List.getElem_mem h), Option.bind_some, wsucc h hl]
  cases p l[i] <;> rfl
theorem P_IndexFunc_voter (l : List TR) (hl : l.length < BIG) (p : TR → Bool) (f : TR → Option Bool) (hf : ∀ a, a ∈ l → f a = some (p a)) : F_slices_IndexFunc_Limpl_Voter_impl_Voter l f = some (idxF p l) := by
  unfold F_slices_IndexFunc_Limpl_Voter_impl_Voter
  refine loop_idx l p _ (fun i h => ?_) (by simp only [dge, cond_false])
  simp only [dlt h, inB_nat l i h, getD_toNat l i _ h, cond_true, hf _ (List.getElem_mem h), Option.bind_some, wsucc h hl]
  cases p l[i] <;> rfl
theorem P_IndexFunc_choice (l : List TC) (hl : l.length < BIG) (p : TC → Bool) (f : TC → Option Bool) (hf : ∀ a, a ∈ l → f a = some (p a)) : F_slices_IndexFunc_Limpl_Choice_impl_Choice l f = some (idxF p l) := by
  unfold F_slices_IndexFunc_Limpl_Choice_impl_Choice
  refine loop_idx l p _ (fun i h => ?_) (by simp only [dge, cond_false])
  simp only [dlt h, inB_nat l i h, getD_toNat l i _ h, cond_true, hf _ (List.getElem_mem h), Option.bind_some, wsucc h hl]
  cases p l[i] <;> rfl
theorem P_ContainsFunc_int (l : List Int) (hl : l.length < BIG) (p : Int → Bool) (f : Int → Option Bool) (hf : ∀ a, a ∈ l → f a = some (p a)) : F_slices_ContainsFunc_Lint64_int64 l f = some (l.any p) := by
  unfold F_slices_ContainsFunc_Lint64_int64
  rw [P_IndexFunc_int l hl p f hf, Option.bind_some, idxF_nonneg]
theorem P_ContainsFunc_choice (l : List TC) (hl : l.length < BIG) (p : TC → Bool) (f : TC → Option Bool) (hf : ∀ a, a ∈ l → f a = some (p a)) : F_slices_ContainsFunc_Limpl_Choice_impl_Choice l f = some (l.any p) := by
  unfold F_slices_ContainsFunc_Limpl_Choice_impl_Choice
  rw [P_IndexFunc_choice l hl p f hf, Option.bind_some, idxF_nonneg]
theorem any_eq {α : Type} [DecidableEq α] (x : α) (l : List α) : l.any (fun a => decide (x = a)) = decide (x ∈ l) := by
  rw [Bool.eq_iff_iff]; simp
theorem any_eq' {α : Type} [DecidableEq α] (x : α) (l : List α) : l.any (fun a => decide (a = x)) = decide (x ∈ l) := by
  rw [Bool.eq_iff_iff]; simp
theorem P_Index_int (l : List Int) (hl : l.length < BIG) (x : Int) : F_slices_Index_Lint64_int64 l x = some (idxF (fun a => decide (x = a)) l) := by
  unfold F_slices_Index_Lint64_int64
  refine loop_idx l _ _ (fun i h => ?_) (by simp only [dge, cond_false])
  simp only [dlt h, inB_nat l i h, getD_toNat l i _ h, cond_true, wsucc h hl]
  cases decide (x = l[i]) <;> rfl
theorem P_Contains_int (l : List Int) (hl : l.length < BIG) (x : Int) : F_slices_Contains_Lint64_int64 l x = some (decide (x ∈ l)) := by
  unfold F_slices_Contains_Lint64_int64
  rw [P_Index_int l hl, Option.bind_some, idxF_nonneg, any_eq]
theorem beqV (a b : TV) : Sh.beq (.prod (.int .i64) (.prod (.int .i64) (.prod (.int .i64) (.prod (.prod (.int .i64) (.int .i64)) (.int .i64))))) a b = decide (a = b) := by
  obtain ⟨a1, a2, a3, ⟨a4, a5⟩, a6⟩ := a; obtain ⟨b1, b2, b3, ⟨b4, b5⟩, b6⟩ := b
  rw [Bool.eq_iff_iff]; simp [Sh.beq, and_assoc]
theorem beqC (a b : TC) : Sh.beq (.prod (.prod (.int .i64) (.int .i64)) (.int .i64)) a b = decide (a = b) := by
  obtain ⟨⟨a4, a5⟩, a6⟩ := a; obtain ⟨⟨b4, b5⟩, b6⟩ := b
  rw [Bool.eq_iff_iff]; simp [Sh.beq, and_assoc]
theorem P_Index_vote (l : List TV) (hl : l.length < BIG) (x : TV) : F_slices_Index_Limpl_Vote_impl_Vote l x = some (idxF (fun a => decide (x = a)) l) := by
  unfold F_slices_Index_Limpl_Vote_impl_Vote
  refine loop_idx l _ _ (fun i h => ?_) (by simp only [dge, cond_false])
  simp only [dlt h, inB_nat l i h, getD_toNat l i _ h, cond_true, wsucc h hl, beqV]
  cases decide (x = l[i]) <;> rfl
theorem P_Contains_vote (l : List TV) (hl : l.length < BIG) (x : TV) : F_slices_Contains_Limpl_Vote_impl_Vote l x = some (decide (x ∈ l)) := by
  unfold F_slices_Contains_Limpl_Vote_impl_Vote
  rw [P_Index_vote l hl, Option.bind_some, idxF_nonneg, any_eq]
  exact congrArg some (decide_eq_decide.2 Iff.rfl)
theorem P_Index_choice (l : List TC) (hl : l.length < BIG) (x : TC) : F_slices_Index_Limpl_Choice_impl_Choice l x = some (idxF (fun a => decide (x = a)) l) := by
  unfold F_slices_Index_Limpl_Choice_impl_Choice
  refine loop_idx l _ _ (fun i h => ?_) (by simp only [dge, cond_false])
  simp only [dlt h, inB_nat l i h, getD_toNat l i _ h, cond_true, wsucc h hl, beqC]
  cases decide (x = l[i]) <;> rfl
theorem P_Contains_choice (l : List TC) (hl : l.length < BIG) (x : TC) : F_slices_Contains_Limpl_Choice_impl_Choice l x = some (decide (x ∈ l)) := by
  unfold F_slices_Contains_Limpl_Choice_impl_Choice
  rw [P_Index_choice l hl, Option.bind_some, idxF_nonneg, any_eq]
  exact congrArg some (decide_eq_decide.2 Iff.rfl)
theorem agree_self {R : Type} (a : Option R) : agree a a = a := by unfold agree; simp
theorem P_Clone_int (l : List Int) (hl : l.length ≤ LIM) : F_slices_Clone_Lint64_int64 l = some l := by
  unfold F_slices_Clone_Lint64_int64
  cases l with
  | nil => exact agree_self _
  | cons a l =>
    simp only [List.isEmpty_cons, cond_false]
    rw [show decide (List.length ([] : List Int) + List.length (a :: l) ≤ LIM) = true by simpa using hl]; rfl
theorem P_Clone_node (l : List TN) (hl : l.length ≤ LIM) : F_slices_Clone_Limpl_Node_impl_Node l = some l := by
  unfold F_slices_Clone_Limpl_Node_impl_Node
  cases l with
  | nil => exact agree_self _
  | cons a l =>
    simp only [List.isEmpty_cons, cond_false]
    rw [show decide (List.length ([] : List TN) + List.length (a :: l) ≤ LIM) = true by simpa using hl]; rfl
theorem P_Clone_vote (l : List TV) (hl : l.length ≤ LIM) : F_slices_Clone_Limpl_Vote_impl_Vote l = some l := by
  unfold F_slices_Clone_Limpl_Vote_impl_Vote
  cases l with
  | nil => exact agree_self _
  | cons a l =>
    simp only [List.isEmpty_cons, cond_false]
    rw [show decide (List.length ([] : List TV) + List.length (a :: l) ≤ LIM) = true by simpa using hl]; rfl
theorem P_Clone_choice (l : List TC) (hl : l.length ≤ LIM) : F_slices_Clone_Limpl_Choice_impl_Choice l = some l := by
  unfold F_slices_Clone_Limpl_Choice_impl_Choice
  cases l with
  | nil => exact agree_self _
  | cons a l =>
    simp only [List.isEmpty_cons, cond_false]
    rw [show decide (List.length ([] : List TC) + List.length (a :: l) ≤ LIM) = true by simpa using hl]; rfl
theorem LIM_BIG {n : Nat} (h : n ≤ LIM) : n < BIG := by unfold LIM at h; unfold BIG; omega
/-! quorums -/
theorem P_impl_areKeys (l : List Int) (hl : l.length < BIG) : F_impl_areKeys l = some (l.all fun k => mIn k 1 999) := by
  unfold F_impl_areKeys
  rw [P_ContainsFunc_int l hl (fun k => !mIn k 1 999) _ (fun a _ => by unfold F_impl_areKeys_c1; rw [P_impl_isKey]; rfl), Option.bind_some]
  rw [List.all_eq_not_any_not]
def mRising (l : List Int) : Bool := (List.range (l.length - 1)).all fun i => decide (List.getD l i 0 < List.getD l (i + 1) 0)
theorem loop_rising {β : Type} (l : List Int) (hl : l.length < BIG) (r : β) (f : Int → Option (Int ⊕ (Unit ⊕ β)))
    (hs : ∀ (i : Nat), i + 1 < l.length → f ((i + 1 : Nat) : Int) = some (if List.getD l (i + 1) 0 ≤ List.getD l i 0 then .inr (.inr r) else .inl ((i + 2 : Nat) : Int))) (he : ∀ n : Nat, l.length ≤ n → f (n : Int) = some (.inr (.inl ()))) :
    loopO f 1 = some (if mRising l then .inl () else .inr r) := by
  have key : ∀ (k i : Nat), i + k = l.length - 1 → loopO f ((i + 1 : Nat) : Int) = some (if (List.range' i k).all (fun i => decide (List.getD l i 0 < List.getD l (i + 1) 0)) then .inl () else .inr r) := by
    intro k
    induction k with
    | zero => intro i hi; rw [loopO_out (he _ (by omega))]; simp
    | succ k ih =>
      intro i hi
      have hs := hs i (by omega)
      rw [List.range'_succ, List.all_cons]
      by_cases hc : List.getD l (i + 1) 0 ≤ List.getD l i 0
      · rw [if_pos hc] at hs
        rw [loopO_out hs, decide_eq_false (p := List.getD l i 0 < List.getD l (i + 1) 0) (by omega)]; rfl
      · rw [if_neg hc] at hs
        rw [loopO_next hs, ih (i + 1) (by omega), decide_eq_true (p := List.getD l i 0 < List.getD l (i + 1) 0) (by omega), Bool.true_and]
  have := key (l.length - 1) 0 (by omega)
  rw [← List.range_eq_range'] at this
  exact this
theorem rising_step (l : List Int) (hl : l.length < BIG) (i : Nat) (h : i + 1 < l.length) : decide (((i + 1 : Nat) : Int) < (l.length : Int)) = true ∧ inB ((i + 1 : Nat) : Int) l = true ∧ inB (IntKind.wrap .i64 (((i + 1 : Nat) : Int) - 1)) l = true ∧
    List.getD l (Int.toNat ((i + 1 : Nat) : Int)) 0 = List.getD l (i + 1) 0 ∧ List.getD l (Int.toNat (IntKind.wrap .i64 (((i + 1 : Nat) : Int) - 1))) 0 = List.getD l i 0 ∧ IntKind.wrap .i64 (((i + 1 : Nat) : Int) + 1) = ((i + 2 : Nat) : Int) := by
  rw [wpred (i := i) (n := l.length) (by omega) hl]
  exact ⟨dlt h, inB_nat l _ h, inB_nat l _ (by omega), by simp, by simp, wsucc h hl⟩
theorem dge' {i n : Nat} (h : n ≤ i) : decide ((i : Int) < (n : Int)) = false := by simp; omega
theorem P_impl_isRising (l : List Int) (hl : l.length < BIG) : F_impl_isRising l = some (mRising l) := by
  unfold F_impl_isRising
  rw [loop_rising l hl false _ (fun i h => by
    obtain ⟨h1, h2, h3, h4, h5, h6⟩ := rising_step l hl i h
    simp only [h1, h2, h3, h4, h5, h6, cond_true]
    by_cases hc : List.getD l (i + 1) 0 ≤ List.getD l i 0
    · rw [if_pos hc, decide_eq_true hc]; rfl
    · rw [if_neg hc, decide_eq_false hc]; rfl) (fun n hn => by simp only [dge' hn, cond_false]), Option.bind_some]
  cases mRising l <;> rfl
def mQF (q : TQ) : Int := if mIn (q.1.length : Int) 1 8 then (if (q.1.all fun k => mIn k 1 999) && mIn q.2 1 (q.1.length : Int) then (if mRising q.1 then 0 else 1) else 3) else 2
theorem P_impl_QuorumFault (q : TQ) (hl : q.1.length < BIG) : F_impl_QuorumFault q = some (mQF q) := by
  unfold F_impl_QuorumFault mQF
  simp only [P_impl_within, P_impl_areKeys _ hl, P_impl_isRising _ hl, Option.bind_some]
  cases mIn (q.1.length : Int) 1 8 <;> cases (q.1.all fun k => mIn k 1 999) <;> cases mIn q.2 1 (q.1.length : Int) <;> cases mRising q.1 <;> rfl
theorem keys_loop {β : Type} (l : List Int) (hl : l.length < BIG) (r : β) (f : Int → Option (Int ⊕ (Unit ⊕ β)))
    (hs : ∀ (i : Nat) (h : i < l.length), f (i : Int) = some (if mIn l[i] 1 999 then .inl ((i + 1 : Nat) : Int) else .inr (.inr r))) (he : f (l.length : Int) = some (.inr (.inl ()))) :
    loopO f 0 = some (if (l.all fun k => mIn k 1 999) then .inl () else .inr r) := by
  rw [loop_first l (fun _ a => if !mIn a 1 999 then some r else none) f (fun i h => by rw [hs i h]; cases mIn l[i] 1 999 <;> rfl) he, first_any, List.all_eq_not_any_not]
  cases l.any fun x => !mIn x 1 999 <;> rfl
theorem P_spec_l10Fault (q : TQ) (hl : q.1.length < BIG) : F_spec_l10Fault q = some (mQF q) := by
  unfold F_spec_l10Fault mQF
  simp only [P_spec_l1In, Option.bind_some]
  rw [keys_loop q.1 hl 3 _ (fun i h => by
    simp only [dlt h, inB_nat q.1 i h, getD_toNat q.1 i _ h, cond_true, P_spec_l1Key, Option.bind_some, wsucc h hl]
    cases mIn q.1[i] 1 999 <;> rfl) (by simp only [dge, cond_false]), Option.bind_some]
  cases mIn (q.1.length : Int) 1 8 with
  | false => rfl
  | true =>
    cases (q.1.all fun k => mIn k 1 999) with
    | false => rfl
    | true =>
      cases mIn q.2 1 (q.1.length : Int) with
      | false => rfl
      | true =>
        simp only [Bool.not_true, cond_false, if_true, Sum.elim_inl, Bool.true_and]
        rw [loop_rising q.1 hl 1 _ (fun i h => by
          obtain ⟨h1, h2, h3, h4, h5, h6⟩ := rising_step q.1 hl i h
          simp only [h1, h2, h3, h4, h5, h6, cond_true]
          by_cases hc : List.getD q.1 (i + 1) 0 ≤ List.getD q.1 i 0
          · rw [if_pos hc, decide_eq_true hc]; rfl
          · rw [if_neg hc, decide_eq_false hc]; rfl) (fun n hn => by simp only [dge' hn, cond_false]), Option.bind_some]
        cases mRising q.1 <;> rfl
def mBF (l : List Int) : Int := if (l.all fun k => mIn k 1 999) then (if mRising l then 0 else 1) else 3
theorem P_impl_badFault (l : List Int) (hl : l.length < BIG) : F_impl_badFault l = some (mBF l) := by
  unfold F_impl_badFault mBF
  simp only [P_impl_areKeys _ hl, P_impl_isRising _ hl, Option.bind_some]
  cases (l.all fun k => mIn k 1 999) <;> cases mRising l <;> rfl
theorem P_spec_l12Bad (l : List Int) (hl : l.length < BIG) : F_spec_l12Bad l = some (mBF l) := by
  unfold F_spec_l12Bad mBF
  rw [keys_loop l hl 3 _ (fun i h => by
    simp only [dlt h, inB_nat l i h, getD_toNat l i _ h, cond_true, P_spec_l1Key, Option.bind_some, wsucc h hl]
    cases mIn l[i] 1 999 <;> rfl) (by simp only [dge, cond_false]), Option.bind_some]
  cases (l.all fun k => mIn k 1 999) with
  | false => rfl
  | true =>
    simp only [if_true, Sum.elim_inl]
    rw [loop_rising l hl 1 _ (fun i h => by
      obtain ⟨h1, h2, h3, h4, h5, h6⟩ := rising_step l hl i h
      simp only [h1, h2, h3, h4, h5, h6, cond_true]
      by_cases hc : List.getD l (i + 1) 0 ≤ List.getD l i 0
      · rw [if_pos hc, decide_eq_true hc]; rfl
      · rw [if_neg hc, decide_eq_false hc]; rfl) (fun n hn => by simp only [dge' hn, cond_false]), Option.bind_some]
    cases mRising l <;> rfl
end CL
end Go.Dx

set_option maxHeartbeats 2000000
namespace Go.Dx
namespace CL
theorem getD_nat {α : Type} (l : List α) (i : Nat) (d : α) (h : i < l.length) : List.getD l i d = l[i] := by simp [List.getD_eq_getElem?_getD, List.getElem?_eq_getElem h]
theorem P_DeleteFunc_int (l : List Int) (hl : l.length < BIG) (p : Int → Bool) (f : Int → Option Bool) (hf : ∀ a, a ∈ l → f a = some (p a)) : F_slices_DeleteFunc_Lint64_int64 l f = some (l.filter fun a => !p a) := by
  unfold F_slices_DeleteFunc_Lint64_int64
  rw [P_IndexFunc_int l hl p f hf, Option.bind_some]
  cases hany : l.any p with
  | false =>
    have h1 : idxF p l < 0 := (idxF_neg p l).2 hany
    have h2 : idxF p l = -1 := by
      rw [idxF_eq] at h1 ⊢
      cases hfi : List.findIdx? p l with
      | none => rfl
      | some k => rw [hfi] at h1; simp only at h1; omega
    rw [h2]
    simp only [decide_true, cond_true]
    congr 1
    symm
    rw [List.filter_eq_self]
    intro a ha
    rw [List.any_eq_false] at hany
    simpa using hany a ha
  | true =>
    obtain ⟨k, hk, hidx, hpk, hlt⟩ := idxF_found hany
    rw [hidx]
    have hne : decide ((k : Int) = -1) = false := decide_eq_false (by omega)
    rw [hne, cond_false, wsucc hk hl]
    have key : ∀ (n i j : Nat) (acc : List Int), j + n = l.length → acc.length = l.length → i < j → acc.take i = (l.take j).filter (fun a => !p a) → acc.drop j = l.drop j →
        ∃ (acc' : List Int) (i' : Nat), loopO (S := List Int × Int × Int) (X := List Int × Int) (fun (s15 : List Int × Int × Int) =>
          bif (decide ((s15.2.2 : Int) < (List.length s15.1 : Int))) then
          bif (inB s15.2.2 s15.1) then
          (f (List.getD s15.1 (Int.toNat s15.2.2) 0)).bind fun (y16 : Bool) =>
          (bif (!y16) then
          bif (inB s15.2.1 s15.1) then
          some (List.set s15.1 (Int.toNat s15.2.1) (List.getD s15.1 (Int.toNat s15.2.2) 0), IntKind.wrap .i64 (s15.2.1 + 1))
          else none
          else
          some (s15.1, s15.2.1) : Option (List Int × Int)).bind fun (j17 : List Int × Int) =>
          some (Sum.inl (j17.1, (j17.2, IntKind.wrap .i64 (s15.2.2 + 1))))
          else none
          else
          some (Sum.inr (s15.1, s15.2.1))) (acc, ((i : Int), (j : Int))) = some (acc', (i' : Int)) ∧ acc'.length = l.length ∧ i' ≤ l.length ∧ acc'.take i' = l.filter (fun a => !p a) := by
      intro n
      induction n with
      | zero =>
        intro i j acc hj hacc hij ht hd
        obtain rfl : j = l.length := by omega
        refine ⟨acc, i, loopO_out ?_, hacc, by omega, by rw [ht, List.take_length]⟩
        simp only [hacc, dge, cond_false]
      | succ n ih =>
        intro i j acc hj hacc hij ht hd
        have hjl : j < l.length := by omega
        have hja : j < acc.length := by omega
        have hel : acc[j] = l[j] := by
          have h1 := List.drop_eq_getElem_cons hja
          have h2 := List.drop_eq_getElem_cons hjl
          rw [h1, h2] at hd
          exact (List.cons.inj hd).1
        have hdn : acc.drop (j + 1) = l.drop (j + 1) := by
          have h1 := List.drop_eq_getElem_cons hja
          have h2 := List.drop_eq_getElem_cons hjl
          rw [h1, h2] at hd
          exact (List.cons.inj hd).2
        have hstep : l.take (j + 1) = l.take j ++ [l[j]] := (List.take_append_getElem hjl).symm
        cases hp : p l[j] with
        | true =>
          obtain ⟨acc', i', h1, h2⟩ := ih i (j + 1) acc (by omega) hacc (by omega) (by rw [hstep, List.filter_append, ht]; simp [hp]) hdn
          refine ⟨acc', i', (loopO_next ?_).trans h1, h2⟩
          simp only [dlt hja, inB_nat acc j hja, getD_toNat acc j _ hja, cond_true, hel, hf _ (List.getElem_mem hjl), hp, Option.bind_some, Bool.not_true, cond_false, wsucc hjl hl]
        | false =>
          have hia : i < acc.length := by omega
          obtain ⟨acc', i', h1, h2⟩ := ih (i + 1) (j + 1) (acc.set i l[j]) (by omega) (by simpa using hacc) (by omega) (by
            rw [hstep, List.filter_append, ← ht]
            simp only [List.filter_cons, hp, Bool.not_false, if_true, List.filter_nil]
            rw [List.take_set, ← List.take_append_getElem hia, List.set_append_right _ _ (by simp; omega)]
            simp [Nat.min_eq_left (Nat.le_of_lt hia)]) (by rw [List.drop_set_of_lt (by omega)]; exact hdn)
          refine ⟨acc', i', (loopO_next ?_).trans h1, h2⟩
          simp only [dlt hja, inB_nat acc j hja, inB_nat acc i hia, Int.toNat_natCast, getD_nat acc j _ hja, cond_true, hel, hf _ (List.getElem_mem hjl), hp, Option.bind_some, Bool.not_false, wsucc hjl hl, wsucc (i := i) (n := l.length) (by omega) hl]
    obtain ⟨acc', i', h1, h2, h3, h4⟩ := key (l.length - (k + 1)) k (k + 1) l (by omega) rfl (by omega) (by
      symm
      rw [← List.take_append_getElem hk, List.filter_append]
      simp only [List.filter_cons, hpk, Bool.not_true, Bool.false_eq_true, if_false, List.filter_nil, List.append_nil]
      rw [List.filter_eq_self]
      intro a ha
      obtain ⟨j, hj, rfl⟩ := List.getElem_of_mem ha
      simp only [List.length_take] at hj
      rw [List.getElem_take]
      simpa using hlt j (by omega)) rfl
    rw [h1, Option.bind_some]
    have c1 : cutOk (i' : Int) (acc'.length : Int) acc' = true := by simp [cutOk, h2]; omega
    have c2 : cutOk 0 (i' : Int) (clr (s := .int .i64) (i' : Int) (acc'.length : Int) acc') = true := by
      simp only [cutOk, Bool.and_eq_true, decide_eq_true_eq]
      refine ⟨⟨by omega, by omega⟩, ?_⟩
      show (i' : Int) ≤ ((List.take (Int.toNat i') acc' ++ (List.replicate (((acc'.length : Int) - i').toNat) (0 : Int) ++ List.drop (Int.toNat (acc'.length : Int)) acc')).length : Int)
      simp; omega
    simp only [c1, c2, cond_true]
    congr 1
    show List.take (Int.toNat ((i' : Int) - 0)) (List.drop (Int.toNat 0) (List.take (Int.toNat i') acc' ++ (List.replicate (((acc'.length : Int) - i').toNat) (0 : Int) ++ List.drop (Int.toNat (acc'.length : Int)) acc'))) = _
    simp only [Int.sub_zero, Int.toNat_natCast, show Int.toNat 0 = 0 from rfl, List.drop_zero]
    rw [List.take_append_of_le_length (by simp; omega), List.take_take, Nat.min_self, h4]
theorem P_spec_l4Among (l : List Int) (hl : l.length < BIG) (x : Int) : F_spec_l4Among l x = some (decide (x ∈ l)) := by
  unfold F_spec_l4Among
  rw [← any_eq']
  refine loop_any l _ _ (fun i h => ?_) (by simp only [dge, cond_false])
  simp only [dlt h, inB_nat l i h, getD_toNat l i _ h, cond_true, wsucc h hl]
  cases decide (l[i] = x) <;> rfl
def mGood (q : TQ) (bad : List Int) : List Int := q.1.filter fun k => !decide (k ∈ bad)
theorem P_impl_goodKeys (q : TQ) (bad : List Int) (hl : q.1.length ≤ LIM) (hb : bad.length < BIG) : F_impl_goodKeys q bad = some (mGood q bad) := by
  unfold F_impl_goodKeys mGood
  rw [P_Clone_int _ hl, Option.bind_some, P_DeleteFunc_int q.1 (LIM_BIG hl) (fun k => decide (k ∈ bad)) _ (fun a _ => by unfold F_impl_goodKeys_c1; rw [P_Contains_int bad hb]; rfl)]
  rfl
theorem P_spec_l12Good (q : TQ) (bad : List Int) (hl : q.1.length < LIM) (hb : bad.length < BIG) : F_spec_l12Good q bad = some (mGood q bad) := by
  unfold F_spec_l12Good mGood
  have hB : q.1.length < BIG := LIM_BIG (Nat.le_of_lt hl)
  rw [loop_fold q.1 (fun acc k => if !decide (k ∈ bad) then acc ++ [k] else acc) (fun t i => (t, i)) (fun t => t) (fun t i => t.length ≤ i) _ (fun i h t ht => ?_) (fun t ht => by simp only [dge, cond_false]) ([] : List Int) (by simp), foldl_filter]
  · rfl
  · have h1 := append_one_lim t q.1[i] i ht (by omega)
    simp only [dlt h, inB_nat q.1 i h, getD_toNat q.1 i _ h, cond_true, P_spec_l4Among bad hb, Option.bind_some, wsucc h hB, h1]
    cases decide (q.1[i] ∈ bad)
    · exact ⟨rfl, by simp; omega⟩
    · exact ⟨rfl, by simp; omega⟩
end CL
end Go.Dx

set_option maxHeartbeats 2000000
namespace Go.Dx
namespace CL
/-! trees -/
def idT (t : List TN) (id : Int) : Int := idxF (fun n => decide (n.1 = id)) t
theorem P_impl_findNode (t : List TN) (ht : t.length < BIG) (id : Int) : F_impl_findNode t id = some (idT t id) := by
  unfold F_impl_findNode idT
  rw [P_IndexFunc_node t ht (fun n => decide (n.1 = id)) _ (fun a _ => by unfold F_impl_findNode_c1; rfl)]
  rfl
theorem P_spec_l9At (t : List TN) (ht : t.length < BIG) (id : Int) : F_spec_l9At t id = some (idT t id) := by
  unfold F_spec_l9At idT
  refine loop_idx t _ _ (fun i h => ?_) (by simp only [dge, cond_false])
  simp only [dlt h, inB_nat t i h, getD_toNat t i _ h, cond_true, wsucc h ht]
  cases decide (t[i].1 = id) <;> rfl
theorem idT_inB {t : List TN} {id : Int} (h : ¬ idT t id < 0) : inB (idT t id) t = true := idxF_inB (by unfold idT at h; omega)
theorem nonneg_dec (x : Int) : decide (0 ≤ x) = !decide (x < 0) := by
  by_cases h : x < 0
  · rw [decide_eq_true h, decide_eq_false (by omega)]; rfl
  · rw [decide_eq_false h, decide_eq_true (by omega)]; rfl
def mNode (t : List TN) (n : TN) : Int :=
  if mIn n.1 1 60 && mIn n.2.2 1 40 then
    if idT t n.1 < 0 then
      if n.2.1 = 0 then (if n.2.2 = 1 then 0 else 1)
      else if idT t n.2.1 < 0 then 4 else if n.2.2 = IntKind.wrap .i64 ((List.getD t (Int.toNat (idT t n.2.1)) (0, (0, 0))).2.2 + 1) then 0 else 1
    else 7
  else 3
theorem P_impl_nodeFault (t : List TN) (ht : t.length < BIG) (n : TN) : F_impl_nodeFault t n = some (mNode t n) := by
  unfold F_impl_nodeFault mNode
  simp only [P_impl_findNode t ht, P_impl_isId, P_impl_within, Option.bind_some, nonneg_dec]
  by_cases hp : n.2.1 = 0
  · simp only [hp, decide_true, Bool.not_true, cond_false, Option.bind_some, if_true]
    cases mIn n.1 1 60 <;> cases mIn n.2.2 1 40 <;> by_cases h1 : idT t n.1 < 0 <;> by_cases h2 : n.2.2 = 1 <;> simp [h1, h2]
  · simp only [hp, decide_false, Bool.not_false, cond_true, Option.bind_some, if_false]
    by_cases hq : idT t n.2.1 < 0
    · simp only [hq, decide_true, Bool.not_true, cond_false, Option.bind_some, if_true]
      cases mIn n.1 1 60 <;> cases mIn n.2.2 1 40 <;> by_cases h1 : idT t n.1 < 0 <;> simp [h1]
    · simp only [hq, decide_false, Bool.not_false, cond_true, idT_inB hq, Option.bind_some, if_false]
      generalize IntKind.wrap .i64 ((List.getD t (Int.toNat (idT t n.2.1)) (0, (0, 0))).2.2 + 1) = hh
      cases mIn n.1 1 60 <;> cases mIn n.2.2 1 40 <;> by_cases h1 : idT t n.1 < 0 <;> by_cases h2 : n.2.2 = hh <;> simp [h1, h2]
theorem P_spec_l9Node (t : List TN) (ht : t.length < BIG) (n : TN) : F_spec_l9Node t n = some (mNode t n) := by
  unfold F_spec_l9Node mNode
  simp only [P_spec_l9At t ht, P_spec_l1In, Option.bind_some, nonneg_dec]
  by_cases hp : n.2.1 = 0
  · simp only [hp, decide_true, Bool.not_true, cond_false, Option.bind_some, if_true, Sum.elim_inl, show IntKind.wrap .i64 ((0 : Int) + 1) = 1 from by decide]
    cases mIn n.1 1 60 <;> cases mIn n.2.2 1 40 <;> by_cases h1 : idT t n.1 < 0 <;> by_cases h2 : n.2.2 = 1 <;> simp [h1, h2]
  · simp only [hp, decide_false, Bool.not_false, cond_true, Option.bind_some, if_false]
    by_cases hq : idT t n.2.1 < 0
    · simp only [hq, decide_true, cond_true, Option.bind_some, Sum.elim_inr, if_true]
      cases mIn n.1 1 60 <;> cases mIn n.2.2 1 40 <;> by_cases h1 : idT t n.1 < 0 <;> simp [h1]
    · simp only [hq, decide_false, cond_false, cond_true, idT_inB hq, Option.bind_some, Sum.elim_inl, if_false]
      generalize IntKind.wrap .i64 ((List.getD t (Int.toNat (idT t n.2.1)) (0, (0, 0))).2.2 + 1) = hh
      cases mIn n.1 1 60 <;> cases mIn n.2.2 1 40 <;> by_cases h1 : idT t n.1 < 0 <;> by_cases h2 : n.2.2 = hh <;> simp [h1, h2]
def mTree (t : List TN) : Int := if (60 : Int) < (t.length : Int) then 2 else code (fun i n => mNode (t.take i) n) t
theorem take_BIG {α : Type} {l : List α} (hl : l.length < BIG) (i : Nat) : (l.take i).length < BIG := by rw [List.length_take]; omega
theorem P_impl_TreeFault (t : List TN) (ht : t.length < BIG) : F_impl_TreeFault t = some (mTree t) := by
  unfold F_impl_TreeFault mTree
  by_cases hl : (60 : Int) < (t.length : Int)
  · simp only [hl, decide_true, cond_true, if_true]
  · simp only [hl, decide_false, cond_false, if_false]
    refine loop_code t _ _ (fun i h => ?_) (by simp only [dge, cond_false])
    simp only [dlt h, inB_nat t i h, cutOk_nat t i (Nat.le_of_lt h), cut_nat, getD_toNat t i _ h, cond_true, P_impl_nodeFault _ (take_BIG ht i), Option.bind_some, wsucc h ht, bif_code]
    split <;> rfl
theorem P_spec_l9Fault (t : List TN) (ht : t.length < BIG) : F_spec_l9Fault t = some (mTree t) := by
  unfold F_spec_l9Fault mTree
  by_cases hl : (60 : Int) < (t.length : Int)
  · simp only [hl, decide_true, cond_true, if_true]
  · simp only [hl, decide_false, cond_false, if_false]
    refine loop_code t _ _ (fun i h => ?_) (by simp only [dge, cond_false])
    simp only [dlt h, inB_nat t i h, cutOk_nat t i (Nat.le_of_lt h), cut_nat, getD_toNat t i _ h, cond_true, P_spec_l9Node _ (take_BIG ht i), Option.bind_some, wsucc h ht, bif_code]
    split <;> rfl
structure Right (t : List TN) : Prop where
  len : t.length ≤ 60
  id : ∀ i (h : i < t.length), 1 ≤ t[i].1
  prev : ∀ i (h : i < t.length), t[i].2.1 ≠ 0 → ∃ j, ∃ (hj : j < i), (t[j]'(by omega)).1 = t[i].2.1
theorem right_of {t : List TN} (h : mTree t = 0) : Right t := by
  unfold mTree at h
  by_cases hl : (60 : Int) < (t.length : Int)
  · rw [if_pos hl] at h; cases h
  · rw [if_neg hl] at h
    have hc := code_zero h
    refine ⟨by omega, fun i hi => ?_, fun i hi hp => ?_⟩
    · have := hc i _ (List.getElem?_eq_getElem hi)
      unfold mNode at this
      split at this
      · rename_i hh
        simp only [Bool.and_eq_true, mIn, decide_eq_true_eq] at hh
        exact hh.1.1
      · cases this
    · have := hc i _ (List.getElem?_eq_getElem hi)
      unfold mNode at this
      split at this
      · split at this
        · (try rw [if_neg hp] at this)
          split at this
          · cases this
          · rename_i hq
            unfold idT at hq
            have hany : (t.take i).any (fun n => decide (n.1 = t[i].2.1)) = true := by
              rw [← idxF_nonneg]; simp; omega
            obtain ⟨k, hk, _, hkk, _⟩ := idxF_found hany
            simp only [List.length_take] at hk
            rw [List.getElem_take] at hkk
            exact ⟨k, by omega, by simpa using hkk⟩
        · cases this
      · cases this
def up (t : List TN) : Nat → Int → List Int
  | 0, _ => []
  | n + 1, b => if idT t b < 0 then [] else b :: up t n (List.getD t (Int.toNat (idT t b)) (0, (0, 0))).2.1
theorem up_len (t : List TN) : ∀ n b, (up t n b).length ≤ n
  | 0, b => by simp [up]
  | n + 1, b => by
    unfold up
    split
    · simp
    · simp [up_len t n]
theorem idT_found {t : List TN} {b : Int} (h : ¬ idT t b < 0) : ∃ (k : Nat) (hk : k < t.length), idT t b = (k : Int) ∧ t[k].1 = b ∧ ∀ j (hj : j < k), (t[j]'(by omega)).1 ≠ b := by
  have hany : t.any (fun n => decide (n.1 = b)) = true := by
    rw [← idxF_nonneg]; unfold idT at h; simp; omega
  obtain ⟨k, hk, h1, h2, h3⟩ := idxF_found hany
  exact ⟨k, hk, h1, by simpa using h2, fun j hj => by simpa using h3 j hj⟩
theorem idT_le {t : List TN} {b : Int} {j : Nat} (hj : j < t.length) (h : t[j].1 = b) : ¬ idT t b < 0 ∧ idT t b ≤ (j : Int) := by
  have h1 : ¬ idT t b < 0 := by
    intro hh
    have := (idxF_neg _ _).1 hh
    rw [List.any_eq_false] at this
    exact this _ (List.getElem_mem hj) (by simpa using h)
  refine ⟨h1, ?_⟩
  obtain ⟨k, hk, h2, h3, h4⟩ := idT_found h1
  rw [h2]
  rcases Nat.lt_or_ge j k with hh | hh
  · exact absurd h (h4 j hh)
  · omega
def pos (t : List TN) (b : Int) : Nat := (idT t b + 1).toNat
theorem Right.zero {t : List TN} (h : Right t) : idT t 0 < 0 := by
  rcases Int.lt_or_le (idT t 0) 0 with hh | hh
  · exact hh
  · obtain ⟨k, hk, _, h3, _⟩ := idT_found (t := t) (b := 0) (by omega)
    have := h.id k hk; omega
theorem Right.down {t : List TN} (h : Right t) {b : Int} (hb : ¬ idT t b < 0) : pos t (List.getD t (Int.toNat (idT t b)) (0, (0, 0))).2.1 < pos t b := by
  obtain ⟨k, hk, h1, h2, h3⟩ := idT_found hb
  rw [h1, Int.toNat_natCast, getD_nat t k _ hk]
  unfold pos
  rw [h1]
  by_cases hp : t[k].2.1 = 0
  · rw [hp]; have := h.zero; omega
  · obtain ⟨j, hj, hjj⟩ := h.prev k hk hp
    obtain ⟨_, h5⟩ := idT_le (t := t) (j := j) (by omega) hjj
    omega
theorem pos_le (t : List TN) (b : Int) : pos t b ≤ t.length := by
  unfold pos
  rcases Int.lt_or_le (idT t b) 0 with hh | hh
  · have := (idxF_ge _ _).1 hh; unfold idT; rw [this]; simp
  · obtain ⟨k, hk, h1, _⟩ := idT_found (t := t) (b := b) (by omega)
    rw [h1]; omega
def mAbove (t : List TN) (a b : Int) : Bool := decide (a ∈ up t t.length b)
theorem P_spec_l9Above (t : List TN) (ht : t.length < BIG) (hR : Right t) (a b : Int) : F_spec_l9Above t a b = some (mAbove t a b) := by
  unfold F_spec_l9Above mAbove
  generalize hf : (fun (s10 : Int) => _) = f
  have key : ∀ (n : Nat) (b : Int), pos t b ≤ n → ((loopO f b).bind fun (j12 : Unit ⊕ Bool) => Sum.elim (fun _ => some false) (fun j => some j) j12) = some (decide (a ∈ up t n b)) := by
    intro n
    induction n with
    | zero =>
      intro b hb
      have hneg : idT t b < 0 := by unfold pos at hb; omega
      by_cases h0 : b = 0
      · rw [loopO_out (x := Sum.inl ()) (by rw [← hf]; simp [h0])]; simp [up]
      · rw [loopO_out (x := Sum.inr false) (by rw [← hf]; simp [h0, P_spec_l9At t ht, hneg])]; simp [up]
    | succ n ih =>
      intro b hb
      unfold up
      by_cases hneg : idT t b < 0
      · rw [if_pos hneg]
        by_cases h0 : b = 0
        · rw [loopO_out (x := Sum.inl ()) (by rw [← hf]; simp [h0])]; simp
        · rw [loopO_out (x := Sum.inr false) (by rw [← hf]; simp [h0, P_spec_l9At t ht, hneg])]; simp
      · rw [if_neg hneg]
        have h0 : b ≠ 0 := by rintro rfl; exact hneg hR.zero
        by_cases hab : a = b
        · rw [loopO_out (x := Sum.inr true) (by rw [← hf]; simp [h0, P_spec_l9At t ht, hneg, hab])]; simp [hab]
        · rw [loopO_next (s' := (List.getD t (Int.toNat (idT t b)) (0, (0, 0))).2.1) (by rw [← hf]; simp [h0, P_spec_l9At t ht, hneg, hab, idT_inB hneg]), ih _ (by have := hR.down hneg; omega)]
          simp [hab]
  exact key t.length b (pos_le t b)
theorem P_impl_pathTo (t : List TN) (hR : Right t) (b : Int) : F_impl_pathTo t b = some (up t t.length b).reverse := by
  have ht : t.length < BIG := by have := hR.len; unfold BIG; omega
  unfold F_impl_pathTo
  rw [P_impl_findNode t ht, Option.bind_some]
  generalize hf : (fun (s11 : List Int × Int) => _) = f
  have key : ∀ (n : Nat) (b : Int) (acc : List Int), pos t b ≤ n → acc.length + n ≤ 60 → loopO f (acc, idT t b) = some (acc ++ up t n b) := by
    intro n
    induction n with
    | zero =>
      intro b acc hb hl
      have hneg : idT t b < 0 := by unfold pos at hb; omega
      rw [loopO_out (x := acc) (by rw [← hf]; simp [show ¬ 0 ≤ idT t b by omega])]; simp [up]
    | succ n ih =>
      intro b acc hb hl
      unfold up
      by_cases hneg : idT t b < 0
      · rw [if_pos hneg, loopO_out (x := acc) (by rw [← hf]; simp [show ¬ 0 ≤ idT t b by omega])]; simp
      · rw [if_neg hneg]
        obtain ⟨k, hk, h1, h2, h3⟩ := idT_found hneg
        have hid : (List.getD t (Int.toNat (idT t b)) (0, (0, 0))).1 = b := by rw [h1, Int.toNat_natCast, getD_nat t k _ hk, h2]
        have hlim : decide (List.length acc + List.length [b] ≤ LIM) = true := append_one_lim acc b 60 (by omega) (by decide)
        rw [loopO_next (s' := (acc ++ [b], idT t (List.getD t (Int.toNat (idT t b)) (0, (0, 0))).2.1)) (by
          rw [← hf]
          simp only [show decide (0 ≤ idT t b) = true by simp; omega, cond_true, idT_inB hneg, hid, hlim, P_impl_findNode t ht, Option.bind_some]; rfl), ih _ _ (by have := hR.down hneg; omega) (by simp; omega)]
        simp
  rw [key t.length b [] (pos_le t b) (by simpa using hR.len), Option.bind_some]
  unfold F_slices_Reverse_Lint64_int64
  have hl := up_len t t.length b
  have := hR.len
  rw [show Nat.ble (List.length ([] ++ up t t.length b)) 9223372036854775807 = true from by rw [Nat.ble_eq]; simp; omega]
  simp
theorem P_impl_isAbove (t : List TN) (hR : Right t) (a b : Int) : F_impl_isAbove t a b = some (mAbove t a b) := by
  unfold F_impl_isAbove mAbove
  have hl := up_len t t.length b
  have := hR.len
  rw [P_impl_pathTo t hR, Option.bind_some, P_Contains_int _ (by rw [List.length_reverse]; unfold BIG; omega)]
  simp
end CL
end Go.Dx

set_option maxHeartbeats 2000000
namespace Go.Dx
namespace CL
theorem idxF_at {α : Type} {p : α → Bool} {l : List α} {i : Nat} (h : i < l.length) (hp : p l[i] = true) : decide (idxF p l = (i : Int)) = !(l.take i).any p := by
  have hany : l.any p = true := by rw [List.any_eq_true]; exact ⟨l[i], List.getElem_mem h, hp⟩
  obtain ⟨k, hk, h1, h2, h3⟩ := idxF_found hany
  rw [h1]
  by_cases hki : k = i
  · subst hki
    have : (l.take k).any p = false := by
      rw [List.any_eq_false]
      intro a ha
      obtain ⟨j, hj, rfl⟩ := List.getElem_of_mem ha
      simp only [List.length_take] at hj
      rw [List.getElem_take, h3 j (by omega)]; simp
    simp [this]
  · have hlt : k < i := by
      rcases Nat.lt_or_ge i k with hh | hh
      · rw [h3 i hh] at hp; cases hp
      · omega
    have : (l.take i).any p = true := by
      rw [List.any_eq_true]
      exact ⟨l[k], List.mem_take_iff_getElem.2 ⟨k, by omega, rfl⟩, h2⟩
    rw [this]; simp; omega
theorem cmp_loop {β γ : Type} [DecidableEq γ] (l r : List γ) (hl : l.length = r.length) (b : β) (f : Int → Option (Int ⊕ (Unit ⊕ β)))
    (hs : ∀ (i : Nat) (h : i < l.length) (h' : i < r.length), f (i : Int) = some (if l[i] = r[i] then .inl ((i + 1 : Nat) : Int) else .inr (.inr b))) (he : f (l.length : Int) = some (.inr (.inl ()))) :
    loopO f 0 = some (if l = r then .inl () else .inr b) := by
  have key : ∀ (k i : Nat), i + k = l.length → loopO f (i : Int) = some (if l.drop i = r.drop i then .inl () else .inr b) := by
    intro k
    induction k with
    | zero =>
      intro i hi
      obtain rfl : i = l.length := by omega
      rw [loopO_out he, List.drop_length, hl, List.drop_length, if_pos rfl]
    | succ k ih =>
      intro i hi
      have h1 : i < l.length := by omega
      have h2 : i < r.length := by omega
      have hs := hs i h1 h2
      rw [List.drop_eq_getElem_cons h1, List.drop_eq_getElem_cons h2]
      by_cases he : l[i] = r[i]
      · rw [if_pos he] at hs
        rw [loopO_next hs, ih (i + 1) (by omega), he]
        by_cases hab : List.drop (i + 1) l = List.drop (i + 1) r
        · rw [if_pos hab, if_pos (by rw [hab])]
        · rw [if_neg hab, if_neg (fun h => hab (List.cons.inj h).2)]
      · rw [if_neg he] at hs
        rw [loopO_out hs, if_neg (fun h => he (List.cons.inj h).1)]
  have := key l.length 0 (by omega)
  simpa using this
/-! voters -/
def chAt (v : TR) (r : Int × Int) : Int := idxF (fun c => decide (c.1 = r)) v.2.2
theorem P_spec_l11At (v : TR) (hv : v.2.2.length < BIG) (r : Int × Int) : F_spec_l11At v r = some (chAt v r) := by
  unfold F_spec_l11At chAt
  refine loop_idx v.2.2 _ _ (fun i h => ?_) (by simp only [dge, cond_false])
  simp only [dlt h, inB_nat v.2.2 i h, getD_toNat v.2.2 i _ h, cond_true, wsucc h hv, beqP2]
  cases decide (v.2.2[i].1 = r) <;> rfl
def mChoice (l : List TC) (i : Nat) (c : TC) : Int := if mRef c.1 && mIn c.2 1 60 then (if (l.take i).any (fun y => decide (y.1 = c.1)) then 7 else 0) else 3
def mVoter (v : TR) : Int := if mIn v.1 1 999 && mIn v.2.1 0 60 then (if (40 : Int) < (v.2.2.length : Int) then 2 else code (mChoice v.2.2) v.2.2) else 3
theorem P_impl_VoterFault (v : TR) (hv : v.2.2.length < BIG) : F_impl_VoterFault v = some (mVoter v) := by
  unfold F_impl_VoterFault mVoter
  simp only [P_impl_isKey, P_impl_within, Option.bind_some]
  have hloop : ∀ f, (∀ (i : Nat) (h : i < v.2.2.length), f (i : Int) = some (if mChoice v.2.2 i v.2.2[i] = 0 then Sum.inl ((i + 1 : Nat) : Int) else Sum.inr (Sum.inr (mChoice v.2.2 i v.2.2[i])))) → f (v.2.2.length : Int) = some (.inr (.inl ())) →
      ((loopO f 0).bind fun (j : Unit ⊕ Int) => Sum.elim (fun _ => some 0) (fun j => some j) j) = some (code (mChoice v.2.2) v.2.2) := fun f h1 h2 => loop_code _ _ f h1 h2
  rw [hloop _ (fun i h => ?_) (by simp only [dge, cond_false])]
  · by_cases h40 : (40 : Int) < (v.2.2.length : Int)
    · cases mIn v.1 1 999 <;> cases mIn v.2.1 0 60 <;> simp [h40]
    · cases mIn v.1 1 999 <;> cases mIn v.2.1 0 60 <;> simp [h40]
  · simp only [dlt h, inB_nat v.2.2 i h, getD_toNat v.2.2 i _ h, cutOk_nat v.2.2 i (Nat.le_of_lt h), cut_nat, cond_true, P_impl_isRef, P_impl_isId, Option.bind_some, wsucc h hv]
    rw [P_ContainsFunc_choice _ (take_BIG hv i) (fun y => decide (y.1 = v.2.2[i].1)) _ (fun a _ => by unfold F_impl_VoterFault_c1; rw [beqP2]; rfl)]
    unfold mChoice
    cases mRef v.2.2[i].1 <;> cases mIn v.2.2[i].2 1 60 <;> cases (v.2.2.take i).any (fun y => decide (y.1 = v.2.2[i].1)) <;> rfl
theorem P_spec_l11Fault (v : TR) (hv : v.2.2.length < BIG) : F_spec_l11Fault v = some (mVoter v) := by
  unfold F_spec_l11Fault mVoter
  simp only [P_spec_l1Key, P_spec_l1In, Option.bind_some]
  have hloop : ∀ f, (∀ (i : Nat) (h : i < v.2.2.length), f (i : Int) = some (if mChoice v.2.2 i v.2.2[i] = 0 then Sum.inl ((i + 1 : Nat) : Int) else Sum.inr (Sum.inr (mChoice v.2.2 i v.2.2[i])))) → f (v.2.2.length : Int) = some (.inr (.inl ())) →
      ((loopO f 0).bind fun (j : Unit ⊕ Int) => Sum.elim (fun _ => some 0) (fun j => some j) j) = some (code (mChoice v.2.2) v.2.2) := fun f h1 h2 => loop_code _ _ f h1 h2
  rw [hloop _ (fun i h => ?_) (by simp only [dge, cond_false])]
  · by_cases h40 : (40 : Int) < (v.2.2.length : Int)
    · cases mIn v.1 1 999 <;> cases mIn v.2.1 0 60 <;> simp [h40]
    · cases mIn v.1 1 999 <;> cases mIn v.2.1 0 60 <;> simp [h40]
  · simp only [dlt h, inB_nat v.2.2 i h, getD_toNat v.2.2 i _ h, cond_true, P_spec_l3Ref, P_spec_l11Tx, P_spec_l11At v hv, Option.bind_some, wsucc h hv]
    have h7 := idxF_at (p := fun c : TC => decide (c.1 = v.2.2[i].1)) h (by simp)
    unfold chAt mChoice
    rw [h7]
    cases mRef v.2.2[i].1 <;> cases mIn v.2.2[i].2 1 60 <;> cases (v.2.2.take i).any (fun y => decide (y.1 = v.2.2[i].1)) <;> rfl
def cVoters (c : TK) : List TR := c.2.2.2.1
def mVoters (c : TK) : Int := if c.2.2.2.1.map (·.1) = mGood c.1 c.2.1 then code (fun _ v => mVoter v) c.2.2.2.1 else 1
/-- no list of a cluster is too long -/
structure Small (c : TK) : Prop where
  keys : c.1.1.length < LIM
  bad : c.2.1.length < LIM
  tree : c.2.2.1.length < LIM
  voters : c.2.2.2.1.length < LIM
  choices : ∀ v, v ∈ c.2.2.2.1 → v.2.2.length < LIM
  votes : c.2.2.2.2.1.length < LIM
  heard : c.2.2.2.2.2.length < LIM
  heards : ∀ l, l ∈ c.2.2.2.2.2 → l.length < LIM
theorem lB {n : Nat} (h : n < LIM) : n < BIG := LIM_BIG (Nat.le_of_lt h)
theorem P_impl_votersFault (c : TK) (hc : Small c) : F_impl_Cluster_votersFault c = some (mVoters c) := by
  unfold F_impl_Cluster_votersFault mVoters
  rw [P_impl_goodKeys _ _ (Nat.le_of_lt hc.keys) (lB hc.bad), Option.bind_some]
  have heq : F_slices_EqualFunc_Limpl_Voter_Lint64_impl_Voter_int64 c.2.2.2.1 (mGood c.1 c.2.1) (fun (a14 : TR) (a15 : Int) => (F_impl_Cluster_votersFault_c1 a14 a15).bind fun r16 => some r16) = some (decide (c.2.2.2.1.map (·.1) = mGood c.1 c.2.1)) := by
    unfold F_slices_EqualFunc_Limpl_Voter_Lint64_impl_Voter_int64
    by_cases hl : c.2.2.2.1.length = (mGood c.1 c.2.1).length
    · rw [show decide ((c.2.2.2.1.length : Int) = ((mGood c.1 c.2.1).length : Int)) = true by simp [hl]]
      simp only [Bool.not_true, cond_false]
      rw [cmp_loop (c.2.2.2.1.map (·.1)) (mGood c.1 c.2.1) (by simpa using hl) false _ (fun i h h' => by
        have h : i < c.2.2.2.1.length := by simpa using h
        simp only [dlt h, inB_nat _ i h, inB_nat _ i h', getD_toNat _ i _ h, getD_toNat _ i _ h', cond_true, List.getElem_map, wsucc h (lB hc.voters)]
        unfold F_impl_Cluster_votersFault_c1
        simp only [Option.bind_some]
        by_cases hq : c.2.2.2.1[i].1 = (mGood c.1 c.2.1)[i] <;> simp [hq]) (by simp only [List.length_map, dge, cond_false]), Option.bind_some]
      split
      · rename_i h; rw [decide_eq_true h]; rfl
      · rename_i h; rw [decide_eq_false h]; rfl
    · rw [show decide ((c.2.2.2.1.length : Int) = ((mGood c.1 c.2.1).length : Int)) = false by simp; omega]
      rw [decide_eq_false (fun h => hl (by rw [← h]; simp))]
      rfl
  rw [heq, Option.bind_some]
  by_cases hq : c.2.2.2.1.map (·.1) = mGood c.1 c.2.1
  · rw [decide_eq_true hq, if_pos hq]
    simp only [Bool.not_true, cond_false]
    refine loop_code c.2.2.2.1 _ _ (fun i h => ?_) (by simp only [dge, cond_false])
    simp only [dlt h, inB_nat _ i h, getD_toNat _ i _ h, cond_true, P_impl_VoterFault _ (lB (hc.choices _ (List.getElem_mem h))), Option.bind_some, wsucc h (lB hc.voters), bif_code]
    split <;> rfl
  · rw [decide_eq_false hq, if_neg hq]; rfl
theorem P_spec_l12Voters (c : TK) (hc : Small c) : F_spec_l12Voters c = some (mVoters c) := by
  unfold F_spec_l12Voters mVoters
  rw [P_spec_l12Good _ _ hc.keys (lB hc.bad), Option.bind_some]
  by_cases hl : (mGood c.1 c.2.1).length = c.2.2.2.1.length
  · rw [show decide (((mGood c.1 c.2.1).length : Int) = (c.2.2.2.1.length : Int)) = true by simp [hl]]
    simp only [Bool.not_true, cond_false]
    rw [cmp_loop (c.2.2.2.1.map (·.1)) (mGood c.1 c.2.1) (by simpa using hl.symm) 1 _ (fun i h h' => by
      have h : i < c.2.2.2.1.length := by simpa using h
      simp only [dlt h', inB_nat _ i h, inB_nat _ i h', getD_toNat _ i _ h, getD_toNat _ i _ h', cond_true, List.getElem_map, wsucc h (lB hc.voters)]
      by_cases hq : c.2.2.2.1[i].1 = (mGood c.1 c.2.1)[i] <;> simp [hq]) (by simp only [List.length_map, ← hl, dge, cond_false]), Option.bind_some]
    split
    · simp only [Sum.elim_inl]
      refine loop_code c.2.2.2.1 _ _ (fun i h => ?_) (by simp only [dge, cond_false])
      simp only [dlt h, inB_nat _ i h, getD_toNat _ i _ h, cond_true, P_spec_l11Fault _ (lB (hc.choices _ (List.getElem_mem h))), Option.bind_some, wsucc h (lB hc.voters), bif_code]
      split <;> rfl
    · rfl
  · rw [show decide (((mGood c.1 c.2.1).length : Int) = (c.2.2.2.1.length : Int)) = false by simp; omega]
    rw [if_neg (fun h => hl (by rw [← h]; simp))]
    rfl
/-! votes -/
def mVote (x : TV) : Int :=
  if x.2.1 = 1 then (if x.2.2.2.1 = (0, 0) then (if x.2.2.2.2 = 0 then (if mIn x.1 1 999 && mIn x.2.2.1 1 60 then 0 else 3) else 1) else 1)
  else if x.2.1 = 2 then (if x.2.2.1 = 0 then (if mIn x.1 1 999 && (mRef x.2.2.2.1 && mIn x.2.2.2.2 1 60) then 0 else 3) else 1)
  else 1
theorem P_impl_VoteFault (x : TV) : F_impl_VoteFault x = some (mVote x) := by
  unfold F_impl_VoteFault mVote
  simp only [P_impl_isId, P_impl_isKey, P_impl_isRef, Option.bind_some, beqP2]
  by_cases h1 : x.2.1 = 1
  · simp only [h1, decide_true, cond_true, if_true]
    by_cases h2 : x.2.2.2.1 = (0, 0) <;> by_cases h3 : x.2.2.2.2 = 0 <;> cases mIn x.1 1 999 <;> cases mIn x.2.2.1 1 60 <;> simp [h2, h3]
  · simp only [h1, decide_false, cond_false, if_false]
    by_cases h2 : x.2.1 = 2
    · simp only [h2, decide_true, cond_true, if_true]
      by_cases h3 : x.2.2.1 = 0 <;> cases mIn x.1 1 999 <;> cases mRef x.2.2.2.1 <;> cases mIn x.2.2.2.2 1 60 <;> simp [h3]
    · simp [h2]
theorem mIn12 (k : Int) : mIn k 1 2 = (decide (k = 1) || decide (k = 2)) := by
  unfold mIn
  rw [Bool.eq_iff_iff]; simp; omega
theorem P_spec_l11Vote (x : TV) : F_spec_l11Vote x = some (mVote x) := by
  unfold F_spec_l11Vote mVote
  simp only [P_spec_l1In, P_spec_l1Key, P_spec_l11Tx, P_spec_l3Ref, Option.bind_some, beqP2, mIn12]
  by_cases h1 : x.2.1 = 1
  · have h12 : ¬ x.2.1 = 2 := by omega
    simp only [h1, decide_true, Bool.true_or, Bool.not_true, cond_true, cond_false, if_true]
    by_cases h2 : x.2.2.2.1 = (0, 0) <;> by_cases h3 : x.2.2.2.2 = 0 <;> cases mIn x.1 1 999 <;> cases mIn x.2.2.1 1 60 <;> simp [h2, h3]
  · simp only [h1, decide_false, cond_false, if_false, Bool.false_or]
    by_cases h2 : x.2.1 = 2
    · simp only [h2, decide_true, Bool.not_true, cond_true, cond_false, if_true, Option.bind_some]
      by_cases h3 : x.2.2.1 = 0 <;> cases mIn x.1 1 999 <;> cases mRef x.2.2.2.1 <;> cases mIn x.2.2.2.2 1 60 <;> simp [h3]
    · simp [h2]
theorem P_spec_l12Has (l : List TV) (hl : l.length < BIG) (x : TV) : F_spec_l12Has l x = some (decide (x ∈ l)) := by
  unfold F_spec_l12Has
  have : l.any (fun a => decide (a = x)) = decide (x ∈ l) := by rw [Bool.eq_iff_iff]; simp
  rw [← this]
  refine loop_any l _ _ (fun i h => ?_) (by simp only [dge, cond_false])
  simp only [dlt h, inB_nat l i h, getD_toNat l i _ h, cond_true, wsucc h hl, beqV]
  cases decide (l[i] = x) <;> rfl
def vAt (c : TK) (key : Int) : Int := idxF (fun v => decide (v.1 = key)) c.2.2.2.1
theorem P_spec_l12At (c : TK) (hc : Small c) (key : Int) : F_spec_l12At c key = some (vAt c key) := by
  unfold F_spec_l12At vAt
  refine loop_idx c.2.2.2.1 _ _ (fun i h => ?_) (by simp only [dge, cond_false])
  simp only [dlt h, inB_nat _ i h, getD_toNat _ i _ h, cond_true, wsucc h (lB hc.voters)]
  cases decide (c.2.2.2.1[i].1 = key) <;> rfl
theorem P_impl_findVoter (c : TK) (hc : Small c) (key : Int) : F_impl_Cluster_findVoter c key = some (vAt c key) := by
  unfold F_impl_Cluster_findVoter vAt
  rw [P_IndexFunc_voter _ (lB hc.voters) (fun v => decide (v.1 = key)) _ (fun a _ => by unfold F_impl_Cluster_findVoter_c1; rfl)]
  rfl
def vOf (c : TK) (key : Int) : TR := List.getD c.2.2.2.1 (Int.toNat (vAt c key)) (0, (0, []))
def mStands (c : TK) (x : TV) : Bool :=
  if vAt c x.1 < 0 then true
  else if x.2.1 = 1 then mAbove c.2.2.1 x.2.2.1 (vOf c x.1).2.1
  else !decide (chAt (vOf c x.1) x.2.2.2.1 < 0) && decide ((List.getD (vOf c x.1).2.2 (Int.toNat (chAt (vOf c x.1) x.2.2.2.1)) ((0, 0), 0)).2 = x.2.2.2.2)
theorem vOf_mem {c : TK} {key : Int} (h : ¬ vAt c key < 0) : vOf c key ∈ c.2.2.2.1 ∧ inB (vAt c key) c.2.2.2.1 = true := by
  have hany : c.2.2.2.1.any (fun v => decide (v.1 = key)) = true := by
    rw [← idxF_nonneg]; unfold vAt at h; simp; omega
  obtain ⟨k, hk, h1, _⟩ := idxF_found hany
  unfold vOf vAt
  rw [h1, Int.toNat_natCast, getD_nat _ k _ hk]
  exact ⟨List.getElem_mem hk, inB_nat _ k hk⟩
theorem P_spec_l12Stands (c : TK) (hc : Small c) (hR : Right c.2.2.1) (x : TV) : F_spec_l12Stands c x = some (mStands c x) := by
  unfold F_spec_l12Stands mStands
  rw [P_spec_l12At c hc, Option.bind_some]
  by_cases hv : vAt c x.1 < 0
  · rw [decide_eq_true hv, if_pos hv]; rfl
  · rw [decide_eq_false hv, if_neg hv]
    obtain ⟨hm, hi⟩ := vOf_mem hv
    simp only [cond_false, hi, cond_true]
    rw [show List.getD c.2.2.2.1 (Int.toNat (vAt c x.1)) (0, (0, [])) = vOf c x.1 from rfl]
    by_cases h1 : x.2.1 = 1
    · rw [decide_eq_true h1, if_pos h1, cond_true, P_spec_l9Above _ (lB hc.tree) hR]; rfl
    · rw [decide_eq_false h1, if_neg h1, cond_false, P_spec_l11At _ (lB (hc.choices _ hm)), Option.bind_some, nonneg_dec]
      by_cases h2 : chAt (vOf c x.1) x.2.2.2.1 < 0
      · simp [h2]
      · have hi2 : inB (chAt (vOf c x.1) x.2.2.2.1) (vOf c x.1).2.2 = true := idxF_inB (by unfold chAt at h2; omega)
        simp [h2, hi2]
theorem P_impl_isVoted (c : TK) (hc : Small c) (hR : Right c.2.2.1) (x : TV) (hv : ¬ vAt c x.1 < 0) (hx : mVote x = 0) : F_impl_Cluster_isVoted c x = some (mStands c x) := by
  unfold F_impl_Cluster_isVoted mStands
  obtain ⟨hm, hi⟩ := vOf_mem hv
  rw [P_impl_findVoter c hc, Option.bind_some, hi, cond_true, if_neg hv]
  rw [show List.getD c.2.2.2.1 (Int.toNat (vAt c x.1)) (0, (0, [])) = vOf c x.1 from rfl]
  by_cases h1 : x.2.1 = 1
  · rw [decide_eq_true h1, if_pos h1, cond_true, P_impl_isAbove _ hR]; rfl
  · rw [decide_eq_false h1, if_neg h1, cond_false]
    have hch : F_impl_Voter_chosen (vOf c x.1) x.2.2.2.1 = some (if chAt (vOf c x.1) x.2.2.2.1 < 0 then 0 else (List.getD (vOf c x.1).2.2 (Int.toNat (chAt (vOf c x.1) x.2.2.2.1)) ((0, 0), 0)).2) := by
      unfold F_impl_Voter_chosen
      rw [P_IndexFunc_choice _ (lB (hc.choices _ hm)) (fun c => decide (c.1 = x.2.2.2.1)) _ (fun a _ => by unfold F_impl_Voter_chosen_c1; rw [beqP2]; rfl), Option.bind_some]
      rw [show idxF (fun (c : TC) => decide (c.1 = x.2.2.2.1)) (vOf c x.1).2.2 = chAt (vOf c x.1) x.2.2.2.1 from rfl]
      by_cases h2 : chAt (vOf c x.1) x.2.2.2.1 < 0
      · simp [h2]
      · have hi2 : inB (chAt (vOf c x.1) x.2.2.2.1) (vOf c x.1).2.2 = true := idxF_inB (by unfold chAt at h2; omega)
        simp [h2, hi2]
    rw [hch, Option.bind_some]
    have htx : x.2.2.2.2 ≠ 0 := by
      unfold mVote at hx
      rw [if_neg h1] at hx
      split at hx
      · split at hx
        · split at hx
          · rename_i hh
            simp only [Bool.and_eq_true, mIn, decide_eq_true_eq] at hh
            omega
          · cases hx
        · cases hx
      · cases hx
    by_cases h2 : chAt (vOf c x.1) x.2.2.2.1 < 0
    · simp [h2]; omega
    · simp [h2]
theorem mem_good {c : TK} {k : Int} (hv : c.2.2.2.1.map (·.1) = mGood c.1 c.2.1) (hk : k ∈ c.1.1) : vAt c k < 0 ↔ k ∈ c.2.1 := by
  unfold vAt
  rw [idxF_neg, List.any_eq_false]
  have : (∀ x, x ∈ c.2.2.2.1 → ¬ decide (x.1 = k) = true) ↔ k ∉ c.2.2.2.1.map (·.1) := by
    simp only [decide_eq_true_eq, List.mem_map, not_exists, not_and]
  rw [this, hv]
  unfold mGood
  simp [hk]
def mVotesC (c : TK) (i : Nat) (x : TV) : Int := if mVote x = 0 then (if x.1 ∈ c.1.1 then (if x ∈ c.2.2.2.2.1.take i then 7 else if mStands c x then 0 else 6) else 4) else mVote x
def mVotes (c : TK) : Int := code (mVotesC c) c.2.2.2.2.1
theorem P_spec_l12Votes (c : TK) (hc : Small c) (hR : Right c.2.2.1) : F_spec_l12Votes c = some (mVotes c) := by
  unfold F_spec_l12Votes mVotes
  refine loop_code _ _ _ (fun i h => ?_) (by simp only [dge, cond_false])
  simp only [dlt h, inB_nat _ i h, getD_toNat _ i _ h, cutOk_nat _ i (Nat.le_of_lt h), cut_nat, cond_true, P_spec_l11Vote, P_spec_l4Among _ (lB hc.keys), P_spec_l12Has _ (take_BIG (lB hc.votes) i), P_spec_l12Stands c hc hR, Option.bind_some, wsucc h (lB hc.votes), bif_code]
  generalize hx : c.2.2.2.2.1[i] = x
  unfold mVotesC
  by_cases h1 : mVote x = 0
  · simp only [h1, if_true]
    by_cases h2 : x.1 ∈ c.1.1
    · by_cases h3 : x ∈ c.2.2.2.2.1.take i
      · simp [h2, h3]
      · cases hs : mStands c x <;> simp [h2, h3]
    · simp [h2]
  · simp [h1]
theorem P_impl_votesFault (c : TK) (hc : Small c) (hR : Right c.2.2.1) (hv : c.2.2.2.1.map (·.1) = mGood c.1 c.2.1) : F_impl_Cluster_votesFault c = some (mVotes c) := by
  unfold F_impl_Cluster_votesFault mVotes
  refine loop_code _ _ _ (fun i h => ?_) (by simp only [dge, cond_false])
  simp only [dlt h, inB_nat _ i h, getD_toNat _ i _ h, cutOk_nat _ i (Nat.le_of_lt h), cut_nat, cond_true, P_impl_VoteFault, P_Contains_int _ (lB hc.keys), P_Contains_int _ (lB hc.bad), P_Contains_vote _ (take_BIG (lB hc.votes) i), Option.bind_some, wsucc h (lB hc.votes), bif_code]
  generalize hx : c.2.2.2.2.1[i] = x
  unfold mVotesC
  by_cases h1 : mVote x = 0
  · simp only [h1, if_true]
    by_cases h2 : x.1 ∈ c.1.1
    · by_cases h3 : x ∈ c.2.2.2.2.1.take i
      · simp [h2, h3]
      · have hg := mem_good hv h2
        by_cases h4 : x.1 ∈ c.2.1
        · have : mStands c x = true := by unfold mStands; rw [if_pos (hg.2 h4)]
          simp [h2, h3, h4, this]
        · have hnv : ¬ vAt c x.1 < 0 := fun hh => h4 (hg.1 hh)
          rw [P_impl_isVoted c hc hR x hnv h1]
          cases hs : mStands c x <;> simp [h2, h3, h4]
    · simp [h2]
  · simp [h1]
/-! what was heard -/
def mHeardL (n : Int) (l : List Int) : Int := if l.any (fun a => !mIn a 0 n) then 3 else code (fun i a => if a ∈ l.take i then 7 else 0) l
def mHeard (c : TK) : Int := code (fun _ l => mHeardL (IntKind.wrap .i64 ((c.2.2.2.2.1.length : Int) - 1)) l) c.2.2.2.2.2
theorem loop_codeK {α R : Type} (l : List α) (c : Nat → α → Int) (f : Int → Option (Int ⊕ (Unit ⊕ Int)))
    (hs : ∀ (i : Nat) (h : i < l.length), f (i : Int) = some (if c i l[i] = 0 then .inl ((i + 1 : Nat) : Int) else .inr (.inr (c i l[i])))) (he : f (l.length : Int) = some (.inr (.inl ()))) (A : Unit → Option R) (B : Int → Option R) :
    ((loopO f 0).bind fun j => Sum.elim A B j) = if code c l = 0 then A () else B (code c l) := by
  rw [loop_first l (fun i a => if c i a = 0 then none else some (c i a)) f (fun i h => by rw [hs i h]; by_cases hc : c i l[i] = 0 <;> simp [hc]) he, bind_first]
  by_cases h0 : code c l = 0
  · rw [if_pos h0]
    have hz := code_zero h0
    have : first (fun i a => if c i a = 0 then none else some (c i a)) 0 l = none := (first_none l 0).2 (fun j a ha => by rw [Nat.zero_add, if_pos (hz j a ha)])
    rw [this]
  · rw [if_neg h0]
    unfold code at h0 ⊢
    cases hf : first (fun i a => if c i a = 0 then none else some (c i a)) 0 l with
    | none => rw [hf] at h0; exact absurd rfl h0
    | some r => rfl
theorem P_impl_heardFault (c : TK) (hc : Small c) : F_impl_Cluster_heardFault c = some (mHeard c) := by
  unfold F_impl_Cluster_heardFault mHeard
  refine loop_code _ _ _ (fun i h => ?_) (by simp only [dge, cond_false])
  simp only [dlt h, inB_nat _ i h, getD_toNat _ i _ h, cond_true]
  have hl := lB (hc.heards _ (List.getElem_mem h))
  generalize c.2.2.2.2.2[i] = l at hl ⊢
  rw [P_ContainsFunc_int l hl (fun a => !mIn a 0 (IntKind.wrap .i64 ((c.2.2.2.2.1.length : Int) - 1))) _ (fun a _ => by unfold F_impl_Cluster_heardFault_c1; rw [P_impl_within]; rfl), Option.bind_some]
  unfold mHeardL
  cases l.any (fun a => !mIn a 0 (IntKind.wrap .i64 ((c.2.2.2.2.1.length : Int) - 1))) with
  | true => rfl
  | false =>
    simp only [cond_false, Bool.false_eq_true, if_false]
    rw [loop_codeK l (fun i a => if a ∈ l.take i then 7 else 0) _ (fun j hj => by
      simp only [dlt hj, inB_nat _ j hj, getD_toNat _ j _ hj, cutOk_nat _ j (Nat.le_of_lt hj), cut_nat, cond_true, P_Contains_int _ (take_BIG hl j), Option.bind_some, wsucc hj hl]
      by_cases hm : l[j] ∈ l.take j <;> simp [hm]) (by simp only [dge, cond_false]), wsucc h (lB hc.heard)]
    split <;> rfl
theorem P_spec_l12Heard (c : TK) (hc : Small c) : F_spec_l12Heard c = some (mHeard c) := by
  unfold F_spec_l12Heard mHeard
  refine loop_code _ _ _ (fun i h => ?_) (by simp only [dge, cond_false])
  simp only [dlt h, inB_nat _ i h, getD_toNat _ i _ h, cond_true]
  have hl := lB (hc.heards _ (List.getElem_mem h))
  generalize c.2.2.2.2.2[i] = l at hl ⊢
  unfold mHeardL
  rw [loop_codeK l (fun _ a => if !mIn a 0 (IntKind.wrap .i64 ((c.2.2.2.2.1.length : Int) - 1)) then 3 else 0) _ (fun j hj => by
      simp only [dlt hj, inB_nat _ j hj, getD_toNat _ j _ hj, cond_true, P_spec_l1In, Option.bind_some, wsucc hj hl]
      cases mIn l[j] 0 (IntKind.wrap .i64 ((c.2.2.2.2.1.length : Int) - 1)) <;> rfl) (by simp only [dge, cond_false])]
  have h3 : code (fun _ a => if !mIn a 0 (IntKind.wrap .i64 ((c.2.2.2.2.1.length : Int) - 1)) then 3 else 0) l = if l.any (fun a => !mIn a 0 (IntKind.wrap .i64 ((c.2.2.2.2.1.length : Int) - 1))) then 3 else 0 := by
    unfold code
    rw [first_congr (g' := fun _ a => if (fun a => !mIn a 0 (IntKind.wrap .i64 ((c.2.2.2.2.1.length : Int) - 1))) a then some 3 else none) l 0 (fun j a _ _ => by dsimp only; by_cases hq : mIn a 0 (IntKind.wrap .i64 ((c.2.2.2.2.1.length : Int) - 1)) = true <;> simp [hq]), first_any]
    cases l.any (fun a => !mIn a 0 (IntKind.wrap .i64 ((c.2.2.2.2.1.length : Int) - 1))) <;> rfl
  rw [h3]
  cases l.any (fun a => !mIn a 0 (IntKind.wrap .i64 ((c.2.2.2.2.1.length : Int) - 1))) with
  | true => rfl
  | false =>
    simp only [Bool.false_eq_true, if_false, if_true]
    rw [loop_codeK l (fun i a => if a ∈ l.take i then 7 else 0) _ (fun j hj => by
      simp only [dlt hj, inB_nat _ j hj, getD_toNat _ j _ hj, cutOk_nat _ j (Nat.le_of_lt hj), cut_nat, cond_true, P_spec_l4Among _ (take_BIG hl j), Option.bind_some, wsucc hj hl]
      by_cases hm : l[j] ∈ l.take j <;> simp [hm]) (by simp only [dge, cond_false]), wsucc h (lB hc.heard)]
    split <;> rfl
/-! clusters -/
def mMany (c : TK) : Bool := decide ((20 : Int) < (c.2.1.length : Int)) || decide ((100 : Int) < (c.2.2.2.2.1.length : Int)) || !mIn (c.2.2.2.2.2.length : Int) 1 4
def mCF (c : TK) : Int :=
  if mQF c.1 = 0 then if mMany c then 2 else if mBF c.2.1 = 0 then if mTree c.2.2.1 = 0 then if mVoters c = 0 then if mVotes c = 0 then mHeard c else mVotes c else mVoters c else mTree c.2.2.1 else mBF c.2.1 else mQF c.1
theorem voters_good {c : TK} (h : mVoters c = 0) : c.2.2.2.1.map (·.1) = mGood c.1 c.2.1 := by
  unfold mVoters at h
  split at h
  · assumption
  · cases h
theorem P_impl_ClusterFault (c : TK) (hc : Small c) : F_impl_ClusterFault c = some (mCF c) := by
  unfold F_impl_ClusterFault mCF
  simp only [P_impl_QuorumFault _ (lB hc.keys), P_impl_within, P_impl_badFault _ (lB hc.bad), P_impl_TreeFault _ (lB hc.tree), P_impl_votersFault c hc, P_impl_heardFault c hc, Option.bind_some, bif_code]
  split
  · have hm : ((bif decide ((20 : Int) < (c.2.1.length : Int)) then some true else bif decide ((100 : Int) < (c.2.2.2.2.1.length : Int)) then some true else some (!mIn (c.2.2.2.2.2.length : Int) 1 4)) : Option Bool) = some (mMany c) := by
      unfold mMany
      cases decide ((20 : Int) < (c.2.1.length : Int)) <;> cases decide ((100 : Int) < (c.2.2.2.2.1.length : Int)) <;> rfl
    rw [hm, Option.bind_some]
    cases mMany c with
    | true => rfl
    | false =>
      simp only [cond_false, Bool.false_eq_true, if_false]
      split
      · split
        · rename_i ht
          split
          · rename_i hv
            rw [P_impl_votesFault c hc (right_of ht) (voters_good hv), Option.bind_some]
            split <;> rfl
          · rfl
        · rfl
      · rfl
  · rfl
theorem P_spec_l12Fault (c : TK) (hc : Small c) : F_spec_l12Fault c = some (mCF c) := by
  unfold F_spec_l12Fault mCF
  simp only [P_spec_l10Fault _ (lB hc.keys), P_spec_l12Bad _ (lB hc.bad), P_spec_l9Fault _ (lB hc.tree), P_spec_l12Voters c hc, P_spec_l12Heard c hc, Option.bind_some, bif_code]
  split
  · have hm : ((bif decide ((20 : Int) < (c.2.1.length : Int)) then some true else bif decide ((100 : Int) < (c.2.2.2.2.1.length : Int)) then some true else bif decide ((c.2.2.2.2.2.length : Int) < 1) then some true else some (decide ((4 : Int) < (c.2.2.2.2.2.length : Int)))) : Option Bool) = some (mMany c) := by
      unfold mMany
      have : (!mIn (c.2.2.2.2.2.length : Int) 1 4) = (decide ((c.2.2.2.2.2.length : Int) < 1) || decide ((4 : Int) < (c.2.2.2.2.2.length : Int))) := by
        unfold mIn; rw [Bool.eq_iff_iff]; simp; try omega
      rw [this]
      cases decide ((20 : Int) < (c.2.1.length : Int)) <;> cases decide ((100 : Int) < (c.2.2.2.2.1.length : Int)) <;> cases decide ((c.2.2.2.2.2.length : Int) < 1) <;> rfl
    rw [hm, Option.bind_some]
    cases mMany c with
    | true => rfl
    | false =>
      simp only [cond_false, Bool.false_eq_true, if_false]
      split
      · split
        · rename_i ht
          split
          · rename_i hv
            rw [P_spec_l12Votes c hc (right_of ht), Option.bind_some]
            split <;> rfl
          · rfl
        · rfl
      · rfl
  · rfl
end CL
end Go.Dx

set_option maxHeartbeats 2000000
namespace Go.Dx
namespace CL
def bL {α : Type} (p : α → Prop) (l : List α) : Prop := l.length ≤ 9223372036854775807 ∧ ∀ y, y ∈ l → p y
def bAny {α : Type} (_ : α) : Prop := True
def bVoter (v : TR) : Prop := bL bAny v.2.2
def bCluster (c : TK) : Prop := bL bAny c.1.1 ∧ bL bAny c.2.1 ∧ bL bAny c.2.2.1 ∧ bL bVoter c.2.2.2.1 ∧ bL bAny c.2.2.2.2.1 ∧ bL (bL bAny) c.2.2.2.2.2
def totVoter (v : TR) : Nat := v.2.2.length
def totVoters (l : List TR) : Nat := l.length + (l.map totVoter).sum
def totInts (l : List (List Int)) : Nat := l.length + (l.map List.length).sum
def totCluster (c : TK) : Nat := c.1.1.length + (c.2.1.length + (c.2.2.1.length + (totVoters c.2.2.2.1 + (c.2.2.2.2.1.length + totInts c.2.2.2.2.2))))
theorem wrap_succ (i n : Nat) (h : i < n) (hn : n ≤ 9223372036854775807) : IntKind.wrap .i64 ((i : Int) + 1) = ((i + 1 : Nat) : Int) := by
  rw [wrap_id (by omega) (by omega)]; omega
theorem step_sz (t : Nat) (left : Int) (c : Int) (h0 : 0 ≤ left) : (bif decide (szr t left < 0) then (some (Sum.inr (Sum.inr (-1))) : Option ((Int × Int) ⊕ (Int ⊕ Int))) else some (Sum.inl (szr t left, c))) = if (t : Int) ≤ left then some (Sum.inl (left - t, c)) else some (Sum.inr (Sum.inr (-1))) := by
  by_cases h : (t : Int) ≤ left
  · have e : szr t left = left - t := by simp [szr, h]
    have hn : ¬ (left - (t : Int)) < 0 := by omega
    simp [e, hn, h]
  · have e : szr t left = -1 := by simp [szr, h]
    simp [e, h]
theorem szr_zero (left : Int) (h : 0 ≤ left) : szr 0 left = left := by simp [szr, h]
theorem szr_szr (a b : Nat) (left : Int) (h : 0 ≤ szr a left) : szr b (szr a left) = szr (a + b) left := by
  have hl := szr_le h
  rw [hl.2]
  simp only [szr]
  split <;> split <;> omega
theorem le_sum {α : Type} (m : α → Nat) : ∀ (l : List α) (y : α), y ∈ l → m y ≤ (l.map m).sum
  | x :: l, y, h => by
    simp only [List.map_cons, List.sum_cons]
    cases List.mem_cons.1 h with
    | inl h => subst h; omega
    | inr h => have := le_sum m l y h; omega
theorem cap_ok {n : Nat} (h : n ≤ 1048576) : (decide (0 ≤ (n : Int)) && decide ((n : Int) ≤ (LIM : Int))) = true := by
  have h1 : (0 : Int) ≤ n := by omega
  have h2 : (n : Int) ≤ (LIM : Int) := by unfold LIM; omega
  rw [decide_eq_true h1, decide_eq_true h2]; rfl
theorem to_loop' {α : Type} (l : List α) (d : α) (f : List α × Int → Option ((List α × Int) ⊕ List α)) (hstep : ∀ (i : Nat) (acc : List α) (h : i < l.length), acc.length = l.length → f (acc, (i : Int)) = some (.inl (acc.set i l[i], ((i + 1 : Nat) : Int))))
    (hend : ∀ acc, f (acc, (l.length : Int)) = some (.inr acc)) : (loopO f (List.replicate (Int.toNat (l.length : Int)) d, 0)).bind (fun j => some j) = some l := by
  rw [show Int.toNat (l.length : Int) = l.length by simp, to_loop l d f hstep hend]; rfl
theorem eq_step {p : Prop} [Decidable p] (w : Int) : (bif !decide p then (some (Sum.inr (Sum.inr false)) : Option (Int ⊕ (Unit ⊕ Bool))) else some (Sum.inl w)) = if p then some (Sum.inl w) else some (Sum.inr (Sum.inr false)) := by
  by_cases h : p <;> simp [h]
theorem neq_len {α : Type} [DecidableEq α] {x y : List α} (h : ¬ x.length = y.length) : decide (x = y) = false := decide_eq_false (fun he => h (by rw [he]))
theorem P_laws_szInt64S (x : List Int) (hx : x.length ≤ 9223372036854775807) (left : Int) (h0 : 0 ≤ left) (h1 : left ≤ 1048576) : F_laws_szInt64S x left = some (szr x.length left) := by
  unfold F_laws_szInt64S
  exact szr_lead (b := 0) (k := fun l => some l) h0 h1 hx (fun h => by rw [szr_zero _ (by omega)])
theorem P_laws_szNodeS (x : List TN) (hx : x.length ≤ 9223372036854775807) (left : Int) (h0 : 0 ≤ left) (h1 : left ≤ 1048576) : F_laws_szNodeS x left = some (szr x.length left) := by
  unfold F_laws_szNodeS
  exact szr_lead (b := 0) (k := fun l => some l) h0 h1 hx (fun h => by rw [szr_zero _ (by omega)])
theorem P_laws_szChoiceS (x : List TC) (hx : x.length ≤ 9223372036854775807) (left : Int) (h0 : 0 ≤ left) (h1 : left ≤ 1048576) : F_laws_szChoiceS x left = some (szr x.length left) := by
  unfold F_laws_szChoiceS
  exact szr_lead (b := 0) (k := fun l => some l) h0 h1 hx (fun h => by rw [szr_zero _ (by omega)])
theorem P_laws_szVoteS (x : List TV) (hx : x.length ≤ 9223372036854775807) (left : Int) (h0 : 0 ≤ left) (h1 : left ≤ 1048576) : F_laws_szVoteS x left = some (szr x.length left) := by
  unfold F_laws_szVoteS
  exact szr_lead (b := 0) (k := fun l => some l) h0 h1 hx (fun h => by rw [szr_zero _ (by omega)])
theorem P_laws_szVoter (x : TR) (hx : bVoter x) (left : Int) (h0 : 0 ≤ left) (h1 : left ≤ 1048576) : F_laws_szVoter x left = some (szr (totVoter x) left) := by
  unfold F_laws_szVoter
  rw [P_laws_szChoiceS _ hx.1 _ h0 h1, Option.bind_some]
  exact szr_last _ _ h0
theorem P_laws_szQuorum (x : TQ) (hx : bL bAny x.1) (left : Int) (h0 : 0 ≤ left) (h1 : left ≤ 1048576) : F_laws_szQuorum x left = some (szr x.1.length left) := by
  unfold F_laws_szQuorum
  rw [P_laws_szInt64S _ hx.1 _ h0 h1, Option.bind_some]
  exact szr_last _ _ h0
theorem P_laws_szVoterS (x : List TR) (hx : bL bVoter x) (left : Int) (h0 : 0 ≤ left) (h1 : left ≤ 1048576) : F_laws_szVoterS x left = some (szr (totVoters x) left) := by
  unfold F_laws_szVoterS totVoters
  refine szr_lead (b := (x.map totVoter).sum) (k := fun l => (loopO _ (l, 0)).bind _) h0 h1 hx.1 (fun hle => ?_)
  refine sz_loop x totVoter _ (fun i left h h0 h1 => ?_) (fun left => ?_) _ (by omega) (by omega)
  · have e1 : decide ((i : Int) < (x.length : Int)) = true := by simpa using h
    simp only [e1, inB_nat x i h, getD_toNat x i _ h, cond_true, wrap_succ i _ h hx.1, P_laws_szVoter _ (hx.2 _ (List.getElem_mem h)) _ h0 h1, Option.bind_some]
    exact step_sz _ _ _ h0
  · simp
theorem P_laws_szInt64SS (x : List (List Int)) (hx : bL (bL bAny) x) (left : Int) (h0 : 0 ≤ left) (h1 : left ≤ 1048576) : F_laws_szInt64SS x left = some (szr (totInts x) left) := by
  unfold F_laws_szInt64SS totInts
  refine szr_lead (b := (x.map List.length).sum) (k := fun l => (loopO _ (l, 0)).bind _) h0 h1 hx.1 (fun hle => ?_)
  refine sz_loop x List.length _ (fun i left h h0 h1 => ?_) (fun left => ?_) _ (by omega) (by omega)
  · have e1 : decide ((i : Int) < (x.length : Int)) = true := by simpa using h
    simp only [e1, inB_nat x i h, getD_toNat x i _ h, cond_true, wrap_succ i _ h hx.1, P_laws_szInt64S _ (hx.2 _ (List.getElem_mem h)).1 _ h0 h1, Option.bind_some]
    exact step_sz _ _ _ h0
  · simp
theorem P_laws_szCluster (x : TK) (hx : bCluster x) (left : Int) (h0 : 0 ≤ left) (h1 : left ≤ 1048576) : F_laws_szCluster x left = some (szr (totCluster x) left) := by
  obtain ⟨hb1, hb2, hb3, hb4, hb5, hb6⟩ := hx
  unfold F_laws_szCluster
  rw [P_laws_szQuorum _ hb1 _ h0 h1, Option.bind_some]
  have fin : ∀ (a : Nat) (k : Int → Option Int) (b : Nat), (0 ≤ szr a left → k (szr a left) = some (szr (a + b) left)) → (bif decide (szr a left < 0) then some (-1) else k (szr a left)) = some (szr (a + b) left) := by
    intro a k b hk
    exact szr_bind a b left h0 (fun h => by rw [hk h, szr_szr _ _ _ h])
  unfold totCluster
  refine fin _ (fun y0 => (F_laws_szInt64S x.2.1 y0).bind fun y1 => bif decide (y1 < 0) then some (-1) else (F_laws_szNodeS x.2.2.1 y1).bind fun y2 => bif decide (y2 < 0) then some (-1) else (F_laws_szVoterS x.2.2.2.1 y2).bind fun y3 => bif decide (y3 < 0) then some (-1) else (F_laws_szVoteS x.2.2.2.2.1 y3).bind fun y4 => bif decide (y4 < 0) then some (-1) else (F_laws_szInt64SS x.2.2.2.2.2 y4).bind fun y5 => bif decide (y5 < 0) then some (-1) else some y5) _ fun h => ?_
  have hl := szr_le h
  rw [P_laws_szInt64S _ hb2.1 _ h (by omega), Option.bind_some, szr_szr _ _ _ h, ← Nat.add_assoc]
  refine fin _ (fun y1 => (F_laws_szNodeS x.2.2.1 y1).bind fun y2 => bif decide (y2 < 0) then some (-1) else (F_laws_szVoterS x.2.2.2.1 y2).bind fun y3 => bif decide (y3 < 0) then some (-1) else (F_laws_szVoteS x.2.2.2.2.1 y3).bind fun y4 => bif decide (y4 < 0) then some (-1) else (F_laws_szInt64SS x.2.2.2.2.2 y4).bind fun y5 => bif decide (y5 < 0) then some (-1) else some y5) _ fun h => ?_
  have hl := szr_le h
  rw [P_laws_szNodeS _ hb3.1 _ h (by omega), Option.bind_some, szr_szr _ _ _ h, ← Nat.add_assoc]
  refine fin _ (fun y2 => (F_laws_szVoterS x.2.2.2.1 y2).bind fun y3 => bif decide (y3 < 0) then some (-1) else (F_laws_szVoteS x.2.2.2.2.1 y3).bind fun y4 => bif decide (y4 < 0) then some (-1) else (F_laws_szInt64SS x.2.2.2.2.2 y4).bind fun y5 => bif decide (y5 < 0) then some (-1) else some y5) _ fun h => ?_
  have hl := szr_le h
  rw [P_laws_szVoterS _ hb4 _ h (by omega), Option.bind_some, szr_szr _ _ _ h, ← Nat.add_assoc]
  refine fin _ (fun y3 => (F_laws_szVoteS x.2.2.2.2.1 y3).bind fun y4 => bif decide (y4 < 0) then some (-1) else (F_laws_szInt64SS x.2.2.2.2.2 y4).bind fun y5 => bif decide (y5 < 0) then some (-1) else some y5) _ fun h => ?_
  have hl := szr_le h
  rw [P_laws_szVoteS _ hb5.1 _ h (by omega), Option.bind_some, szr_szr _ _ _ h, ← Nat.add_assoc]
  refine fin _ (fun y4 => (F_laws_szInt64SS x.2.2.2.2.2 y4).bind fun y5 => bif decide (y5 < 0) then some (-1) else some y5) _ fun h => ?_
  have hl := szr_le h
  rw [P_laws_szInt64SS _ hb6 _ h (by omega), Option.bind_some, szr_szr _ _ _ h]
  exact szr_last _ _ h0
theorem P_laws_toNode (x : TN) : F_laws_toNode x = some x := rfl
theorem P_laws_toRef (x : Int × Int) : F_laws_toRef x = some x := rfl
theorem P_laws_toChoice (x : TC) : F_laws_toChoice x = some x := by unfold F_laws_toChoice; rw [P_laws_toRef, Option.bind_some]
theorem P_laws_toVote (x : TV) : F_laws_toVote x = some x := by unfold F_laws_toVote; rw [P_laws_toRef, Option.bind_some]
theorem P_laws_toInt64S (x : List Int) (hx : x.length ≤ 1048576) : F_laws_toInt64S x = some x := by
  unfold F_laws_toInt64S
  have hl : x.length ≤ 1048576 := by exact hx
  rw [cap_ok hl, cond_true]
  refine to_loop' x 0 _ (fun i acc h ha => ?_) (fun acc => ?_)
  · have e1 : decide ((i : Int) < (x.length : Int)) = true := by simpa using h
    have e2 : inB (i : Int) acc = true := inB_nat acc i (by omega)
    have e3 : Int.toNat (i : Int) = i := by simp
    simp only [e1, inB_nat x i h, e2, cond_true, getD_toNat x i _ h, wrap_succ i _ h (by omega)]
    rw [e3]
  · simp
theorem P_laws_toNodeS (x : List TN) (hx : x.length ≤ 1048576) : F_laws_toNodeS x = some x := by
  unfold F_laws_toNodeS
  have hl : x.length ≤ 1048576 := by exact hx
  rw [cap_ok hl, cond_true]
  refine to_loop' x (0, (0, 0)) _ (fun i acc h ha => ?_) (fun acc => ?_)
  · have e1 : decide ((i : Int) < (x.length : Int)) = true := by simpa using h
    have e2 : inB (i : Int) acc = true := inB_nat acc i (by omega)
    have e3 : Int.toNat (i : Int) = i := by simp
    have hel : F_laws_toNode (List.getD x (Int.toNat (i : Int)) (0, (0, 0))) = some x[i] := by rw [getD_toNat x i _ h]; exact P_laws_toNode _
    simp only [e1, inB_nat x i h, e2, cond_true, hel, Option.bind_some, wrap_succ i _ h (by omega)]
    rw [e3]
  · simp
theorem P_laws_toChoiceS (x : List TC) (hx : x.length ≤ 1048576) : F_laws_toChoiceS x = some x := by
  unfold F_laws_toChoiceS
  have hl : x.length ≤ 1048576 := by exact hx
  rw [cap_ok hl, cond_true]
  refine to_loop' x ((0, 0), 0) _ (fun i acc h ha => ?_) (fun acc => ?_)
  · have e1 : decide ((i : Int) < (x.length : Int)) = true := by simpa using h
    have e2 : inB (i : Int) acc = true := inB_nat acc i (by omega)
    have e3 : Int.toNat (i : Int) = i := by simp
    have hel : F_laws_toChoice (List.getD x (Int.toNat (i : Int)) ((0, 0), 0)) = some x[i] := by rw [getD_toNat x i _ h]; exact P_laws_toChoice _
    simp only [e1, inB_nat x i h, e2, cond_true, hel, Option.bind_some, wrap_succ i _ h (by omega)]
    rw [e3]
  · simp
theorem P_laws_toVoteS (x : List TV) (hx : x.length ≤ 1048576) : F_laws_toVoteS x = some x := by
  unfold F_laws_toVoteS
  have hl : x.length ≤ 1048576 := by exact hx
  rw [cap_ok hl, cond_true]
  refine to_loop' x (0, (0, (0, ((0, 0), 0)))) _ (fun i acc h ha => ?_) (fun acc => ?_)
  · have e1 : decide ((i : Int) < (x.length : Int)) = true := by simpa using h
    have e2 : inB (i : Int) acc = true := inB_nat acc i (by omega)
    have e3 : Int.toNat (i : Int) = i := by simp
    have hel : F_laws_toVote (List.getD x (Int.toNat (i : Int)) (0, (0, (0, ((0, 0), 0))))) = some x[i] := by rw [getD_toNat x i _ h]; exact P_laws_toVote _
    simp only [e1, inB_nat x i h, e2, cond_true, hel, Option.bind_some, wrap_succ i _ h (by omega)]
    rw [e3]
  · simp
theorem P_laws_toVoter (x : TR) (h : totVoter x ≤ 1048576) : F_laws_toVoter x = some x := by
  unfold F_laws_toVoter; rw [P_laws_toChoiceS _ h, Option.bind_some]
theorem P_laws_toQuorum (x : TQ) (h : x.1.length ≤ 1048576) : F_laws_toQuorum x = some x := by
  unfold F_laws_toQuorum; rw [P_laws_toInt64S _ h, Option.bind_some]
theorem P_laws_toVoterS (x : List TR) (hx : totVoters x ≤ 1048576) : F_laws_toVoterS x = some x := by
  unfold F_laws_toVoterS
  have hl : x.length ≤ 1048576 := by have : x.length ≤ totVoters x := Nat.le_add_right _ _; omega
  rw [cap_ok hl, cond_true]
  refine to_loop' x (0, (0, [])) _ (fun i acc h ha => ?_) (fun acc => ?_)
  · have e1 : decide ((i : Int) < (x.length : Int)) = true := by simpa using h
    have e2 : inB (i : Int) acc = true := inB_nat acc i (by omega)
    have e3 : Int.toNat (i : Int) = i := by simp
    have hm : totVoter x[i] ≤ 1048576 := by
      have h1 := le_sum totVoter x _ (List.getElem_mem h)
      have h2 : (x.map totVoter).sum ≤ totVoters x := Nat.le_add_left _ _
      omega
    have hel : F_laws_toVoter (List.getD x (Int.toNat (i : Int)) (0, (0, []))) = some x[i] := by rw [getD_toNat x i _ h]; exact P_laws_toVoter _ hm
    simp only [e1, inB_nat x i h, e2, cond_true, hel, Option.bind_some, wrap_succ i _ h (by omega)]
    rw [e3]
  · simp
theorem P_laws_toInt64SS (x : List (List Int)) (hx : totInts x ≤ 1048576) : F_laws_toInt64SS x = some x := by
  unfold F_laws_toInt64SS
  have hl : x.length ≤ 1048576 := by have : x.length ≤ totInts x := Nat.le_add_right _ _; omega
  rw [cap_ok hl, cond_true]
  refine to_loop' x [] _ (fun i acc h ha => ?_) (fun acc => ?_)
  · have e1 : decide ((i : Int) < (x.length : Int)) = true := by simpa using h
    have e2 : inB (i : Int) acc = true := inB_nat acc i (by omega)
    have e3 : Int.toNat (i : Int) = i := by simp
    have hm : List.length x[i] ≤ 1048576 := by
      have h1 := le_sum List.length x _ (List.getElem_mem h)
      have h2 : (x.map List.length).sum ≤ totInts x := Nat.le_add_left _ _
      omega
    have hel : F_laws_toInt64S (List.getD x (Int.toNat (i : Int)) []) = some x[i] := by rw [getD_toNat x i _ h]; exact P_laws_toInt64S _ hm
    simp only [e1, inB_nat x i h, e2, cond_true, hel, Option.bind_some, wrap_succ i _ h (by omega)]
    rw [e3]
  · simp
theorem P_laws_toCluster (x : TK) (h : totCluster x ≤ 1048576) : F_laws_toCluster x = some x := by
  simp only [totCluster] at h
  unfold F_laws_toCluster
  rw [P_laws_toQuorum _ (by omega), Option.bind_some, P_laws_toInt64S _ (by omega), Option.bind_some, P_laws_toNodeS _ (by omega), Option.bind_some, P_laws_toVoterS _ (by omega), Option.bind_some, P_laws_toVoteS _ (by omega), Option.bind_some, P_laws_toInt64SS _ (by omega), Option.bind_some]
theorem small_of {x : TK} (h : totCluster x ≤ 1048576) : Small x := by
  simp only [totCluster] at h
  have e4 : x.2.2.2.1.length ≤ totVoters x.2.2.2.1 := Nat.le_add_right _ _
  have e6 : x.2.2.2.2.2.length ≤ totInts x.2.2.2.2.2 := Nat.le_add_right _ _
  have hL : LIM = 1073741824 := rfl
  refine ⟨by omega, by omega, by omega, by omega, fun v hv => ?_, by omega, by omega, fun l hl => ?_⟩
  · have h1 := le_sum totVoter _ v hv
    have h2 : (x.2.2.2.1.map totVoter).sum ≤ totVoters x.2.2.2.1 := Nat.le_add_left _ _
    have h3 : totVoter v = v.2.2.length := rfl
    omega
  · have h1 := le_sum List.length _ l hl
    have h2 : (x.2.2.2.2.2.map List.length).sum ≤ totInts x.2.2.2.2.2 := Nat.le_add_left _ _
    omega
set_option synthInstance.maxSize 1000
set_option synthInstance.maxHeartbeats 400000
instance dTR : DecidableEq TR := inferInstance
instance dLTR : DecidableEq (List TR) := instDecidableEqList
instance dTV : DecidableEq TV := inferInstance
instance dLTV : DecidableEq (List TV) := instDecidableEqList
instance dTK : DecidableEq TK := inferInstance
theorem P_laws_eqRef (x y : Int × Int) : F_laws_eqRef x y = some (decide (x = y)) := by
  unfold F_laws_eqRef
  obtain ⟨a1, a2⟩ := x; obtain ⟨b1, b2⟩ := y
  by_cases h1 : a1 = b1 <;> by_cases h2 : a2 = b2 <;> simp [h1, h2]
theorem P_laws_eqNode (x y : TN) : F_laws_eqNode x y = some (decide (x = y)) := by
  unfold F_laws_eqNode
  obtain ⟨a1, a2, a3⟩ := x; obtain ⟨b1, b2, b3⟩ := y
  by_cases h1 : a1 = b1 <;> by_cases h2 : a2 = b2 <;> by_cases h3 : a3 = b3 <;> simp [h1, h2, h3]
theorem P_laws_eqChoice (x y : TC) : F_laws_eqChoice x y = some (decide (x = y)) := by
  unfold F_laws_eqChoice
  rw [P_laws_eqRef]
  obtain ⟨a1, a2⟩ := x; obtain ⟨b1, b2⟩ := y
  by_cases h1 : a1 = b1 <;> by_cases h2 : a2 = b2 <;> simp [h1, h2]
theorem P_laws_eqVote (x y : TV) : F_laws_eqVote x y = some (decide (x = y)) := by
  unfold F_laws_eqVote
  rw [P_laws_eqRef]
  obtain ⟨a1, a2, a3, a4, a5⟩ := x; obtain ⟨b1, b2, b3, b4, b5⟩ := y
  by_cases h1 : a1 = b1 <;> by_cases h2 : a2 = b2 <;> by_cases h3 : a3 = b3 <;> by_cases h4 : a4 = b4 <;> by_cases h5 : a5 = b5 <;> simp [h1, h2, h3, h4, h5]
theorem P_laws_eqInt64S (x y : List Int) (hx : bL bAny x) : F_laws_eqInt64S x y = some (decide (x = y)) := by
  unfold F_laws_eqInt64S
  by_cases hl : x.length = y.length
  · have hc : decide ((x.length : Int) = (y.length : Int)) = true := by simp [hl]
    rw [hc, Bool.not_true, cond_false]
    refine eq_loop x y hl _ (fun i h h' => ?_) ?_
    · have e1 : decide ((i : Int) < (x.length : Int)) = true := by simpa using h
      simp only [e1, inB_nat x i h, inB_nat y i h', getD_toNat x i _ h, getD_toNat y i _ h', cond_true, wrap_succ i _ h hx.1]
      exact eq_step _
    · simp
  · have hc : decide ((x.length : Int) = (y.length : Int)) = false := decide_eq_false (fun h => hl (by omega))
    rw [hc, neq_len hl]; rfl
theorem P_laws_eqNodeS (x y : List TN) (hx : bL bAny x) : F_laws_eqNodeS x y = some (decide (x = y)) := by
  unfold F_laws_eqNodeS
  by_cases hl : x.length = y.length
  · have hc : decide ((x.length : Int) = (y.length : Int)) = true := by simp [hl]
    rw [hc, Bool.not_true, cond_false]
    refine eq_loop x y hl _ (fun i h h' => ?_) ?_
    · have e1 : decide ((i : Int) < (x.length : Int)) = true := by simpa using h
      simp only [e1, inB_nat x i h, inB_nat y i h', getD_toNat x i _ h, getD_toNat y i _ h', cond_true, wrap_succ i _ h hx.1, P_laws_eqNode, Option.bind_some]
      exact eq_step _
    · simp
  · have hc : decide ((x.length : Int) = (y.length : Int)) = false := decide_eq_false (fun h => hl (by omega))
    rw [hc, neq_len hl]; rfl
theorem P_laws_eqChoiceS (x y : List TC) (hx : bL bAny x) : F_laws_eqChoiceS x y = some (decide (x = y)) := by
  unfold F_laws_eqChoiceS
  by_cases hl : x.length = y.length
  · have hc : decide ((x.length : Int) = (y.length : Int)) = true := by simp [hl]
    rw [hc, Bool.not_true, cond_false]
    refine eq_loop x y hl _ (fun i h h' => ?_) ?_
    · have e1 : decide ((i : Int) < (x.length : Int)) = true := by simpa using h
      simp only [e1, inB_nat x i h, inB_nat y i h', getD_toNat x i _ h, getD_toNat y i _ h', cond_true, wrap_succ i _ h hx.1, P_laws_eqChoice, Option.bind_some]
      exact eq_step _
    · simp
  · have hc : decide ((x.length : Int) = (y.length : Int)) = false := decide_eq_false (fun h => hl (by omega))
    rw [hc, neq_len hl]; rfl
theorem P_laws_eqVoteS (x y : List TV) (hx : bL bAny x) : F_laws_eqVoteS x y = some (decide (x = y)) := by
  unfold F_laws_eqVoteS
  by_cases hl : x.length = y.length
  · have hc : decide ((x.length : Int) = (y.length : Int)) = true := by simp [hl]
    rw [hc, Bool.not_true, cond_false]
    refine eq_loop x y hl _ (fun i h h' => ?_) ?_
    · have e1 : decide ((i : Int) < (x.length : Int)) = true := by simpa using h
      simp only [e1, inB_nat x i h, inB_nat y i h', getD_toNat x i _ h, getD_toNat y i _ h', cond_true, wrap_succ i _ h hx.1, P_laws_eqVote, Option.bind_some]
      exact eq_step _
    · simp
  · have hc : decide ((x.length : Int) = (y.length : Int)) = false := decide_eq_false (fun h => hl (by omega))
    rw [hc, neq_len hl]; rfl
theorem P_laws_eqVoter (x y : TR) (hx : bVoter x) : F_laws_eqVoter x y = some (decide (x = y)) := by
  unfold F_laws_eqVoter
  obtain ⟨a1, a2, a3⟩ := x; obtain ⟨b1, b2, b3⟩ := y
  rw [P_laws_eqChoiceS _ _ hx]
  by_cases h1 : a1 = b1 <;> by_cases h2 : a2 = b2 <;> by_cases h3 : a3 = b3 <;> simp [h1, h2, h3]
theorem P_laws_eqQuorum (x y : TQ) (hx : bL bAny x.1) : F_laws_eqQuorum x y = some (decide (x = y)) := by
  unfold F_laws_eqQuorum
  obtain ⟨a1, a2⟩ := x; obtain ⟨b1, b2⟩ := y
  rw [P_laws_eqInt64S _ _ hx]
  by_cases h1 : a1 = b1 <;> by_cases h2 : a2 = b2 <;> simp [h1, h2]
theorem P_laws_eqVoterS (x y : List TR) (hx : bL bVoter x) : F_laws_eqVoterS x y = some (decide (x = y)) := by
  unfold F_laws_eqVoterS
  by_cases hl : x.length = y.length
  · have hc : decide ((x.length : Int) = (y.length : Int)) = true := by simp [hl]
    rw [hc, Bool.not_true, cond_false]
    refine eq_loop x y hl _ (fun i h h' => ?_) ?_
    · have e1 : decide ((i : Int) < (x.length : Int)) = true := by simpa using h
      simp only [e1, inB_nat x i h, inB_nat y i h', getD_toNat x i _ h, getD_toNat y i _ h', cond_true, wrap_succ i _ h hx.1, P_laws_eqVoter _ _ (hx.2 _ (List.getElem_mem h)), Option.bind_some]
      exact eq_step _
    · simp
  · have hc : decide ((x.length : Int) = (y.length : Int)) = false := decide_eq_false (fun h => hl (by omega))
    rw [hc, neq_len hl]; rfl
theorem P_laws_eqInt64SS (x y : List (List Int)) (hx : bL (bL bAny) x) : F_laws_eqInt64SS x y = some (decide (x = y)) := by
  unfold F_laws_eqInt64SS
  by_cases hl : x.length = y.length
  · have hc : decide ((x.length : Int) = (y.length : Int)) = true := by simp [hl]
    rw [hc, Bool.not_true, cond_false]
    refine eq_loop x y hl _ (fun i h h' => ?_) ?_
    · have e1 : decide ((i : Int) < (x.length : Int)) = true := by simpa using h
      simp only [e1, inB_nat x i h, inB_nat y i h', getD_toNat x i _ h, getD_toNat y i _ h', cond_true, wrap_succ i _ h hx.1, P_laws_eqInt64S _ _ (hx.2 _ (List.getElem_mem h)), Option.bind_some]
      exact eq_step _
    · simp
  · have hc : decide ((x.length : Int) = (y.length : Int)) = false := decide_eq_false (fun h => hl (by omega))
    rw [hc, neq_len hl]; rfl
theorem P_laws_eqCluster (x y : TK) (hx : bCluster x) : F_laws_eqCluster x y = some (decide (x = y)) := by
  unfold F_laws_eqCluster
  obtain ⟨hb1, hb2, hb3, hb4, hb5, hb6⟩ := hx
  obtain ⟨a1, a2, a3, a4, a5, a6⟩ := x; obtain ⟨b1, b2, b3, b4, b5, b6⟩ := y
  rw [P_laws_eqQuorum _ _ hb1, P_laws_eqInt64S _ _ hb2, P_laws_eqNodeS _ _ hb3, P_laws_eqVoterS _ _ hb4, P_laws_eqVoteS _ _ hb5, P_laws_eqInt64SS _ _ hb6]
  by_cases h1 : a1 = b1 <;> by_cases h2 : a2 = b2 <;> by_cases h3 : a3 = b3 <;> by_cases h4 : a4 = b4 <;> by_cases h5 : a5 = b5 <;> by_cases h6 : a6 = b6 <;> simp [h1, h2, h3, h4, h5, h6]
theorem P_laws_eqIntResult (x y : Int × Int) : F_laws_eqIntResult x y = some (decide (x = y)) := by
  unfold F_laws_eqIntResult
  obtain ⟨a1, a2⟩ := x; obtain ⟨b1, b2⟩ := y
  by_cases h1 : a1 = b1 <;> by_cases h2 : a2 = b2 <;> simp [h1, h2]
theorem P_laws_eqIntsResult (x y : Int × List Int) (hx : bL bAny x.2) : F_laws_eqIntsResult x y = some (decide (x = y)) := by
  unfold F_laws_eqIntsResult
  obtain ⟨a1, a2⟩ := x; obtain ⟨b1, b2⟩ := y
  rw [P_laws_eqInt64S _ _ hx]
  by_cases h1 : a1 = b1 <;> by_cases h2 : a2 = b2 <;> simp [h1, h2]
theorem P_laws_eqChoicesResult (x y : Int × List TC) (hx : bL bAny x.2) : F_laws_eqChoicesResult x y = some (decide (x = y)) := by
  unfold F_laws_eqChoicesResult
  obtain ⟨a1, a2⟩ := x; obtain ⟨b1, b2⟩ := y
  rw [P_laws_eqChoiceS _ _ hx]
  by_cases h1 : a1 = b1 <;> by_cases h2 : a2 = b2 <;> simp [h1, h2]
theorem P_laws_eqClusterResult (x y : Int × TK) (hx : bCluster x.2) : F_laws_eqClusterResult x y = some (decide (x = y)) := by
  unfold F_laws_eqClusterResult
  obtain ⟨a1, a2⟩ := x; obtain ⟨b1, b2⟩ := y
  rw [P_laws_eqCluster _ _ hx]
  by_cases h1 : a1 = b1 <;> by_cases h2 : a2 = b2 <;> simp [h1, h2]
theorem bL_any {α : Type} {l : List α} (h : l.length ≤ 9223372036854775807) : bL bAny l := ⟨h, fun _ _ => trivial⟩
theorem bCluster_small {x : TK} (h : Small x) : bCluster x := by
  have hL : LIM = 1073741824 := rfl
  have := h.keys; have := h.bad; have := h.tree; have := h.voters; have := h.votes; have := h.heard
  exact ⟨bL_any (by omega), bL_any (by omega), bL_any (by omega), ⟨by omega, fun v hv => bL_any (by have := h.choices v hv; omega)⟩, bL_any (by omega), ⟨by omega, fun l hl => bL_any (by have := h.heards l hl; omega)⟩⟩
abbrev SInts : Sh := .list (.int .i64)
abbrev SRef : Sh := .prod (.int .i64) (.int .i64)
abbrev SNode : Sh := .prod (.int .i64) (.prod (.int .i64) (.int .i64))
abbrev SVoter : Sh := .prod (.int .i64) (.prod (.int .i64) (.list (.prod SRef (.int .i64))))
abbrev SVote : Sh := .prod (.int .i64) (.prod (.int .i64) (.prod (.int .i64) (.prod SRef (.int .i64))))
abbrev SK : Sh := .prod (.prod SInts (.int .i64)) (.prod SInts (.prod (.list SNode) (.prod (.list SVoter) (.prod (.list SVote) (.list SInts)))))
theorem bCluster_of (c : TK) (h : Bnd SK c) : bCluster c := by
  obtain ⟨⟨h1, _⟩, h2, h3, h4, h5, h6⟩ := h
  exact ⟨bL_any h1.1, bL_any h2.1, bL_any h3.1, ⟨h4.1, fun v hv => bL_any (h4.2 v hv).2.2.1⟩, bL_any h5.1, ⟨h6.1, fun l hl => bL_any (h6.2 l hl).1⟩⟩
end CL
end Go.Dx

set_option maxHeartbeats 2000000
namespace Go.Dx
namespace CL
theorem loop_pick {α β : Type} (l : List α) (p : α → Bool) (a b : β) (f : Int → Option (Int ⊕ β))
    (hs : ∀ (i : Nat) (h : i < l.length), f (i : Int) = some (if p l[i] then .inr a else .inl ((i + 1 : Nat) : Int))) (he : f (l.length : Int) = some (.inr b)) :
    loopO f 0 = some (if l.any p then a else b) := by
  have key : ∀ (k i : Nat), i + k = l.length → loopO f (i : Int) = some (if (l.drop i).any p then a else b) := by
    intro k
    induction k with
    | zero =>
      intro i hi
      obtain rfl : i = l.length := by omega
      rw [loopO_out he, List.drop_length]; rfl
    | succ k ih =>
      intro i hi
      have h1 : i < l.length := by omega
      have hs := hs i h1
      rw [List.drop_eq_getElem_cons h1, List.any_cons]
      cases hp : p l[i] with
      | true => rw [hp] at hs; rw [loopO_out hs]; rfl
      | false => rw [hp] at hs; rw [loopO_next hs, ih (i + 1) (by omega)]; rfl
  have := key l.length 0 (by omega)
  simpa using this
def mCount (votes : List TV) (q : TQ) (x : TV) : Int := ((q.1.countP fun k => decide ((k, x.2) ∈ votes) : Nat) : Int)
theorem fold_count (votes : List TV) : ∀ (l : List Int) (t : Int × TV), (l.foldl (fun (t : Int × TV) k => (if decide ((k, t.2.2) ∈ votes) then t.1 + 1 else t.1, (k, t.2.2))) t).1 = t.1 + ((l.countP fun k => decide ((k, t.2.2) ∈ votes) : Nat) : Int)
  | [], t => by simp
  | a :: l, t => by
    rw [List.foldl_cons, fold_count votes l]
    simp only [List.countP_cons]
    cases h : decide ((a, t.2.2) ∈ votes)
    · simp
    · simp; omega
theorem fold_count1 (votes : List TV) (l : List Int) (x : TV) : (l.foldl (fun (t : Int × TV) k => (if decide ((k, t.2.2) ∈ votes) then t.1 + 1 else t.1, (k, t.2.2))) (0, x)).1 = ((l.countP fun k => decide ((k, x.2) ∈ votes) : Nat) : Int) := by
  rw [fold_count]; simp
theorem any_mem (votes : List TV) (y : TV) : votes.any (fun a => decide (a = y)) = decide (y ∈ votes) := by rw [Bool.eq_iff_iff]; simp
theorem P_spec_l11Count (votes : List TV) (q : TQ) (x : TV) (hv : votes.length < BIG) (hq : q.1.length < BIG) : F_spec_l11Count votes q x = some (mCount votes q x) := by
  unfold F_spec_l11Count mCount
  have hbig : (BIG : Int) = 4611686018427387904 := rfl
  rw [loop_fold q.1 (fun (t : Int × TV) k => (if decide ((k, t.2.2) ∈ votes) then t.1 + 1 else t.1, (k, t.2.2))) (fun t i => (t.1, i, t.2)) (fun t => t.1) (fun t i => 0 ≤ t.1 ∧ t.1 ≤ (i : Int)) _ (fun i h t ht => ?_) (fun t ht => by simp only [dge, cond_false]) (0, x) (by simp), Option.bind_some, fold_count1]
  have w : IntKind.wrap .i64 (t.1 + 1) = t.1 + 1 := wrap_id (by omega) (by omega)
  rw [loop_pick votes (fun a => decide (a = (q.1[i], t.2.2))) (t.1 + 1) t.1 _ (fun j hj => by
    simp only [dlt hj, inB_nat _ j hj, getD_toNat _ j _ hj, getD_toNat _ i _ h, cond_true, wsucc hj hv, beqV, w]
    cases decide (votes[j] = (q.1[i], t.2.2)) <;> rfl) (by simp only [dge, cond_false]), any_mem]
  simp only [dlt h, inB_nat _ i h, getD_toNat _ i _ h, cond_true, Option.bind_some, wsucc h hq]
  refine ⟨by first | rfl | trivial, ?_⟩
  cases decide ((q.1[i], t.2.2) ∈ votes) <;> simp <;> omega
theorem P_impl_countFor (votes : List TV) (q : TQ) (x : TV) (hv : votes.length < BIG) (hq : q.1.length < BIG) : F_impl_countFor votes q x = some (mCount votes q x) := by
  unfold F_impl_countFor mCount
  have hbig : (BIG : Int) = 4611686018427387904 := rfl
  rw [loop_fold q.1 (fun (t : Int × TV) k => (if decide ((k, t.2.2) ∈ votes) then t.1 + 1 else t.1, (k, t.2.2))) (fun t i => (t.1, i, t.2)) (fun t => t.1) (fun t i => 0 ≤ t.1 ∧ t.1 ≤ (i : Int)) _ (fun i h t ht => ?_) (fun t ht => by simp only [dge, cond_false]) (0, x) (by simp), Option.bind_some, fold_count1]
  have w : IntKind.wrap .i64 (t.1 + 1) = t.1 + 1 := wrap_id (by omega) (by omega)
  simp only [dlt h, inB_nat _ i h, getD_toNat _ i _ h, cond_true, P_Contains_vote votes hv, Option.bind_some, wsucc h hq, w]
  cases hd : decide ((q.1[i], t.2.2) ∈ votes)
  · exact ⟨by simp, by simp; omega⟩
  · exact ⟨by simp, by simp; omega⟩
def nodeVote (n : TN) : TV := (0, 1, n.1, (0, 0), 0)
def mLocks (c : TK) (votes : List TV) : List Int := (c.2.2.1.filter fun n => decide (c.1.2 ≤ mCount votes c.1 (nodeVote n))).map (·.1)
theorem P_spec_l12Locks (c : TK) (hc : Small c) (votes : List TV) (hv : votes.length < BIG) : F_spec_l12Locks c votes = some (mLocks c votes) := by
  unfold F_spec_l12Locks mLocks
  rw [loop_fold c.2.2.1 (fun acc n => if decide (c.1.2 ≤ mCount votes c.1 (nodeVote n)) then acc ++ [n.1] else acc) (fun t i => (t, i)) (fun t => t) (fun t i => t.length ≤ i) _ (fun i h t ht => ?_) (fun t ht => by simp only [dge, cond_false]) ([] : List Int) (by simp), foldl_filterMap]
  · rfl
  · have h1 := append_one_lim t c.2.2.1[i].1 i ht (Nat.lt_trans h hc.tree)
    simp only [dlt h, inB_nat _ i h, getD_toNat _ i _ h, cond_true, P_spec_l11Count _ _ _ hv (lB hc.keys), Option.bind_some, wsucc h (lB hc.tree), h1]
    rw [show ((0, 1, c.2.2.1[i].1, (0, 0), 0) : TV) = nodeVote c.2.2.1[i] from rfl]
    cases decide (c.1.2 ≤ mCount votes c.1 (nodeVote c.2.2.1[i]))
    · exact ⟨rfl, by simp; omega⟩
    · exact ⟨rfl, by simp; omega⟩
theorem P_impl_lockedBy (c : TK) (hc : Small c) (votes : List TV) (hv : votes.length < BIG) : F_impl_Cluster_lockedBy c votes = some (mLocks c votes) := by
  unfold F_impl_Cluster_lockedBy mLocks
  rw [loop_fold c.2.2.1 (fun acc n => if decide (c.1.2 ≤ mCount votes c.1 (nodeVote n)) then acc ++ [n.1] else acc) (fun t i => (t, i)) (fun t => t) (fun t i => t.length ≤ i) _ (fun i h t ht => ?_) (fun t ht => by simp only [dge, cond_false]) ([] : List Int) (by simp), foldl_filterMap]
  · rfl
  · have h1 := append_one_lim t c.2.2.1[i].1 i ht (Nat.lt_trans h hc.tree)
    simp only [dlt h, inB_nat _ i h, getD_toNat _ i _ h, cond_true, P_impl_countFor _ _ _ hv (lB hc.keys), Option.bind_some, wsucc h (lB hc.tree), h1]
    rw [show ((0, 1, c.2.2.1[i].1, (0, 0), 0) : TV) = nodeVote c.2.2.1[i] from rfl]
    cases decide (c.1.2 ≤ mCount votes c.1 (nodeVote c.2.2.1[i]))
    · exact ⟨rfl, by simp; omega⟩
    · exact ⟨rfl, by simp; omega⟩
theorem mLocks_len (c : TK) (votes : List TV) : (mLocks c votes).length ≤ c.2.2.1.length := by
  unfold mLocks; rw [List.length_map]; exact List.length_filter_le _ _
def mLB (c : TK) : Int × List Int := if mCF c = 0 then (0, mLocks c c.2.2.2.2.1) else (mCF c, [])
theorem P_impl_LockedBlocks (c : TK) (hc : Small c) : F_impl_LockedBlocks c = some (mLB c) := by
  unfold F_impl_LockedBlocks mLB
  simp only [P_impl_ClusterFault c hc, P_impl_lockedBy c hc _ (lB hc.votes), Option.bind_some, bif_code]
  split <;> rfl
theorem P_spec_LockedBlocks (c : TK) (hc : Small c) : F_spec_LockedBlocks c = some (mLB c) := by
  unfold F_spec_LockedBlocks mLB F_spec_l13Blocks
  simp only [P_spec_l12Fault c hc, P_spec_l12Locks c hc _ (lB hc.votes), Option.bind_some, bif_code]
  split <;> rfl
theorem mLB_len (c : TK) (hc : Small c) : (mLB c).2.length < LIM := by
  unfold mLB
  split
  · exact Nat.lt_of_le_of_lt (mLocks_len _ _) hc.tree
  · simp [LIM]
def mRel (t : List TN) (a b : Int) : Bool := mAbove t a b || mAbove t b a
theorem mRel_comm (t : List TN) (a b : Int) : mRel t a b = mRel t b a := Bool.or_comm _ _
theorem P_impl_related (t : List TN) (hR : Right t) (a b : Int) : F_impl_related t a b = some (mRel t a b) := by
  unfold F_impl_related mRel
  rw [P_impl_isAbove t hR, P_impl_isAbove t hR]
  cases mAbove t a b <;> rfl
theorem right_BIG {t : List TN} (hR : Right t) : t.length < BIG := by have := hR.len; unfold BIG; omega
theorem P_spec_l9Related (t : List TN) (hR : Right t) (a b : Int) : F_spec_l9Related t a b = some (mRel t a b) := by
  unfold F_spec_l9Related mRel
  rw [P_spec_l9Above t (right_BIG hR) hR, P_spec_l9Above t (right_BIG hR) hR]
  cases mAbove t a b <;> rfl
theorem mCF_tree {c : TK} (h : mCF c = 0) : mTree c.2.2.1 = 0 := by
  unfold mCF at h
  by_cases h1 : mQF c.1 = 0
  · rw [if_pos h1] at h
    cases h2 : mMany c with
    | true => rw [h2] at h; cases h
    | false =>
      rw [h2] at h
      by_cases h3 : mBF c.2.1 = 0
      · by_cases h4 : mTree c.2.2.1 = 0
        · exact h4
        · simp [h3, h4] at h
      · simp [h3] at h
  · rw [if_neg h1] at h; exact absurd h h1
theorem mCF_right {c : TK} (h : mCF c = 0) : Right c.2.2.1 := right_of (mCF_tree h)
theorem take_form {α : Type} (l : List α) (i : Nat) : List.take (Int.toNat ((i : Int) - 0)) (List.drop (Int.toNat 0) l) = l.take i := by simp
/-- pairs along a list -/
def mPairs {α : Type} (q : α → α → Bool) (l : List α) : Option Bool := first (fun i a => if (l.take i).any (fun b => q b a) then some false else none) 0 l
theorem inner_pairs {α : Type} (l : List α) (hl : l.length < BIG) (i : Nat) (h : i < l.length) (q : α → Bool) (f : Int → Option (Int ⊕ (Unit ⊕ Bool)))
    (hs : ∀ (j : Nat) (hj : j < i), f (j : Int) = some (if q (l[j]'(by omega)) then .inr (.inr false) else .inl ((j + 1 : Nat) : Int))) (he : f (i : Int) = some (.inr (.inl ()))) :
    loopO f 0 = some (if (l.take i).any q then .inr false else .inl ()) := by
  have hlen : (l.take i).length = i := by rw [List.length_take]; omega
  rw [loop_first (l.take i) (fun _ b => if q b then some false else none) f (fun j hj => by
    rw [hs j (by omega), List.getElem_take]
    by_cases hq : q (l[j]'(by omega)) = true <;> simp [hq]) (by rw [hlen]; exact he), first_any]
  cases (l.take i).any q <;> rfl
def pairsOk {α : Type} (q : α → α → Bool) (l : List α) : Bool := (mPairs q l).isNone
theorem pairs_loop {α : Type} (q : α → α → Bool) (l : List α) (f : Int → Option (Int ⊕ (Unit ⊕ Bool)))
    (hs : ∀ (i : Nat) (h : i < l.length), f (i : Int) = some (if (l.take i).any (fun b => q b l[i]) then .inr (.inr false) else .inl ((i + 1 : Nat) : Int))) (he : f (l.length : Int) = some (.inr (.inl ()))) :
    loopO f 0 = some (if pairsOk q l then .inl () else .inr false) := by
  rw [loop_first l (fun i a => if (l.take i).any (fun b => q b a) then some false else none) f (fun i h => by
    rw [hs i h]
    by_cases hq : (l.take i).any (fun b => q b l[i]) = true
    · rw [if_pos hq, if_pos hq]
    · rw [if_neg hq, if_neg hq]) he]
  unfold pairsOk mPairs
  have key : ∀ (l' : List α) (i : Nat), first (fun i a => if (l.take i).any (fun b => q b a) then some false else none) i l' = none ∨ first (fun i a => if (l.take i).any (fun b => q b a) then some false else none) i l' = some false := by
    intro l'
    induction l' with
    | nil => intro i; exact .inl rfl
    | cons a l' ih =>
      intro i
      simp only [first]
      by_cases hq : (l.take i).any (fun b => q b a) = true
      · rw [if_pos hq]; exact .inr rfl
      · rw [if_neg hq]; exact ih (i + 1)
  rcases key l 0 with h | h <;> rw [h] <;> rfl
theorem nofork_same (c : TK) (hc : Small c) : ∃ b, F_spec_NoFork c = some b ∧ F_impl_NoFork c = some b := by
  unfold F_spec_NoFork F_impl_NoFork F_spec_l13Blocks
  simp only [P_spec_l12Fault c hc, P_impl_LockedBlocks c hc, P_spec_l12Locks c hc _ (lB hc.votes), Option.bind_some, bif_code]
  by_cases h : mCF c = 0
  · have hR := mCF_right h
    have hlb : mLB c = (0, mLocks c c.2.2.2.2.1) := by unfold mLB; rw [if_pos h]
    have hll := mLB_len c hc
    rw [hlb] at hll ⊢
    simp only at hll ⊢
    rw [if_pos h]
    generalize mLocks c c.2.2.2.2.1 = l at hll ⊢
    rw [pairs_loop (fun b a => !mRel c.2.2.1 b a) l _ (fun i hi => ?_) (by simp only [dge, cond_false]), pairs_loop (fun b a => !mRel c.2.2.1 b a) l _ (fun i hi => ?_) (by simp only [dge, cond_false])]
    · cases pairsOk (fun b a => !mRel c.2.2.1 b a) l with
      | false => exact ⟨_, rfl, rfl⟩
      | true => exact ⟨_, rfl, rfl⟩
    · simp only [dlt hi, inB_nat _ i hi, getD_toNat _ i _ hi, cutOk_nat l i (Nat.le_of_lt hi), cond_true, take_form, wsucc hi (lB hll)]
      rw [P_ContainsFunc_int _ (take_BIG (lB hll) i) (fun b => !mRel c.2.2.1 b l[i]) _ (fun b _ => by unfold F_impl_NoFork_c1; rw [P_impl_related _ hR, mRel_comm]; rfl)]
      cases (l.take i).any (fun b => !mRel c.2.2.1 b l[i]) <;> rfl
    · simp only [dlt hi, cond_true]
      rw [inner_pairs l (lB hll) i hi (fun b => !mRel c.2.2.1 b l[i]) _ (fun j hj => by
        simp only [dlt hj, inB_nat l j (by omega), inB_nat l i hi, getD_toNat l j _ (by omega), getD_toNat l i _ hi, cond_true, P_spec_l9Related _ hR, Option.bind_some, wsucc hj (by have := lB hll; omega)]
        cases mRel c.2.2.1 (l[j]'(by omega)) l[i] <;> rfl) (by simp only [dge, cond_false]), Option.bind_some, wsucc hi (lB hll)]
      cases (l.take i).any (fun b => !mRel c.2.2.1 b l[i]) <;> rfl
  · rw [if_neg h]
    have hlb : mLB c = (mCF c, []) := by unfold mLB; rw [if_neg h]
    rw [hlb, loopO_out (x := Sum.inl ()) (by simp)]
    exact ⟨false, rfl, by simp [h]⟩
end CL
end Go.Dx

set_option maxHeartbeats 2000000
namespace Go.Dx
namespace CL
theorem wk {k : Int} (h0 : 0 ≤ k) (h : k < (BIG : Int)) : IntKind.wrap .i64 (k + 1) = k + 1 := wrap_id (by omega) (by have : (BIG : Int) = 4611686018427387904 := rfl; omega)
theorem big_pos : (BIG : Int) = 4611686018427387904 := rfl
def mkI (k : Int) (_ : Int) : Int := k
def mkN (k : Int) (_ : TN) : TN := (k, k + 1, k + 2)
def mkC (k : Int) (_ : TC) : TC := ((k, k + 1), k + 2)
def mkV (k : Int) (_ : TV) : TV := (k, k + 1, k + 2, (k + 3, k + 4), k + 5)
def c1 : Int → Nat := fun _ => 1
def c3N : TN → Nat := fun _ => 3
def c3C : TC → Nat := fun _ => 3
def c6V : TV → Nat := fun _ => 6
def cR (v : TR) : Nat := 2 + cntL c3C v.2.2
def mkR (k : Int) (v : TR) : TR := (k, k + 1, mkL c3C mkC (k + 2) v.2.2)
def cIs (l : List Int) : Nat := cntL c1 l
def mkIs (k : Int) (l : List Int) : List Int := mkL c1 mkI k l
def cK (c : TK) : Nat := cntL c1 c.1.1 + (cntL c1 c.2.1 + (cntL c3N c.2.2.1 + (cntL cR c.2.2.2.1 + (cntL c6V c.2.2.2.2.1 + cntL cIs c.2.2.2.2.2))))
theorem P_laws_markInt64S (x : List Int) (hl : x.length < BIG) (k : Int) (h0 : 0 ≤ k) (hb : k + (cntL c1 x : Int) < (BIG : Int)) : F_laws_markInt64S x k = some (k + (cntL c1 x : Int), mkL c1 mkI k x) := by
  unfold F_laws_markInt64S
  rw [mark_loop c1 mkI x k h0 hb _ (fun acc i k h ha hm h0 hk => ?_) (fun acc k ha => by simp only [ha, dge, cond_false])]
  · rfl
  · simp only [c1] at hk
    have w1 : IntKind.wrap .i64 (k + 1) = k + 1 := wk h0 (by omega)

    simp only [dlt h, inB_set, inB_nat acc i h, Int.toNat_natCast, List.set_set, getD_set_same acc i _ _ h, getD_at acc i _ h, cond_true, w1, wsucc h (by omega)]
    rfl
theorem P_laws_heldInt64S (x : List Int) (hl : x.length < BIG) (k : Int) (h0 : 0 ≤ k) (hb : k + (cntL c1 x : Int) < (BIG : Int)) : F_laws_heldInt64S (mkL c1 mkI k x) k = some (k + (cntL c1 x : Int)) := by
  unfold F_laws_heldInt64S
  refine held_loop c1 mkI x k h0 hb _ (fun i k h h' h0 hk hel => ?_) (fun k => by simp only [mkL_len, dge, cond_false])
  simp only [c1] at hk
  have w1 : IntKind.wrap .i64 (k + 1) = k + 1 := wk h0 (by omega)

  simp only [mkL_len, dlt h, inB_nat _ i h', Int.toNat_natCast, getD_at _ i _ h', hel, mkI, cond_true, w1, decide_true, Bool.not_true, cond_false, wsucc h hl]
  rfl
theorem P_laws_markNodeS (x : List TN) (hl : x.length < BIG) (k : Int) (h0 : 0 ≤ k) (hb : k + (cntL c3N x : Int) < (BIG : Int)) : F_laws_markNodeS x k = some (k + (cntL c3N x : Int), mkL c3N mkN k x) := by
  unfold F_laws_markNodeS
  rw [mark_loop c3N mkN x k h0 hb _ (fun acc i k h ha hm h0 hk => ?_) (fun acc k ha => by simp only [ha, dge, cond_false])]
  · rfl
  · simp only [c3N] at hk
    have w1 : IntKind.wrap .i64 (k + 1) = k + 1 := wk h0 (by omega)
    have w2 : IntKind.wrap .i64 (k + 1 + 1) = k + 2 := by rw [wk (by omega) (by omega)]; omega
    have w3 : IntKind.wrap .i64 (k + 2 + 1) = k + 3 := by rw [wk (by omega) (by omega)]; omega
    simp only [dlt h, inB_set, inB_nat acc i h, Int.toNat_natCast, List.set_set, getD_set_same acc i _ _ h, getD_at acc i _ h, cond_true, w1, w2, w3, wsucc h (by omega)]
    rfl
theorem P_laws_heldNodeS (x : List TN) (hl : x.length < BIG) (k : Int) (h0 : 0 ≤ k) (hb : k + (cntL c3N x : Int) < (BIG : Int)) : F_laws_heldNodeS (mkL c3N mkN k x) k = some (k + (cntL c3N x : Int)) := by
  unfold F_laws_heldNodeS
  refine held_loop c3N mkN x k h0 hb _ (fun i k h h' h0 hk hel => ?_) (fun k => by simp only [mkL_len, dge, cond_false])
  simp only [c3N] at hk
  have w1 : IntKind.wrap .i64 (k + 1) = k + 1 := wk h0 (by omega)
  have w2 : IntKind.wrap .i64 (k + 1 + 1) = k + 2 := by rw [wk (by omega) (by omega)]; omega
  have w3 : IntKind.wrap .i64 (k + 2 + 1) = k + 3 := by rw [wk (by omega) (by omega)]; omega
  simp only [mkL_len, dlt h, inB_nat _ i h', Int.toNat_natCast, getD_at _ i _ h', hel, mkN, cond_true, w1, w2, w3, decide_true, Bool.not_true, cond_false, wsucc h hl]
  rfl
theorem P_laws_markChoiceS (x : List TC) (hl : x.length < BIG) (k : Int) (h0 : 0 ≤ k) (hb : k + (cntL c3C x : Int) < (BIG : Int)) : F_laws_markChoiceS x k = some (k + (cntL c3C x : Int), mkL c3C mkC k x) := by
  unfold F_laws_markChoiceS
  rw [mark_loop c3C mkC x k h0 hb _ (fun acc i k h ha hm h0 hk => ?_) (fun acc k ha => by simp only [ha, dge, cond_false])]
  · rfl
  · simp only [c3C] at hk
    have w1 : IntKind.wrap .i64 (k + 1) = k + 1 := wk h0 (by omega)
    have w2 : IntKind.wrap .i64 (k + 1 + 1) = k + 2 := by rw [wk (by omega) (by omega)]; omega
    have w3 : IntKind.wrap .i64 (k + 2 + 1) = k + 3 := by rw [wk (by omega) (by omega)]; omega
    simp only [dlt h, inB_set, inB_nat acc i h, Int.toNat_natCast, List.set_set, getD_set_same acc i _ _ h, getD_at acc i _ h, cond_true, w1, w2, w3, wsucc h (by omega)]
    rfl
theorem P_laws_heldChoiceS (x : List TC) (hl : x.length < BIG) (k : Int) (h0 : 0 ≤ k) (hb : k + (cntL c3C x : Int) < (BIG : Int)) : F_laws_heldChoiceS (mkL c3C mkC k x) k = some (k + (cntL c3C x : Int)) := by
  unfold F_laws_heldChoiceS
  refine held_loop c3C mkC x k h0 hb _ (fun i k h h' h0 hk hel => ?_) (fun k => by simp only [mkL_len, dge, cond_false])
  simp only [c3C] at hk
  have w1 : IntKind.wrap .i64 (k + 1) = k + 1 := wk h0 (by omega)
  have w2 : IntKind.wrap .i64 (k + 1 + 1) = k + 2 := by rw [wk (by omega) (by omega)]; omega
  have w3 : IntKind.wrap .i64 (k + 2 + 1) = k + 3 := by rw [wk (by omega) (by omega)]; omega
  simp only [mkL_len, dlt h, inB_nat _ i h', Int.toNat_natCast, getD_at _ i _ h', hel, mkC, cond_true, w1, w2, w3, decide_true, Bool.not_true, cond_false, wsucc h hl]
  rfl
theorem P_laws_markVoteS (x : List TV) (hl : x.length < BIG) (k : Int) (h0 : 0 ≤ k) (hb : k + (cntL c6V x : Int) < (BIG : Int)) : F_laws_markVoteS x k = some (k + (cntL c6V x : Int), mkL c6V mkV k x) := by
  unfold F_laws_markVoteS
  rw [mark_loop c6V mkV x k h0 hb _ (fun acc i k h ha hm h0 hk => ?_) (fun acc k ha => by simp only [ha, dge, cond_false])]
  · rfl
  · simp only [c6V] at hk
    have w1 : IntKind.wrap .i64 (k + 1) = k + 1 := wk h0 (by omega)
    have w2 : IntKind.wrap .i64 (k + 1 + 1) = k + 2 := by rw [wk (by omega) (by omega)]; omega
    have w3 : IntKind.wrap .i64 (k + 2 + 1) = k + 3 := by rw [wk (by omega) (by omega)]; omega
    have w4 : IntKind.wrap .i64 (k + 3 + 1) = k + 4 := by rw [wk (by omega) (by omega)]; omega
    have w5 : IntKind.wrap .i64 (k + 4 + 1) = k + 5 := by rw [wk (by omega) (by omega)]; omega
    have w6 : IntKind.wrap .i64 (k + 5 + 1) = k + 6 := by rw [wk (by omega) (by omega)]; omega
    simp only [dlt h, inB_set, inB_nat acc i h, Int.toNat_natCast, List.set_set, getD_set_same acc i _ _ h, getD_at acc i _ h, cond_true, w1, w2, w3, w4, w5, w6, wsucc h (by omega)]
    rfl
theorem P_laws_heldVoteS (x : List TV) (hl : x.length < BIG) (k : Int) (h0 : 0 ≤ k) (hb : k + (cntL c6V x : Int) < (BIG : Int)) : F_laws_heldVoteS (mkL c6V mkV k x) k = some (k + (cntL c6V x : Int)) := by
  unfold F_laws_heldVoteS
  refine held_loop c6V mkV x k h0 hb _ (fun i k h h' h0 hk hel => ?_) (fun k => by simp only [mkL_len, dge, cond_false])
  simp only [c6V] at hk
  have w1 : IntKind.wrap .i64 (k + 1) = k + 1 := wk h0 (by omega)
  have w2 : IntKind.wrap .i64 (k + 1 + 1) = k + 2 := by rw [wk (by omega) (by omega)]; omega
  have w3 : IntKind.wrap .i64 (k + 2 + 1) = k + 3 := by rw [wk (by omega) (by omega)]; omega
  have w4 : IntKind.wrap .i64 (k + 3 + 1) = k + 4 := by rw [wk (by omega) (by omega)]; omega
  have w5 : IntKind.wrap .i64 (k + 4 + 1) = k + 5 := by rw [wk (by omega) (by omega)]; omega
  have w6 : IntKind.wrap .i64 (k + 5 + 1) = k + 6 := by rw [wk (by omega) (by omega)]; omega
  simp only [mkL_len, dlt h, inB_nat _ i h', Int.toNat_natCast, getD_at _ i _ h', hel, mkV, cond_true, w1, w2, w3, w4, w5, w6, decide_true, Bool.not_true, cond_false, wsucc h hl]
  rfl
theorem cR_len (v : TR) : cR v = 2 + 3 * v.2.2.length := by unfold cR c3C; rw [cntL_const]
theorem P_laws_markVoterS (x : List TR) (hl : x.length < BIG) (k : Int) (h0 : 0 ≤ k) (hb : k + (cntL cR x : Int) < (BIG : Int)) : F_laws_markVoterS x k = some (k + (cntL cR x : Int), mkL cR mkR k x) := by
  unfold F_laws_markVoterS
  rw [mark_loop cR mkR x k h0 hb _ (fun acc i k h ha hm h0 hk => ?_) (fun acc k ha => by simp only [ha, dge, cond_false])]
  · rfl
  · have hlen := cR_len acc[i]
    have hc : cR acc[i] = 2 + cntL c3C acc[i].2.2 := rfl
    have w1 : IntKind.wrap .i64 (k + 1) = k + 1 := wk h0 (by omega)
    have w2 : IntKind.wrap .i64 (k + 1 + 1) = k + 2 := by rw [wk (by omega) (by omega)]; omega
    simp only [dlt h, inB_set, inB_nat acc i h, Int.toNat_natCast, List.set_set, getD_set_same acc i _ _ h, getD_at acc i _ h, cond_true, w1, w2, wsucc h (show acc.length < BIG by omega)]
    rw [P_laws_markChoiceS _ (by omega) _ (by omega) (by omega)]
    simp only [Option.bind_some]
    congr 4
    rw [hc]; omega
theorem P_laws_heldVoterS (x : List TR) (hl : x.length < BIG) (k : Int) (h0 : 0 ≤ k) (hb : k + (cntL cR x : Int) < (BIG : Int)) : F_laws_heldVoterS (mkL cR mkR k x) k = some (k + (cntL cR x : Int)) := by
  unfold F_laws_heldVoterS
  refine held_loop cR mkR x k h0 hb _ (fun i k h h' h0 hk hel => ?_) (fun k => by simp only [mkL_len, dge, cond_false])
  have hlen := cR_len x[i]
  have hc : cR x[i] = 2 + cntL c3C x[i].2.2 := rfl
  have w1 : IntKind.wrap .i64 (k + 1) = k + 1 := wk h0 (by omega)
  have w2 : IntKind.wrap .i64 (k + 1 + 1) = k + 2 := by rw [wk (by omega) (by omega)]; omega
  simp only [mkL_len, dlt h, inB_nat _ i h', Int.toNat_natCast, getD_at _ i _ h', hel, mkR, cond_true, w1, w2, decide_true, Bool.not_true, cond_false, wsucc h hl]
  rw [P_laws_heldChoiceS _ (by omega) _ (by omega) (by omega), Option.bind_some, decide_eq_false (by omega), cond_false, hc]
  congr 3
  omega
theorem P_laws_markInt64SS (x : List (List Int)) (hl : x.length < BIG) (hll : ∀ l, l ∈ x → l.length < BIG) (k : Int) (h0 : 0 ≤ k) (hb : k + (cntL cIs x : Int) < (BIG : Int)) : F_laws_markInt64SS x k = some (k + (cntL cIs x : Int), mkL cIs mkIs k x) := by
  unfold F_laws_markInt64SS
  rw [mark_loop cIs mkIs x k h0 hb _ (fun acc i k h ha hm h0 hk => ?_) (fun acc k ha => by simp only [ha, dge, cond_false])]
  · rfl
  · have hc : cIs acc[i] = cntL c1 acc[i] := rfl
    simp only [dlt h, inB_nat acc i h, Int.toNat_natCast, getD_at acc i _ h, cond_true, wsucc h (show acc.length < BIG by omega)]
    rw [P_laws_markInt64S _ (hll _ hm) _ h0 (by omega)]
    rfl
theorem P_laws_heldInt64SS (x : List (List Int)) (hl : x.length < BIG) (hll : ∀ l, l ∈ x → l.length < BIG) (k : Int) (h0 : 0 ≤ k) (hb : k + (cntL cIs x : Int) < (BIG : Int)) : F_laws_heldInt64SS (mkL cIs mkIs k x) k = some (k + (cntL cIs x : Int)) := by
  unfold F_laws_heldInt64SS
  refine held_loop cIs mkIs x k h0 hb _ (fun i k h h' h0 hk hel => ?_) (fun k => by simp only [mkL_len, dge, cond_false])
  have hc : cIs x[i] = cntL c1 x[i] := rfl
  simp only [mkL_len, dlt h, inB_nat _ i h', Int.toNat_natCast, getD_at _ i _ h', hel, mkIs, cond_true, wsucc h hl]
  rw [P_laws_heldInt64S _ (hll _ (List.getElem_mem h)) _ h0 (by omega), Option.bind_some, decide_eq_false (by omega), cond_false]
  rfl
theorem P_laws_markQuorum (x : TQ) (hl : x.1.length < BIG) (k : Int) (h0 : 0 ≤ k) (hb : k + (cntL c1 x.1 : Int) < (BIG : Int)) : F_laws_markQuorum x k = some (k + (cntL c1 x.1 : Int), (mkL c1 mkI k x.1, x.2)) := by
  unfold F_laws_markQuorum; rw [P_laws_markInt64S _ hl _ h0 hb]; rfl
theorem neg_off {β : Type} {y : Int} (h : 0 ≤ y) (a b : β) : (bif decide (y < 0) then a else b) = b := by rw [decide_eq_false (by omega)]; rfl
theorem P_laws_heldQuorum (x : TQ) (hl : x.1.length < BIG) (k : Int) (h0 : 0 ≤ k) (hb : k + (cntL c1 x.1 : Int) < (BIG : Int)) : F_laws_heldQuorum (mkL c1 mkI k x.1, x.2) k = some (k + (cntL c1 x.1 : Int)) := by
  unfold F_laws_heldQuorum; simp only []
  rw [P_laws_heldInt64S _ hl _ h0 hb, Option.bind_some, neg_off (by omega)]
def mkK (k : Int) (c : TK) : TK :=
  let k1 := k + (cntL c1 c.1.1 : Int); let k2 := k1 + (cntL c1 c.2.1 : Int); let k3 := k2 + (cntL c3N c.2.2.1 : Int); let k4 := k3 + (cntL cR c.2.2.2.1 : Int); let k5 := k4 + (cntL c6V c.2.2.2.2.1 : Int)
  ((mkL c1 mkI k c.1.1, c.1.2), mkL c1 mkI k1 c.2.1, mkL c3N mkN k2 c.2.2.1, mkL cR mkR k3 c.2.2.2.1, mkL c6V mkV k4 c.2.2.2.2.1, mkL cIs mkIs k5 c.2.2.2.2.2)
theorem P_laws_markCluster (c : TK) (hc : Small c) (k : Int) (h0 : 0 ≤ k) (hb : k + (cK c : Int) < (BIG : Int)) : F_laws_markCluster c k = some (k + (cK c : Int), mkK k c) := by
  unfold cK at hb ⊢
  unfold F_laws_markCluster
  rw [P_laws_markQuorum _ (lB hc.keys) _ h0 (by omega), Option.bind_some, P_laws_markInt64S _ (lB hc.bad) _ (by omega) (by omega), Option.bind_some, P_laws_markNodeS _ (lB hc.tree) _ (by omega) (by omega), Option.bind_some,
    P_laws_markVoterS _ (lB hc.voters) _ (by omega) (by omega), Option.bind_some, P_laws_markVoteS _ (lB hc.votes) _ (by omega) (by omega), Option.bind_some, P_laws_markInt64SS _ (lB hc.heard) (fun l hl => lB (hc.heards l hl)) _ (by omega) (by omega), Option.bind_some]
  unfold mkK
  congr 2
  omega
theorem P_laws_heldCluster (c : TK) (hc : Small c) (k : Int) (h0 : 0 ≤ k) (hb : k + (cK c : Int) < (BIG : Int)) : F_laws_heldCluster (mkK k c) k = some (k + (cK c : Int)) := by
  unfold cK at hb ⊢
  unfold F_laws_heldCluster mkK
  simp only []
  rw [P_laws_heldQuorum _ (lB hc.keys) _ h0 (by omega), Option.bind_some, neg_off (by omega), P_laws_heldInt64S _ (lB hc.bad) _ (by omega) (by omega), Option.bind_some, neg_off (by omega), P_laws_heldNodeS _ (lB hc.tree) _ (by omega) (by omega), Option.bind_some, neg_off (by omega),
    P_laws_heldVoterS _ (lB hc.voters) _ (by omega) (by omega), Option.bind_some, neg_off (by omega), P_laws_heldVoteS _ (lB hc.votes) _ (by omega) (by omega), Option.bind_some, neg_off (by omega), P_laws_heldInt64SS _ (lB hc.heard) (fun l hl => lB (hc.heards l hl)) _ (by omega) (by omega), Option.bind_some, neg_off (by omega)]
  congr 1
  omega
theorem P_laws_markClusterResult (x : Int × TK) (hc : Small x.2) (k : Int) (h0 : 0 ≤ k) (hb : k + (cK x.2 : Int) < (BIG : Int)) : F_laws_markClusterResult x k = some (k + (cK x.2 : Int), (x.1, mkK k x.2)) := by
  unfold F_laws_markClusterResult; rw [P_laws_markCluster _ hc _ h0 hb]; rfl
theorem P_laws_heldClusterResult (x : Int × TK) (hc : Small x.2) (k : Int) (h0 : 0 ≤ k) (hb : k + (cK x.2 : Int) < (BIG : Int)) : F_laws_heldClusterResult (x.1, mkK k x.2) k = some (k + (cK x.2 : Int)) := by
  unfold F_laws_heldClusterResult; simp only []
  rw [P_laws_heldCluster _ hc _ h0 hb, Option.bind_some, neg_off (by omega)]
theorem P_laws_markIntsResult (x : Int × List Int) (hl : x.2.length < BIG) (k : Int) (h0 : 0 ≤ k) (hb : k + (cntL c1 x.2 : Int) < (BIG : Int)) : F_laws_markIntsResult x k = some (k + (cntL c1 x.2 : Int), (x.1, mkL c1 mkI k x.2)) := by
  unfold F_laws_markIntsResult; rw [P_laws_markInt64S _ hl _ h0 hb]; rfl
theorem P_laws_heldIntsResult (x : Int × List Int) (hl : x.2.length < BIG) (k : Int) (h0 : 0 ≤ k) (hb : k + (cntL c1 x.2 : Int) < (BIG : Int)) : F_laws_heldIntsResult (x.1, mkL c1 mkI k x.2) k = some (k + (cntL c1 x.2 : Int)) := by
  unfold F_laws_heldIntsResult; simp only []
  rw [P_laws_heldInt64S _ hl _ h0 hb, Option.bind_some, neg_off (by omega)]
theorem P_laws_markChoicesResult (x : Int × List TC) (hl : x.2.length < BIG) (k : Int) (h0 : 0 ≤ k) (hb : k + (cntL c3C x.2 : Int) < (BIG : Int)) : F_laws_markChoicesResult x k = some (k + (cntL c3C x.2 : Int), (x.1, mkL c3C mkC k x.2)) := by
  unfold F_laws_markChoicesResult; rw [P_laws_markChoiceS _ hl _ h0 hb]; rfl
theorem P_laws_heldChoicesResult (x : Int × List TC) (hl : x.2.length < BIG) (k : Int) (h0 : 0 ≤ k) (hb : k + (cntL c3C x.2 : Int) < (BIG : Int)) : F_laws_heldChoicesResult (x.1, mkL c3C mkC k x.2) k = some (k + (cntL c3C x.2 : Int)) := by
  unfold F_laws_heldChoicesResult; simp only []
  rw [P_laws_heldChoiceS _ hl _ h0 hb, Option.bind_some, neg_off (by omega)]
theorem cK_le (c : TK) : cK c ≤ 6 * totCluster c := by
  have e1 : cntL c1 c.1.1 = 1 * c.1.1.length := cntL_const 1 _
  have e2 : cntL c1 c.2.1 = 1 * c.2.1.length := cntL_const 1 _
  have e3 : cntL c3N c.2.2.1 = 3 * c.2.2.1.length := cntL_const 3 _
  have e5 : cntL c6V c.2.2.2.2.1 = 6 * c.2.2.2.2.1.length := cntL_const 6 _
  have e4 : ∀ l : List TR, cntL cR l ≤ 6 * totVoters l := by
    intro l
    induction l with
    | nil => simp [cntL]
    | cons a l ih =>
      have h1 : totVoters (a :: l) = 1 + totVoter a + totVoters l := by simp [totVoters]; omega
      have h2 := cR_len a
      have h3 : totVoter a = a.2.2.length := rfl
      rw [cntL_cons]; omega
  have e6 : ∀ l : List (List Int), cntL cIs l ≤ 6 * totInts l := by
    intro l
    induction l with
    | nil => simp [cntL]
    | cons a l ih =>
      have h1 : totInts (a :: l) = 1 + a.length + totInts l := by simp [totInts]; omega
      have h2 : cIs a = 1 * a.length := cntL_const 1 _
      rw [cntL_cons]; omega
  have := e4 c.2.2.2.1
  have := e6 c.2.2.2.2.2
  unfold cK totCluster
  omega
end CL
end Go.Dx

set_option maxHeartbeats 2000000
namespace Go.Dx
namespace CL
theorem law_FnExactNoFork (x : TK) (hx : bCluster x) : F_laws_FnExactNoFork x = some true := by
  unfold F_laws_FnExactNoFork
  rw [P_laws_szCluster x hx 1048576 (by omega) (by omega), Option.bind_some]
  cases hc : decide (szr (totCluster x) 1048576 < 0) with
  | true => rfl
  | false =>
    have h1 : 0 ≤ szr (totCluster x) 1048576 := by have := of_decide_eq_false hc; omega
    have hl1 := szr_le h1
    have hs := small_of (x := x) (by omega)
    obtain ⟨b, e1, e2⟩ := nofork_same x hs
    rw [cond_false, P_laws_toCluster x (by omega)]
    simp only [Option.bind_some, e1, e2, P_laws_eqCluster x x hx, beqBool, decide_true, Bool.not_true, cond_false]
/-- what a law of a list of numbers asks of both sides -/
theorem ints_tail (x : TK) (hx : bCluster x) (hs : Small x) (ht : totCluster x ≤ 1048576) (r : Int × List Int) (hr : r.2.length < LIM) (S I : Option (Int × List Int)) (e1 : S = some r) (e2 : I = some r) :
    ((F_laws_toCluster x).bind fun (y20 : TK) => S.bind fun (y21 : Int × List Int) => (F_laws_toCluster x).bind fun (y22 : TK) => I.bind fun (y23 : Int × List Int) =>
      (F_laws_eqIntsResult y23 y21).bind fun (y24 : Bool) => bif (!y24) then some false else
      (F_laws_toCluster x).bind fun (y25 : TK) => (F_laws_eqCluster y22 y25).bind fun (y26 : Bool) => bif (!y26) then some false else
      (F_laws_markCluster y22 1).bind fun (y27 : Int × TK) =>
      (bif (decide ((y27.1 : Int) < 0)) then some true else (F_laws_eqIntsResult y23 y21).bind fun (y29 : Bool) => some (!y29) : Option (Bool)).bind fun (j30 : Bool) =>
      bif j30 then some false else
      (F_laws_markIntsResult y23 1).bind fun (y31 : Int × Int × List Int) => (F_laws_heldIntsResult y31.2 1).bind fun (y32 : Int) =>
      bif (decide ((y32 : Int) < 0)) then some false else bif (!decide ((y32 : Int) = y31.1)) then some false else
      (F_laws_toCluster x).bind fun (y33 : TK) => I.bind fun (y34 : Int × List Int) => (F_laws_eqIntsResult y34 y21).bind fun (y35 : Bool) => bif (!y35) then some false else
      (F_laws_heldIntsResult y31.2 1).bind fun (y36 : Int) => bif (decide ((y36 : Int) < 0)) then some false else bif (!decide ((y36 : Int) = y31.1)) then some false else some true) = some true := by
  subst e1 e2
  have hL : LIM = 1073741824 := rfl
  have hb := big_pos
  have hck := cK_le x
  have hcl : cntL c1 r.2 = 1 * r.2.length := cntL_const 1 _
  have hm := P_laws_markIntsResult r (lB hr) 1 (by omega) (by omega)
  have hh := P_laws_heldIntsResult r (lB hr) 1 (by omega) (by omega)
  have hbl : bL bAny r.2 := bL_any (by omega)
  simp only [P_laws_toCluster x ht, Option.bind_some, P_laws_eqIntsResult _ _ hbl, P_laws_eqCluster x x hx, decide_true, Bool.not_true, cond_false, P_laws_markCluster x hs 1 (by omega) (by omega), hm, hh]
  rw [neg_off (by omega)]
  simp only [Option.bind_some, cond_false]
  rw [neg_off (by omega), neg_off (by omega)]
theorem law_FnExactLockedBlocks (x : TK) (hx : bCluster x) : F_laws_FnExactLockedBlocks x = some true := by
  unfold F_laws_FnExactLockedBlocks
  rw [P_laws_szCluster x hx 1048576 (by omega) (by omega), Option.bind_some]
  cases hc : decide (szr (totCluster x) 1048576 < 0) with
  | true => rfl
  | false =>
    have h1 : 0 ≤ szr (totCluster x) 1048576 := by have := of_decide_eq_false hc; omega
    have hl1 := szr_le h1
    have hs := small_of (x := x) (by omega)
    have := ints_tail x hx hs (by omega) (mLB x) (mLB_len x hs) _ _ (P_spec_LockedBlocks x hs) (P_impl_LockedBlocks x hs)
    rw [cond_false]
    rw [P_laws_toCluster x (by omega)] at this ⊢
    exact this
def votedP (key : Int) (x : TV) : Bool := decide (x.1 = key) && decide (x.2.1 = 1)
def mVB (c : TK) (key : Int) : Int × List Int := if mCF c = 0 then (if key ∈ c.1.1 then (0, (c.2.2.2.2.1.filter (votedP key)).map (·.2.2.1)) else (4, [])) else (mCF c, [])
theorem P_impl_VotedBy (c : TK) (hc : Small c) (key : Int) : F_impl_VotedBy c key = some (mVB c key) := by
  unfold F_impl_VotedBy mVB
  simp only [P_impl_ClusterFault c hc, P_Contains_int _ (lB hc.keys), Option.bind_some, bif_code]
  split
  · by_cases hk : key ∈ c.1.1
    · simp only [hk, decide_true, Bool.not_true, cond_false, if_true]
      rw [loop_fold c.2.2.2.2.1 (fun acc x => if votedP key x then acc ++ [x.2.2.1] else acc) (fun t i => (t, i)) (fun t => t) (fun t i => t.length ≤ i) _ (fun i h t ht => ?_) (fun t ht => by simp only [dge, cond_false]) ([] : List Int) (by simp), foldl_filterMap]
      · rfl
      · have h1 := append_one_lim t c.2.2.2.2.1[i].2.2.1 i ht (Nat.lt_trans h hc.votes)
        simp only [dlt h, inB_nat _ i h, getD_toNat _ i _ h, cond_true, wsucc h (lB hc.votes), h1]
        unfold votedP
        cases decide (c.2.2.2.2.1[i].1 = key) <;> cases decide (c.2.2.2.2.1[i].2.1 = 1)
        · exact ⟨rfl, by simp; omega⟩
        · exact ⟨rfl, by simp; omega⟩
        · exact ⟨rfl, by simp; omega⟩
        · exact ⟨rfl, by simp; omega⟩
    · simp [hk]
  · rfl
theorem P_spec_VotedBy (c : TK) (hc : Small c) (key : Int) : F_spec_VotedBy c key = some (mVB c key) := by
  unfold F_spec_VotedBy mVB
  simp only [P_spec_l12Fault c hc, P_spec_l4Among _ (lB hc.keys), Option.bind_some, bif_code]
  split
  · by_cases hk : key ∈ c.1.1
    · simp only [hk, decide_true, Bool.not_true, cond_false, if_true]
      rw [loop_fold c.2.2.2.2.1 (fun acc x => if votedP key x then acc ++ [x.2.2.1] else acc) (fun t i => (i, ((0 : Int), t))) (fun t => ((0 : Int), t)) (fun t i => t.length ≤ i) _ (fun i h t ht => ?_) (fun t ht => by simp only [dge, cond_false]) ([] : List Int) (by simp), foldl_filterMap]
      · rfl
      · have h1 := append_one_lim t c.2.2.2.2.1[i].2.2.1 i ht (Nat.lt_trans h hc.votes)
        simp only [dlt h, inB_nat _ i h, getD_toNat _ i _ h, cond_true, wsucc h (lB hc.votes), h1]
        unfold votedP
        cases decide (c.2.2.2.2.1[i].1 = key) <;> cases decide (c.2.2.2.2.1[i].2.1 = 1)
        · exact ⟨rfl, by simp; omega⟩
        · exact ⟨rfl, by simp; omega⟩
        · exact ⟨rfl, by simp; omega⟩
        · exact ⟨rfl, by simp; omega⟩
    · simp [hk]
  · rfl
theorem mVB_len (c : TK) (hc : Small c) (key : Int) : (mVB c key).2.length < LIM := by
  unfold mVB
  split
  · split
    · simp only [List.length_map]; exact Nat.lt_of_le_of_lt (List.length_filter_le _ _) hc.votes
    · simp [LIM]
  · simp [LIM]
theorem law_FnExactVotedBy (x : TK) (key : Int) (hx : bCluster x) : F_laws_FnExactVotedBy x key = some true := by
  unfold F_laws_FnExactVotedBy
  rw [P_laws_szCluster x hx 1048576 (by omega) (by omega), Option.bind_some]
  cases hc : decide (szr (totCluster x) 1048576 < 0) with
  | true => rfl
  | false =>
    have h1 : 0 ≤ szr (totCluster x) 1048576 := by have := of_decide_eq_false hc; omega
    have hl1 := szr_le h1
    have hs := small_of (x := x) (by omega)
    have := ints_tail x hx hs (by omega) (mVB x key) (mVB_len x hs key) _ _ (P_spec_VotedBy x hs key) (P_impl_VotedBy x hs key)
    rw [cond_false]
    rw [P_laws_toCluster x (by omega)] at this ⊢
    exact this
end CL
end Go.Dx

set_option maxHeartbeats 2000000
namespace Go.Dx
namespace CL
theorem mCF_heard {c : TK} (h : mCF c = 0) : mHeard c = 0 := by
  have ht := mCF_tree h
  unfold mCF at h
  by_cases h1 : mQF c.1 = 0
  · rw [if_pos h1] at h
    cases h2 : mMany c with
    | true => rw [h2] at h; cases h
    | false =>
      rw [h2] at h
      by_cases h3 : mBF c.2.1 = 0
      · by_cases h4 : mVoters c = 0
        · by_cases h5 : mVotes c = 0
          · simpa [h3, ht, h4, h5] using h
          · simp [h3, ht, h4, h5] at h
        · simp [h3, ht, h4] at h
      · simp [h3] at h
  · rw [if_neg h1] at h; exact absurd h h1
theorem heard_in {c : TK} (hc : Small c) (h : mCF c = 0) {l : List Int} (hl : l ∈ c.2.2.2.2.2) : ∀ a, a ∈ l → inB a c.2.2.2.2.1 = true := by
  intro a ha
  have hh := mCF_heard h
  obtain ⟨i, hi, rfl⟩ := List.getElem_of_mem hl
  have hz := code_zero hh i _ (List.getElem?_eq_getElem hi)
  unfold mHeardL at hz
  have hv := lB hc.votes
  have hbig : BIG = 4611686018427387904 := rfl
  by_cases hany : (c.2.2.2.2.2[i].any fun a => !mIn a 0 (IntKind.wrap .i64 ((c.2.2.2.2.1.length : Int) - 1))) = true
  · rw [if_pos hany] at hz; cases hz
  · simp only [List.any_eq_true, not_exists, not_and, Bool.not_eq_true', Bool.not_eq_false] at hany
    have := hany a ha
    rw [wrap_id (by omega) (by omega)] at this
    simp only [mIn, Bool.and_eq_true, decide_eq_true_eq] at this
    simp only [inB, Bool.and_eq_true, decide_eq_true_eq]
    omega
def voteAt (c : TK) (a : Int) : TV := List.getD c.2.2.2.2.1 (Int.toNat a) (0, (0, (0, ((0, 0), 0))))
def heardBy (c : TK) (k : Int) : List Int := List.getD c.2.2.2.2.2 (Int.toNat k) []
theorem hearer_in {c : TK} (hc : Small c) {k : Int} (h : mIn k 0 (IntKind.wrap .i64 ((c.2.2.2.2.2.length : Int) - 1)) = true) : inB k c.2.2.2.2.2 = true ∧ heardBy c k ∈ c.2.2.2.2.2 := by
  have hv := lB hc.heard
  have hbig : BIG = 4611686018427387904 := rfl
  rw [wrap_id (by omega) (by omega)] at h
  simp only [mIn, Bool.and_eq_true, decide_eq_true_eq] at h
  refine ⟨by simp only [inB, Bool.and_eq_true, decide_eq_true_eq]; omega, ?_⟩
  unfold heardBy
  rw [getD_nat _ _ _ (show k.toNat < c.2.2.2.2.2.length by omega)]
  exact List.getElem_mem _
def mLA (c : TK) (k : Int) : Int × List Int := if mCF c = 0 then (if mIn k 0 (IntKind.wrap .i64 ((c.2.2.2.2.2.length : Int) - 1)) then (0, mLocks c ((heardBy c k).map (voteAt c))) else (3, [])) else (mCF c, [])
theorem P_impl_LocksAt (c : TK) (hc : Small c) (k : Int) : F_impl_LocksAt c k = some (mLA c k) := by
  unfold F_impl_LocksAt mLA F_impl_Cluster_isHearer
  simp only [P_impl_ClusterFault c hc, P_impl_within, Option.bind_some, bif_code]
  split
  · rename_i h
    cases hk : mIn k 0 (IntKind.wrap .i64 ((c.2.2.2.2.2.length : Int) - 1)) with
    | false => rfl
    | true =>
      obtain ⟨hi, hm⟩ := hearer_in hc hk
      have hin := heard_in hc h hm
      have hll := hc.heards _ hm
      simp only [Bool.not_true, cond_false, hi, cond_true, if_true]
      rw [show List.getD c.2.2.2.2.2 (Int.toNat k) [] = heardBy c k from rfl]
      generalize heardBy c k = l at hin hll ⊢
      rw [loop_fold l (fun acc a => acc ++ [voteAt c a]) (fun t i => (t, i)) (fun t => t) (fun t i => t.length ≤ i) _ (fun i h t ht => ?_) (fun t ht => by simp only [dge, cond_false]) ([] : List TV) (by simp), foldl_map, Option.bind_some, List.nil_append, P_impl_lockedBy c hc _ (by rw [List.length_map]; exact lB hll)]
      · rfl
      · have h1 := append_one_lim t (voteAt c l[i]) i ht (Nat.lt_trans h hll)
        have h2 := hin l[i] (List.getElem_mem h)
        unfold voteAt at h1 ⊢
        simp only [dlt h, inB_nat _ i h, getD_toNat _ i _ h, cond_true, wsucc h (lB hll), h1, h2]
        exact ⟨rfl, by simp; omega⟩
  · rfl
theorem P_spec_LocksAt (c : TK) (hc : Small c) (k : Int) : F_spec_LocksAt c k = some (mLA c k) := by
  unfold F_spec_LocksAt mLA F_spec_l12Known
  simp only [P_spec_l12Fault c hc, P_spec_l1In, Option.bind_some, bif_code]
  split
  · rename_i h
    cases hk : mIn k 0 (IntKind.wrap .i64 ((c.2.2.2.2.2.length : Int) - 1)) with
    | false => rfl
    | true =>
      obtain ⟨hi, hm⟩ := hearer_in hc hk
      have hin := heard_in hc h hm
      have hll := hc.heards _ hm
      simp only [Bool.not_true, cond_false, hi, cond_true, if_true]
      rw [show List.getD c.2.2.2.2.2 (Int.toNat k) [] = heardBy c k from rfl]
      generalize heardBy c k = l at hin hll ⊢
      rw [loop_fold l (fun acc a => acc ++ [voteAt c a]) (fun t i => (t, i)) (fun t => t) (fun t i => t.length ≤ i) _ (fun i h t ht => ?_) (fun t ht => by simp only [dge, cond_false]) ([] : List TV) (by simp), foldl_map, Option.bind_some, Option.bind_some, List.nil_append, P_spec_l12Locks c hc _ (by rw [List.length_map]; exact lB hll)]
      · rfl
      · have h1 := append_one_lim t (voteAt c l[i]) i ht (Nat.lt_trans h hll)
        have h2 := hin l[i] (List.getElem_mem h)
        unfold voteAt at h1 ⊢
        simp only [dlt h, inB_nat _ i h, getD_toNat _ i _ h, cond_true, wsucc h (lB hll), h1, h2]
        exact ⟨rfl, by simp; omega⟩
  · rfl
theorem mLA_len (c : TK) (hc : Small c) (k : Int) : (mLA c k).2.length < LIM := by
  unfold mLA
  split
  · split
    · exact Nat.lt_of_le_of_lt (mLocks_len _ _) hc.tree
    · simp [LIM]
  · simp [LIM]
theorem law_FnExactLocksAt (x : TK) (key : Int) (hx : bCluster x) : F_laws_FnExactLocksAt x key = some true := by
  unfold F_laws_FnExactLocksAt
  rw [P_laws_szCluster x hx 1048576 (by omega) (by omega), Option.bind_some]
  cases hc : decide (szr (totCluster x) 1048576 < 0) with
  | true => rfl
  | false =>
    have h1 : 0 ≤ szr (totCluster x) 1048576 := by have := of_decide_eq_false hc; omega
    have hl1 := szr_le h1
    have hs := small_of (x := x) (by omega)
    have := ints_tail x hx hs (by omega) (mLA x key) (mLA_len x hs key) _ _ (P_spec_LocksAt x hs key) (P_impl_LocksAt x hs key)
    rw [cond_false]
    rw [P_laws_toCluster x (by omega)] at this ⊢
    exact this
/-! the best block -/
theorem tree_high {t : List TN} (h : mTree t = 0) : ∀ i (hi : i < t.length), 1 ≤ t[i].2.2 := by
  unfold mTree at h
  by_cases hl : (60 : Int) < (t.length : Int)
  · rw [if_pos hl] at h; cases h
  · rw [if_neg hl] at h
    intro i hi
    have := code_zero h i _ (List.getElem?_eq_getElem hi)
    unfold mNode at this
    split at this
    · rename_i hh
      simp only [Bool.and_eq_true, mIn, decide_eq_true_eq] at hh
      exact hh.2.1
    · cases this
def highT (t : List TN) (k : Int) : Int := (List.getD t (Int.toNat (idT t k)) (0, (0, 0))).2.2
def mBad (t : List TN) (n : TN) (k : Int) : Bool := !mRel t k n.1 || decide (n.2.2 < highT t k)
def mFits (t : List TN) (n : TN) (l : List Int) : Bool := !l.any (mBad t n)
theorem P_spec_l9Fits (t : List TN) (hR : Right t) (n : TN) (l : List Int) (hl : l.length < BIG) (hin : ∀ k, k ∈ l → ¬ idT t k < 0) : F_spec_l9Fits t n l = some (mFits t n l) := by
  unfold F_spec_l9Fits mFits
  rw [loop_first l (fun _ k => if mBad t n k then some false else none) _ (fun i h => ?_) (by simp only [dge, cond_false]), first_any, bind_first]
  · cases l.any (mBad t n) <;> rfl
  · simp only [dlt h, inB_nat _ i h, getD_toNat _ i _ h, cond_true, P_spec_l9Related t hR, P_spec_l9At t (right_BIG hR), Option.bind_some, wsucc h hl, idT_inB (hin _ (List.getElem_mem h))]
    unfold mBad highT
    rw [mRel_comm t l[i] n.1]
    cases mRel t n.1 l[i]
    · rfl
    · generalize (List.getD t (Int.toNat (idT t l[i])) (0, (0, 0))).2.2 = hh
      by_cases hd : n.2.2 < hh <;> simp [hd]
theorem P_bestOf_c1 (t : List TN) (hR : Right t) (n : TN) (k : Int) (hin : ¬ idT t k < 0) : F_impl_bestOf_c1 k t n = some (mBad t n k) := by
  unfold F_impl_bestOf_c1 mBad highT
  simp only [P_impl_related t hR, P_impl_findNode t (right_BIG hR), Option.bind_some, idT_inB hin, cond_true]
  cases mRel t k n.1
  · rfl
  · by_cases hd : n.2.2 < (List.getD t (Int.toNat (idT t k)) (0, (0, 0))).2.2 <;> simp [hd]
def bestStep (t : List TN) (l : List Int) (b n : TN) : TN := if mFits t n l && decide (b.2.2 < n.2.2) then n else b
theorem P_impl_bestOf (t : List TN) (hR : Right t) (l : List Int) (hl : l.length < BIG) (hin : ∀ k, k ∈ l → ¬ idT t k < 0) : F_impl_bestOf t l = some (t.foldl (bestStep t l) (0, 0, 0)).1 := by
  unfold F_impl_bestOf
  rw [loop_fold t (bestStep t l) (fun b i => (i, b)) (fun b => b) (fun _ _ => True) _ (fun i h b _ => ?_) (fun b _ => by simp only [dge, cond_false]) (0, 0, 0) trivial]
  · rfl
  · refine ⟨?_, trivial⟩
    simp only [dlt h, inB_nat _ i h, getD_toNat _ i _ h, cond_true, wsucc h (right_BIG hR)]
    rw [P_ContainsFunc_int l hl (mBad t t[i]) _ (fun k hk => by rw [P_bestOf_c1 t hR _ _ (hin k hk)]; rfl), Option.bind_some]
    unfold bestStep mFits
    cases l.any (mBad t t[i])
    · by_cases hd : b.2.2 < t[i].2.2 <;> simp [hd]
    · simp
def bestIdx (t : List TN) (l : List Int) (b : Int) (i : Int) : Int := if mFits t (List.getD t (Int.toNat i) (0, (0, 0))) l && (decide (b < 0) || decide ((List.getD t (Int.toNat b) (0, (0, 0))).2.2 < (List.getD t (Int.toNat i) (0, (0, 0))).2.2)) then i else b
theorem P_spec_l9Best (t : List TN) (hR : Right t) (hH : ∀ i (hi : i < t.length), 1 ≤ t[i].2.2) (l : List Int) (hl : l.length < BIG) (hin : ∀ k, k ∈ l → ¬ idT t k < 0) : F_spec_l9Best t l = some (t.foldl (bestStep t l) (0, 0, 0)).1 := by
  unfold F_spec_l9Best
  generalize hf : (fun (s23 : Int × Int) => _) = f
  have hB := right_BIG hR
  have key : ∀ (n i : Nat) (k : Int) (b : TN), i + n = t.length → ((k = -1 ∧ b = (0, 0, 0)) ∨ ∃ (j : Nat) (hj : j < t.length), k = (j : Int) ∧ b = t[j]) →
      ∃ k', loopO f (k, (i : Int)) = some k' ∧ ((k' = -1 ∧ (t.drop i).foldl (bestStep t l) b = (0, 0, 0)) ∨ ∃ (j : Nat) (hj : j < t.length), k' = (j : Int) ∧ (t.drop i).foldl (bestStep t l) b = t[j]) := by
    intro n
    induction n with
    | zero =>
      intro i k b hi hkb
      obtain rfl : i = t.length := by omega
      refine ⟨k, loopO_out (by rw [← hf]; simp only [dge, cond_false]), ?_⟩
      rw [List.drop_length]
      exact hkb
    | succ n ih =>
      intro i k b hi hkb
      have h : i < t.length := by omega
      rw [List.drop_eq_getElem_cons h, List.foldl_cons]
      have hstep : f (k, (i : Int)) = some (.inl (if mFits t t[i] l && decide (b.2.2 < t[i].2.2) then (i : Int) else k, ((i + 1 : Nat) : Int))) := by
        rw [← hf]
        simp only [dlt h, inB_nat _ i h, getD_toNat _ i _ h, cond_true, P_spec_l9Fits t hR _ l hl hin, Option.bind_some, wsucc h hB]
        rcases hkb with ⟨rfl, rfl⟩ | ⟨j, hj, rfl, rfl⟩
        · have h1 := hH i h
          have hd : (0 : Int) < t[i].2.2 := by omega
          cases mFits t t[i] l <;> simp [hd]
        · have hneg : ¬ (j : Int) < 0 := by omega
          cases mFits t t[i] l
          · simp
          · simp only [hneg, decide_false, cond_true, cond_false, inB_nat _ j hj, getD_toNat _ j _ hj, Option.bind_some, Bool.true_and]
            by_cases hd : t[j].2.2 < t[i].2.2 <;> simp [hd]
      obtain ⟨k', h1, h2⟩ := ih (i + 1) (if mFits t t[i] l && decide (b.2.2 < t[i].2.2) then (i : Int) else k) (bestStep t l b t[i]) (by omega) (by
        unfold bestStep
        cases hq : mFits t t[i] l && decide (b.2.2 < t[i].2.2) with
        | true => exact .inr ⟨i, h, by simp, by simp⟩
        | false => simpa using hkb)
      exact ⟨k', (loopO_next hstep).trans h1, h2⟩
  obtain ⟨k', h1, h2⟩ := key t.length 0 (-1) (0, 0, 0) (by omega) (.inl ⟨rfl, rfl⟩)
  rw [show ((0 : Nat) : Int) = 0 from rfl] at h1
  rw [h1, Option.bind_some]
  simp only [List.drop_zero] at h2
  rcases h2 with ⟨rfl, h2⟩ | ⟨j, hj, rfl, h2⟩
  · rw [h2]; rfl
  · rw [h2]
    have hneg : ¬ (j : Int) < 0 := by omega
    simp only [hneg, decide_false, cond_false, inB_nat _ j hj, getD_toNat _ j _ hj, cond_true]
def mBest (t : List TN) (l : List Int) : Int × Int := if mTree t = 0 then (if (20 : Int) < (l.length : Int) then (2, 0) else if l.any (fun k => decide (idT t k < 0)) then (4, 0) else (0, (t.foldl (bestStep t l) (0, 0, 0)).1)) else (mTree t, 0)
theorem P_impl_BestOf (t : List TN) (ht : t.length < BIG) (l : List Int) (hl : l.length < BIG) : F_impl_BestOf t l = some (mBest t l) := by
  unfold F_impl_BestOf mBest
  simp only [P_impl_TreeFault t ht, Option.bind_some, bif_code]
  split
  · rename_i h0
    by_cases h20 : (20 : Int) < (l.length : Int)
    · simp [h20]
    · rw [P_ContainsFunc_int l hl (fun k => decide (idT t k < 0)) _ (fun a _ => by unfold F_impl_BestOf_c1 F_impl_isIn; rw [P_impl_findNode t ht]; simp only [Option.bind_some, nonneg_dec, Bool.not_not]), Option.bind_some]
      simp only [h20, decide_false, cond_false, if_false]
      cases hany : l.any (fun k => decide (idT t k < 0)) with
      | true => rfl
      | false =>
        have hin : ∀ k, k ∈ l → ¬ idT t k < 0 := fun k hk => by
          rw [List.any_eq_false] at hany
          simpa using hany k hk
        rw [P_impl_bestOf t (right_of h0) l hl hin]; rfl
  · rfl
theorem P_spec_BestOf (t : List TN) (ht : t.length < BIG) (l : List Int) (hl : l.length < BIG) : F_spec_BestOf t l = some (mBest t l) := by
  unfold F_spec_BestOf mBest
  simp only [P_spec_l9Fault t ht, Option.bind_some, bif_code]
  split
  · rename_i h0
    by_cases h20 : (20 : Int) < (l.length : Int)
    · simp [h20]
    · simp only [h20, decide_false, cond_false, if_false]
      rw [loop_first l (fun _ k => if decide (idT t k < 0) then some ((4, 0) : Int × Int) else none) _ (fun i h => by
        simp only [dlt h, inB_nat _ i h, getD_toNat _ i _ h, cond_true, P_spec_l9At t ht, Option.bind_some, wsucc h hl]
        by_cases hd : idT t l[i] < 0 <;> simp [hd]) (by simp only [dge, cond_false]), first_any, bind_first]
      cases hany : l.any (fun k => decide (idT t k < 0)) with
      | true => rfl
      | false =>
        have hin : ∀ k, k ∈ l → ¬ idT t k < 0 := fun k hk => by
          rw [List.any_eq_false] at hany
          simpa using hany k hk
        simp only [Bool.false_eq_true, if_false]
        rw [P_spec_l9Best t (right_of h0) (tree_high h0) l hl hin]; rfl
  · rfl
theorem bestfor_same (c : TK) (hc : Small c) (k : Int) : ∃ r, F_spec_BestFor c k = some r ∧ F_impl_BestFor c k = some r := by
  unfold F_spec_BestFor F_impl_BestFor
  simp only [P_spec_LocksAt c hc, P_impl_LocksAt c hc, Option.bind_some, P_spec_BestOf _ (lB hc.tree) _ (lB (mLA_len c hc k)), P_impl_BestOf _ (lB hc.tree) _ (lB (mLA_len c hc k))]
  cases decide ((mLA c k).1 = 0)
  · exact ⟨_, rfl, rfl⟩
  · exact ⟨_, rfl, rfl⟩
theorem law_FnExactBestFor (x : TK) (key : Int) (hx : bCluster x) : F_laws_FnExactBestFor x key = some true := by
  unfold F_laws_FnExactBestFor
  rw [P_laws_szCluster x hx 1048576 (by omega) (by omega), Option.bind_some]
  cases hc : decide (szr (totCluster x) 1048576 < 0) with
  | true => rfl
  | false =>
    have h1 : 0 ≤ szr (totCluster x) 1048576 := by have := of_decide_eq_false hc; omega
    have hl1 := szr_le h1
    have hs := small_of (x := x) (by omega)
    obtain ⟨b, e1, e2⟩ := bestfor_same x hs key
    rw [cond_false, P_laws_toCluster x (by omega)]
    simp only [Option.bind_some, e1, e2, P_laws_eqCluster x x hx, P_laws_eqIntResult, decide_true, Bool.not_true, cond_false]
end CL
end Go.Dx

set_option maxHeartbeats 2000000
namespace Go.Dx
namespace CL
theorem app_nil_lim {α : Type} {l : List α} (h : l.length < LIM) : decide (List.length ([] : List α) + List.length l ≤ LIM) = true := by simp; omega
theorem P_spec_l11Copy (v : TR) (h : v.2.2.length < LIM) : F_spec_l11Copy v = some v := by
  unfold F_spec_l11Copy; rw [app_nil_lim h]; rfl
theorem P_impl_ownVoter (v : TR) (h : v.2.2.length < LIM) : F_impl_ownVoter v = some v := by
  unfold F_impl_ownVoter; rw [P_Clone_choice _ (Nat.le_of_lt h)]; rfl
theorem foldl_id {α : Type} (l : List α) : l.foldl (fun acc a => acc ++ [a]) [] = l := by
  have := foldl_map (fun a : α => a) l []
  simpa using this
theorem P_spec_l12Copy (c : TK) (hc : Small c) : F_spec_l12Copy c = some c := by
  unfold F_spec_l12Copy
  rw [app_nil_lim hc.keys, app_nil_lim hc.bad, app_nil_lim hc.tree, app_nil_lim hc.votes]
  simp only [cond_true]
  rw [loop_fold c.2.2.2.1 (fun acc v => acc ++ [v]) (fun t i => (t, i)) (fun t => t) (fun t i => t.length ≤ i) _ (fun i h t ht => ?_) (fun t ht => by simp only [dge, cond_false]) ([] : List TR) (by simp), Option.bind_some,
    loop_fold c.2.2.2.2.2 (fun acc v => acc ++ [v]) (fun t i => (t, i)) (fun t => t) (fun t i => t.length ≤ i) _ (fun i h t ht => ?_) (fun t ht => by simp only [dge, cond_false]) ([] : List (List Int)) (by simp), Option.bind_some, foldl_id, foldl_id]
  · rfl
  · have h1 := append_one_lim t c.2.2.2.2.2[i] i ht (Nat.lt_trans h hc.heard)
    have h2 := app_nil_lim (hc.heards _ (List.getElem_mem h))
    have e : (List.append [] c.2.2.2.2.2[i]) = c.2.2.2.2.2[i] := rfl
    simp only [dlt h, inB_nat _ i h, getD_toNat _ i _ h, cond_true, wsucc h (lB hc.heard), h2, e, h1]
    exact ⟨rfl, by simp; omega⟩
  · have h1 := append_one_lim t c.2.2.2.1[i] i ht (Nat.lt_trans h hc.voters)
    simp only [dlt h, inB_nat _ i h, getD_toNat _ i _ h, cond_true, wsucc h (lB hc.voters), P_spec_l11Copy _ (hc.choices _ (List.getElem_mem h)), Option.bind_some, h1]
    exact ⟨rfl, by simp; omega⟩
theorem P_impl_ownCluster (c : TK) (hc : Small c) : F_impl_ownCluster c = some c := by
  unfold F_impl_ownCluster
  rw [P_Clone_int _ (Nat.le_of_lt hc.keys), Option.bind_some, P_Clone_int _ (Nat.le_of_lt hc.bad), Option.bind_some, P_Clone_node _ (Nat.le_of_lt hc.tree), Option.bind_some, P_Clone_vote _ (Nat.le_of_lt hc.votes), Option.bind_some]
  rw [loop_fold c.2.2.2.1 (fun acc v => acc ++ [v]) (fun t i => (i, ((c.1.1, c.1.2), c.2.1, c.2.2.1, t, c.2.2.2.2.1, ([] : List (List Int))))) (fun t => ((c.1.1, c.1.2), c.2.1, c.2.2.1, t, c.2.2.2.2.1, ([] : List (List Int)))) (fun t i => t.length ≤ i) _ (fun i h t ht => ?_) (fun t ht => by simp only [dge, cond_false]) ([] : List TR) (by simp), Option.bind_some, foldl_id,
    loop_fold c.2.2.2.2.2 (fun acc v => acc ++ [v]) (fun t i => (i, ((c.1.1, c.1.2), c.2.1, c.2.2.1, c.2.2.2.1, c.2.2.2.2.1, t))) (fun t => ((c.1.1, c.1.2), c.2.1, c.2.2.1, c.2.2.2.1, c.2.2.2.2.1, t)) (fun t i => t.length ≤ i) _ (fun i h t ht => ?_) (fun t ht => by simp only [dge, cond_false]) ([] : List (List Int)) (by simp), Option.bind_some, foldl_id]
  · have h1 := append_one_lim t c.2.2.2.2.2[i] i ht (Nat.lt_trans h hc.heard)
    simp only [dlt h, inB_nat _ i h, getD_toNat _ i _ h, cond_true, wsucc h (lB hc.heard), P_Clone_int _ (Nat.le_of_lt (hc.heards _ (List.getElem_mem h))), Option.bind_some, h1]
    exact ⟨rfl, by simp; omega⟩
  · have h1 := append_one_lim t c.2.2.2.1[i] i ht (Nat.lt_trans h hc.voters)
    simp only [dlt h, inB_nat _ i h, getD_toNat _ i _ h, cond_true, wsucc h (lB hc.voters), P_impl_ownVoter _ (hc.choices _ (List.getElem_mem h)), Option.bind_some, h1]
    exact ⟨rfl, by simp; omega⟩
def noK : TK := (([], 0), [], [], [], [], [])
def errK (k : Int) : Int × TK := (k, noK)
theorem P_spec_l12Err (k : Int) : F_spec_l12Err k = some (errK k) := rfl
/-- a right tree is not too long -/
theorem tree_60 {t : List TN} (h : mTree t = 0) : t.length ≤ 60 := (right_of h).len
def mAdd (t : List TN) (n : TN) : Int × List TN := if mNode t n = 0 then (if t.length = 60 then (2, []) else (0, t ++ [n])) else (mNode t n, [])
theorem P_impl_addNode (t : List TN) (h : t.length < 1000) (n : TN) : F_impl_addNode t n = some ((mAdd t n).2, (mAdd t n).1) := by
  have hL : LIM = 1073741824 := rfl
  unfold F_impl_addNode mAdd
  rw [P_impl_nodeFault t (by unfold BIG; omega), Option.bind_some, bif_code]
  split
  · by_cases h6 : t.length = 60
    · simp [h6]
    · rw [if_neg h6, show decide ((t.length : Int) = 60) = false by simp; omega, cond_false, P_Clone_node t (by omega), Option.bind_some, append_one_lim t n 1000 (by omega) (by omega)]
      rfl
  · rfl
theorem P_spec_AddNode (t : List TN) (h : mTree t = 0) (n : TN) : F_spec_AddNode t n = some (mAdd t n) := by
  have hL : LIM = 1073741824 := rfl
  have h60 := tree_60 h
  have hB : t.length < BIG := by unfold BIG; omega
  unfold F_spec_AddNode mAdd
  rw [P_spec_l9Fault t hB, Option.bind_some, h]
  simp only [decide_true, Bool.not_true, cond_false]
  rw [P_spec_l9Node t hB, Option.bind_some, bif_code]
  split
  · by_cases h6 : t.length = 60
    · simp [h6]
    · have e : List.append [] t = t := rfl
      rw [if_neg h6, show decide ((60 : Int) ≤ (t.length : Int)) = false by simp; omega, cond_false, app_nil_lim (by omega), cond_true, e, append_one_lim t n 1000 (by omega) (by omega)]
      rfl
  · rfl
def mGrow (c : TK) (n : TN) : Int × TK := if mCF c = 0 then (if (mAdd c.2.2.1 n).1 = 0 then (0, (c.1, c.2.1, (mAdd c.2.2.1 n).2, c.2.2.2)) else errK (mAdd c.2.2.1 n).1) else errK (mCF c)
theorem P_impl_GrowTree (c : TK) (hc : Small c) (n : TN) : F_impl_GrowTree c n = some (mGrow c n) := by
  unfold F_impl_GrowTree mGrow
  rw [P_impl_ClusterFault c hc, Option.bind_some, bif_code]
  split
  · rename_i h
    have := tree_60 (mCF_tree h)
    rw [P_impl_addNode _ (by omega), Option.bind_some, bif_code]
    split
    · rw [P_impl_ownCluster c hc]; rfl
    · rfl
  · rfl
theorem P_spec_GrowTree (c : TK) (hc : Small c) (n : TN) : F_spec_GrowTree c n = some (mGrow c n) := by
  unfold F_spec_GrowTree mGrow
  rw [P_spec_l12Fault c hc, Option.bind_some, bif_code]
  split
  · rename_i h
    rw [P_spec_AddNode _ (mCF_tree h), Option.bind_some, bif_code]
    split
    · rw [P_spec_l12Copy c hc]; rfl
    · rfl
  · rfl
theorem small_lt {x : TK} (h : totCluster x < LIM) : Small x := by
  simp only [totCluster] at h
  have e4 : x.2.2.2.1.length ≤ totVoters x.2.2.2.1 := Nat.le_add_right _ _
  have e6 : x.2.2.2.2.2.length ≤ totInts x.2.2.2.2.2 := Nat.le_add_right _ _
  refine ⟨by omega, by omega, by omega, by omega, fun v hv => ?_, by omega, by omega, fun l hl => ?_⟩
  · have h1 := le_sum totVoter _ v hv
    have h2 : (x.2.2.2.1.map totVoter).sum ≤ totVoters x.2.2.2.1 := Nat.le_add_left _ _
    have h3 : totVoter v = v.2.2.length := rfl
    omega
  · have h1 := le_sum List.length _ l hl
    have h2 : (x.2.2.2.2.2.map List.length).sum ≤ totInts x.2.2.2.2.2 := Nat.le_add_left _ _
    omega
theorem tot_err (k : Int) : totCluster (errK k).2 = 0 := rfl
theorem mAdd_len (t : List TN) (n : TN) : (mAdd t n).2.length ≤ t.length + 1 := by
  unfold mAdd
  split
  · split
    · simp
    · simp
  · simp
theorem mGrow_tot (c : TK) (n : TN) : totCluster (mGrow c n).2 ≤ totCluster c + 1 := by
  unfold mGrow
  split
  · split
    · have := mAdd_len c.2.2.1 n
      simp only [totCluster]; omega
    · rw [tot_err]; omega
  · rw [tot_err]; omega
/-- what the law asks, where both sides give one and the same cluster -/
theorem tail_facts {r : Int × TK} (ht : totCluster r.2 ≤ 4000000) : bCluster r.2 ∧ F_laws_markClusterResult r 1 = some (1 + (cK r.2 : Int), (r.1, mkK 1 r.2)) ∧ F_laws_heldClusterResult (r.1, mkK 1 r.2) 1 = some (1 + (cK r.2 : Int)) := by
  have hL : LIM = 1073741824 := rfl
  have hb := big_pos
  have hs := small_lt (x := r.2) (by omega)
  have hck := cK_le r.2
  exact ⟨bCluster_small hs, P_laws_markClusterResult r hs 1 (by omega) (by omega), P_laws_heldClusterResult r hs 1 (by omega) (by omega)⟩
theorem law_FnExactGrowTree (x : TK) (n : TN) (hx : bCluster x) : F_laws_FnExactGrowTree x n = some true := by
  unfold F_laws_FnExactGrowTree
  rw [P_laws_szCluster x hx 1048576 (by omega) (by omega), Option.bind_some]
  cases hc : decide (szr (totCluster x) 1048576 < 0) with
  | true => rfl
  | false =>
    have h1 : 0 ≤ szr (totCluster x) 1048576 := by have := of_decide_eq_false hc; omega
    have hl1 := szr_le h1
    have hs := small_of (x := x) (by omega)
    have hb := big_pos
    have hck := cK_le x
    obtain ⟨hbl, hm, hh⟩ := tail_facts (r := mGrow x n) (by have := mGrow_tot x n; omega)
    rw [cond_false]
    simp only [P_laws_toCluster x (by omega), P_laws_toNode, P_spec_GrowTree x hs, P_impl_GrowTree x hs, Option.bind_some, P_laws_eqClusterResult _ _ hbl, P_laws_eqCluster x x hx, decide_true, Bool.not_true, cond_false, P_laws_markCluster x hs 1 (by omega) (by omega), hm, hh]
    rw [neg_off (by omega)]
    simp only [Option.bind_some, cond_false]
    rw [neg_off (by omega), neg_off (by omega)]
theorem mCF_votes {c : TK} (h : mCF c = 0) : c.2.2.2.2.1.length ≤ 100 := by
  unfold mCF at h
  by_cases h1 : mQF c.1 = 0
  · rw [if_pos h1] at h
    cases h2 : mMany c with
    | true => rw [h2] at h; cases h
    | false =>
      unfold mMany at h2
      simp only [Bool.or_eq_false_iff, decide_eq_false_iff_not] at h2
      omega
  · rw [if_neg h1] at h; exact absurd h h1
def withVote (c : TK) (x : TV) : TK := (c.1, c.2.1, c.2.2.1, c.2.2.2.1, c.2.2.2.2.1 ++ [x], c.2.2.2.2.2)
def mPut (c : TK) (x : TV) : Int × TK := if x ∈ c.2.2.2.2.1 then (0, c) else if c.2.2.2.2.1.length = 100 then errK 2 else (0, withVote c x)
theorem P_spec_l12Put (c : TK) (hv : c.2.2.2.2.1.length ≤ 100) (x : TV) : F_spec_l12Put c x = some (mPut c x) := by
  have hL : LIM = 1073741824 := rfl
  unfold F_spec_l12Put mPut
  rw [P_spec_l12Has _ (by unfold BIG; omega), Option.bind_some]
  by_cases hm : x ∈ c.2.2.2.2.1
  · simp [hm]
  · rw [decide_eq_false hm, if_neg hm, cond_false]
    by_cases h1 : c.2.2.2.2.1.length = 100
    · rw [if_pos h1, show decide ((100 : Int) ≤ (c.2.2.2.2.1.length : Int)) = true by simp; omega]; rfl
    · rw [if_neg h1, show decide ((100 : Int) ≤ (c.2.2.2.2.1.length : Int)) = false by simp; omega, cond_false, append_one_lim _ x 100 hv (by omega)]; rfl
theorem P_impl_put (c : TK) (hv : c.2.2.2.2.1.length ≤ 100) (x : TV) : F_impl_Cluster_put c x = some (if x ∈ c.2.2.2.2.1 then (0, c) else if c.2.2.2.2.1.length = 100 then (2, c) else (0, withVote c x)) := by
  have hL : LIM = 1073741824 := rfl
  unfold F_impl_Cluster_put
  rw [P_Contains_vote _ (by unfold BIG; omega), Option.bind_some]
  by_cases hm : x ∈ c.2.2.2.2.1
  · simp [hm]
  · rw [decide_eq_false hm, if_neg hm, cond_false]
    by_cases h1 : c.2.2.2.2.1.length = 100
    · rw [if_pos h1, show decide ((c.2.2.2.2.1.length : Int) = 100) = true by simp; omega]; rfl
    · rw [if_neg h1, show decide ((c.2.2.2.2.1.length : Int) = 100) = false by simp; omega, cond_false, append_one_lim _ x 100 hv (by omega)]; rfl
/-- the put at the program's end: its code, or the cluster -/
theorem put_end (c : TK) (hv : c.2.2.2.2.1.length ≤ 100) (x : TV) : ((F_impl_Cluster_put c x).bind fun (y18 : Int × TK) => bif (!decide ((y18.1 : Int) = 0)) then some (y18.1, noK) else some (0, y18.2)) = some (mPut c x) := by
  rw [P_impl_put c hv, Option.bind_some]
  unfold mPut
  by_cases hm : x ∈ c.2.2.2.2.1
  · simp [hm]
  · by_cases h1 : c.2.2.2.2.1.length = 100
    · simp [hm, h1, errK]
    · simp [hm, h1]
theorem mPut_tot (c : TK) (x : TV) : totCluster (mPut c x).2 ≤ totCluster c + 1 := by
  unfold mPut
  split
  · show totCluster c ≤ totCluster c + 1; omega
  · split
    · rw [tot_err]; omega
    · simp only [totCluster, withVote, List.length_append, List.length_cons, List.length_nil]; omega
def mForge (c : TK) (x : TV) : Int × TK := if mCF c = 0 then (if mVote x = 0 then (if x.1 ∈ c.2.1 ∧ x.1 ∈ c.1.1 then mPut c x else errK 6) else errK (mVote x)) else errK (mCF c)
theorem P_spec_ForgeAt (c : TK) (hc : Small c) (x : TV) : F_spec_ForgeAt c x = some (mForge c x) := by
  unfold F_spec_ForgeAt mForge
  simp only [P_spec_l12Fault c hc, P_spec_l11Vote, P_spec_l4Among _ (lB hc.bad), P_spec_l4Among _ (lB hc.keys), P_spec_l12Copy c hc, P_spec_l12Err, Option.bind_some, bif_code]
  split
  · rename_i h
    rw [P_spec_l12Put c (mCF_votes h)]
    split
    · by_cases h1 : x.1 ∈ c.2.1 <;> by_cases h2 : x.1 ∈ c.1.1 <;> simp [h1, h2]
    · rfl
  · rfl
theorem P_impl_ForgeAt (c : TK) (hc : Small c) (x : TV) : F_impl_ForgeAt c x = some (mForge c x) := by
  unfold F_impl_ForgeAt mForge
  simp only [P_impl_ClusterFault c hc, P_impl_VoteFault, P_Contains_int _ (lB hc.bad), P_Contains_int _ (lB hc.keys), P_impl_ownCluster c hc, Option.bind_some]
  rw [bif_code, bif_code]
  split
  · rename_i h
    have hp := put_end c (mCF_votes h) x
    split
    · by_cases h1 : x.1 ∈ c.2.1 <;> by_cases h2 : x.1 ∈ c.1.1
      · simp only [h1, h2, decide_true, Bool.not_true, cond_false, Option.bind_some, and_self, if_true]
        exact hp
      · simp [h1, h2]; rfl
      · simp [h1]; rfl
      · simp [h1]; rfl
    · rfl
  · rfl
theorem mForge_tot (c : TK) (x : TV) : totCluster (mForge c x).2 ≤ totCluster c + 1 := by
  unfold mForge
  split
  · split
    · split
      · exact mPut_tot c x
      · rw [tot_err]; omega
    · rw [tot_err]; omega
  · rw [tot_err]; omega
theorem law_FnExactForgeAt (x : TK) (v : TV) (hx : bCluster x) : F_laws_FnExactForgeAt x v = some true := by
  unfold F_laws_FnExactForgeAt
  rw [P_laws_szCluster x hx 1048576 (by omega) (by omega), Option.bind_some]
  cases hc : decide (szr (totCluster x) 1048576 < 0) with
  | true => rfl
  | false =>
    have h1 : 0 ≤ szr (totCluster x) 1048576 := by have := of_decide_eq_false hc; omega
    have hl1 := szr_le h1
    have hs := small_of (x := x) (by omega)
    have hb := big_pos
    have hck := cK_le x
    obtain ⟨hbl, hm, hh⟩ := tail_facts (r := mForge x v) (by have := mForge_tot x v; omega)
    rw [cond_false]
    simp only [P_laws_toCluster x (by omega), P_laws_toVote, P_spec_ForgeAt x hs, P_impl_ForgeAt x hs, Option.bind_some, P_laws_eqClusterResult _ _ hbl, P_laws_eqCluster x x hx, decide_true, Bool.not_true, cond_false, P_laws_markCluster x hs 1 (by omega) (by omega), hm, hh]
    rw [neg_off (by omega)]
    simp only [Option.bind_some, cond_false]
    rw [neg_off (by omega), neg_off (by omega)]
end CL
end Go.Dx

set_option maxHeartbeats 2000000
namespace Go.Dx
namespace CL
def hearB (c : TK) (k a : Int) : TK := (c.1, (c.2.1, (c.2.2.1, (c.2.2.2.1, (c.2.2.2.2.1, List.set c.2.2.2.2.2 (Int.toNat k) (List.append (heardBy c k) [a]))))))
def mHear (c : TK) (k a : Int) : Int × TK := if mCF c = 0 then (if (mIn k 0 (IntKind.wrap .i64 ((c.2.2.2.2.2.length : Int) - 1)) && mIn a 0 (IntKind.wrap .i64 ((c.2.2.2.2.1.length : Int) - 1))) = true then (0, if a ∈ heardBy c k then c else hearB c k a) else errK 3) else errK (mCF c)
theorem hear_end (c : TK) (hc : Small c) (k a : Int) (hi : inB k c.2.2.2.2.2 = true) (hm : heardBy c k ∈ c.2.2.2.2.2) (t : Bool) (ht : t = true) :
    ((bif (!decide (a ∈ heardBy c k)) then
 bif (inB k c.2.2.2.2.2) then
 bif decide (List.length (heardBy c k) + List.length ([a] : List Int) ≤ LIM) then
 bif (inB k c.2.2.2.2.2) then
 bif t then
 some (hearB c k a)
 else none
 else none
 else none
 else none
 else
 some c : Option TK).bind fun (j : TK) => some ((0 : Int), j)) = some ((0 : Int), if a ∈ heardBy c k then c else hearB c k a) := by
  have hl := hc.heards _ hm
  have hlim : decide (List.length (heardBy c k) + List.length ([a] : List Int) ≤ LIM) = true := by simp; omega
  by_cases ha : a ∈ heardBy c k
  · simp [ha]
  · rw [decide_eq_false ha, if_neg ha, hi, hlim, ht]; rfl
theorem P_impl_HearAt (c : TK) (hc : Small c) (k a : Int) : F_impl_HearAt c k a = some (mHear c k a) := by
  unfold F_impl_HearAt mHear F_impl_Cluster_isHearer
  simp only [P_impl_ClusterFault c hc, P_impl_within, Option.bind_some, bif_code]
  split
  · rename_i h
    cases hk : mIn k 0 (IntKind.wrap .i64 ((c.2.2.2.2.2.length : Int) - 1)) with
    | false => rfl
    | true =>
      cases ha : mIn a 0 (IntKind.wrap .i64 ((c.2.2.2.2.1.length : Int) - 1)) with
      | false => rfl
      | true =>
        obtain ⟨hi, hm⟩ := hearer_in hc hk
        simp only [Bool.not_true, cond_false, Option.bind_some, P_impl_ownCluster c hc, Bool.and_self, if_true]
        rw [hi, cond_true, show List.getD c.2.2.2.2.2 (Int.toNat k) [] = heardBy c k from rfl, P_Contains_int _ (lB (hc.heards _ hm)), Option.bind_some]
        have := hear_end c hc k a hi hm (decide True) (by simp)
        rw [hi] at this
        exact this
  · rfl
theorem P_spec_HearAt (c : TK) (hc : Small c) (k a : Int) : F_spec_HearAt c k a = some (mHear c k a) := by
  unfold F_spec_HearAt mHear
  simp only [P_spec_l12Fault c hc, P_spec_l1In, P_spec_l12Err, Option.bind_some, bif_code]
  split
  · rename_i h
    cases hk : mIn k 0 (IntKind.wrap .i64 ((c.2.2.2.2.2.length : Int) - 1)) with
    | false => rfl
    | true =>
      cases ha : mIn a 0 (IntKind.wrap .i64 ((c.2.2.2.2.1.length : Int) - 1)) with
      | false => rfl
      | true =>
        obtain ⟨hi, hm⟩ := hearer_in hc hk
        simp only [Bool.not_true, cond_false, Option.bind_some, P_spec_l12Copy c hc, Bool.and_self, if_true]
        rw [hi, cond_true, show List.getD c.2.2.2.2.2 (Int.toNat k) [] = heardBy c k from rfl, P_spec_l4Among _ (lB (hc.heards _ hm)), Option.bind_some]
        have := hear_end c hc k a hi hm (decide True) (by simp)
        rw [hi] at this
        exact this
  · rfl
theorem sum_setL : ∀ (l : List (List Int)) (i : Nat) (v : List Int), ((l.set i v).map List.length).sum ≤ (l.map List.length).sum + v.length
  | [], _, _ => by simp
  | a :: l, 0, v => by simp; omega
  | a :: l, i + 1, v => by have := sum_setL l i v; rw [List.set_cons_succ, List.map_cons, List.sum_cons, List.map_cons, List.sum_cons]; omega
theorem mHear_tot (c : TK) (hc : Small c) (k a : Int) : totCluster (mHear c k a).2 ≤ 2 * totCluster c + 1 := by
  unfold mHear
  split
  · split
    · rename_i hk
      simp only [Bool.and_eq_true] at hk
      obtain ⟨hi, hm⟩ := hearer_in hc hk.1
      split
      · show totCluster c ≤ 2 * totCluster c + 1; omega
      · have h1 := sum_setL c.2.2.2.2.2 (Int.toNat k) (List.append (heardBy c k) [a])
        have h2 := le_sum List.length _ _ hm
        have h3 : (List.append (heardBy c k) [a]).length = (heardBy c k).length + 1 := by simp
        simp only [totCluster, hearB, totInts, List.length_set]
        omega
    · rw [tot_err]; omega
  · rw [tot_err]; omega
theorem law_FnExactHearAt (x : TK) (k a : Int) (hx : bCluster x) : F_laws_FnExactHearAt x k a = some true := by
  unfold F_laws_FnExactHearAt
  rw [P_laws_szCluster x hx 1048576 (by omega) (by omega), Option.bind_some]
  cases hc : decide (szr (totCluster x) 1048576 < 0) with
  | true => rfl
  | false =>
    have h1 : 0 ≤ szr (totCluster x) 1048576 := by have := of_decide_eq_false hc; omega
    have hl1 := szr_le h1
    have hs := small_of (x := x) (by omega)
    have hb := big_pos
    have hck := cK_le x
    obtain ⟨hbl, hm, hh⟩ := tail_facts (r := mHear x k a) (by have := mHear_tot x hs k a; omega)
    rw [cond_false]
    simp only [P_laws_toCluster x (by omega), P_spec_HearAt x hs, P_impl_HearAt x hs, Option.bind_some, P_laws_eqClusterResult _ _ hbl, P_laws_eqCluster x x hx, decide_true, Bool.not_true, cond_false, P_laws_markCluster x hs 1 (by omega) (by omega), hm, hh]
    rw [neg_off (by omega)]
    simp only [Option.bind_some, cond_false]
    rw [neg_off (by omega), neg_off (by omega)]
end CL
end Go.Dx
