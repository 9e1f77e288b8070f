/- The plain law: no program in sight -/
import Derived.Test.YtdlnpjjdenahoaaSca
set_option linter.unusedVariables false
set_option linter.unusedSimpArgs false
set_option maxHeartbeats 2000000
namespace Go.Dx
namespace NC
abbrev TL := List (List UInt8) × List (Int × Int)
abbrev TCoin := (Int × Int) × (Int × List Int × Int × Int) × Int × Bool
abbrev TM := Int × Int × Int
abbrev TUndo := Int × List (List TCoin) × List TM
abbrev TState := Int × Int × List TCoin × List TM
abbrev TChain := TL × List TM × List Int × TState × List TUndo
abbrev TX := Int × Int × TChain
def totStr (l : List (List UInt8)) : Nat := l.length + (l.map List.length).sum
def bL {α : Type} (p : α → Prop) (l : List α) : Prop := l.length ≤ 9223372036854775807 ∧ ∀ y, y ∈ l → p y
def bAny {α : Type} (_ : α) : Prop := True
theorem bL_of {s : Sh} {p : s.den → Prop} (hp : ∀ y, Bnd s y → p y) {l : List s.den} (h : Bnd (.list s) l) : bL p l := ⟨h.1, fun y hy => hp y (h.2 y hy)⟩
theorem wrap_succ (i n : Nat) (h : i < n) (hn : n ≤ 9223372036854775807) : IntKind.wrap .i64 ((i : Int) + 1) = ((i + 1 : Nat) : Int) := by
  rw [wrap_id (by omega) (by omega)]; omega
theorem step_szw (t : Nat) (left : Int) (c : Int) (h0 : 0 ≤ left) (h1 : left ≤ 1048576) (ht : t ≤ 9223372036854775807) : (bif decide (IntKind.wrap .i64 (left - (t : Int)) < 0) then (some (Sum.inr (Sum.inr (-1))) : Option ((Int × Int) ⊕ (Int ⊕ Int))) else some (Sum.inl (IntKind.wrap .i64 (left - (t : Int)), c))) = if (t : Int) ≤ left then some (Sum.inl (left - t, c)) else some (Sum.inr (Sum.inr (-1))) := by
  rw [wrap_id (by omega) (by omega)]
  by_cases h : (t : Int) ≤ left
  · have hn : ¬ (left - (t : Int)) < 0 := by omega
    simp [hn, h]
  · have hn : (left - (t : Int)) < 0 := by omega
    simp [hn, h]
theorem szr_zero (left : Int) (h : 0 ≤ left) : szr 0 left = left := by simp [szr, h]
theorem P_laws_szSignS (x : List (Int × Int)) (hx : x.length ≤ 9223372036854775807) (left : Int) (h0 : 0 ≤ left) (h1 : left ≤ 1048576) : F_laws_szSignS x left = some (szr x.length left) := by
  unfold F_laws_szSignS
  exact szr_lead (b := 0) (k := fun l => some l) h0 h1 hx (fun h => by rw [szr_zero _ (by omega)])
theorem P_laws_szStringS (x : List (List UInt8)) (hx : bL (bL bAny) x) (left : Int) (h0 : 0 ≤ left) (h1 : left ≤ 1048576) : F_laws_szStringS x left = some (szr (totStr x) left) := by
  unfold F_laws_szStringS
  refine szr_lead (b := (x.map List.length).sum) (k := fun l => (loopO _ (l, 0)).bind _) h0 h1 hx.1 (fun hle => ?_)
  refine sz_loop x List.length _ (fun i left h h0 h1 => ?_) (fun left => ?_) _ (by omega) (by omega)
  · have e1 : decide ((i : Int) < (x.length : Int)) = true := by simpa using h
    simp only [e1, inB_nat x i h, getD_toNat x i _ h, cond_true, wrap_succ i _ h hx.1]
    exact step_szw _ _ _ h0 h1 (hx.2 _ (List.getElem_mem h)).1
  · simp
theorem P_laws_szLedger (x : List (List UInt8) × List (Int × Int)) (hx : bL (bL bAny) x.1 ∧ bL bAny x.2) (left : Int) (h0 : 0 ≤ left) (h1 : left ≤ 1048576) : F_laws_szLedger x left = some (szr (totStr x.1 + x.2.length) left) := by
  unfold F_laws_szLedger
  rw [P_laws_szStringS _ hx.1 _ h0 h1, Option.bind_some]
  refine szr_bind _ _ _ (k := fun y => (F_laws_szSignS x.2 y).bind fun y4 => bif decide (y4 < 0) then some (-1) else some y4) h0 fun h => ?_
  have hl := szr_le h
  rw [P_laws_szSignS _ hx.2.1 _ h (by omega), Option.bind_some]
  exact szr_last _ _ h
theorem cap_ok {n : Nat} (h : n ≤ 1048576) : (decide (0 ≤ (n : Int)) && decide ((n : Int) ≤ (LIM : Int))) = true := by
  have h1 : (0 : Int) ≤ n := by omega
  have h2 : (n : Int) ≤ (LIM : Int) := by unfold LIM; omega
  rw [decide_eq_true h1, decide_eq_true h2]; rfl
theorem to_loop' {α : Type} (l : List α) (d : α) (f : List α × Int → Option ((List α × Int) ⊕ List α)) (hstep : ∀ (i : Nat) (acc : List α) (h : i < l.length), acc.length = l.length → f (acc, (i : Int)) = some (.inl (acc.set i l[i], ((i + 1 : Nat) : Int))))
    (hend : ∀ acc, f (acc, (l.length : Int)) = some (.inr acc)) : (loopO f (List.replicate (Int.toNat (l.length : Int)) d, 0)).bind (fun j => some j) = some l := by
  rw [show Int.toNat (l.length : Int) = l.length by simp, Go.Dx.to_loop l d f hstep hend]; rfl
theorem P_laws_toStringS (x : List (List UInt8)) (hx : x.length ≤ 1048576) : F_laws_toStringS x = some x := by
  unfold F_laws_toStringS
  have hl : x.length ≤ 1048576 := by exact hx
  rw [cap_ok hl, cond_true]
  refine to_loop' x [] _ (fun i acc h ha => ?_) (fun acc => ?_)
  · have e1 : decide ((i : Int) < (x.length : Int)) = true := by simpa using h
    have e2 : inB (i : Int) acc = true := inB_nat acc i (by omega)
    have e3 : Int.toNat (i : Int) = i := by simp
    simp only [e1, inB_nat x i h, e2, cond_true, getD_toNat x i _ h, wrap_succ i _ h (by omega)]
    rw [e3]
  · simp
theorem P_laws_toSign (x : Int × Int) : F_laws_toSign x = some x := rfl
theorem P_laws_toSignS (x : List (Int × Int)) (hx : x.length ≤ 1048576) : F_laws_toSignS x = some x := by
  unfold F_laws_toSignS
  have hl : x.length ≤ 1048576 := by exact hx
  rw [cap_ok hl, cond_true]
  refine to_loop' x (0, 0) _ (fun i acc h ha => ?_) (fun acc => ?_)
  · have e1 : decide ((i : Int) < (x.length : Int)) = true := by simpa using h
    have e2 : inB (i : Int) acc = true := inB_nat acc i (by omega)
    have e3 : Int.toNat (i : Int) = i := by simp
    have hel : F_laws_toSign (List.getD x (Int.toNat (i : Int)) (0, 0)) = some x[i] := by rw [getD_toNat x i _ h]; exact P_laws_toSign _
    simp only [e1, inB_nat x i h, e2, cond_true, hel, Option.bind_some, wrap_succ i _ h (by omega)]
    rw [e3]
  · simp
theorem P_laws_toLedger (x : List (List UInt8) × List (Int × Int)) (h1 : x.1.length ≤ 1048576) (h2 : x.2.length ≤ 1048576) : F_laws_toLedger x = some x := by
  unfold F_laws_toLedger; rw [P_laws_toStringS _ h1, Option.bind_some, P_laws_toSignS _ h2, Option.bind_some]
theorem eq_step {p : Prop} [Decidable p] (w : Int) : (bif !decide p then (some (Sum.inr (Sum.inr false)) : Option (Int ⊕ (Unit ⊕ Bool))) else some (Sum.inl w)) = if p then some (Sum.inl w) else some (Sum.inr (Sum.inr false)) := by
  by_cases h : p <;> simp [h]
theorem neq_len {α : Type} [DecidableEq α] {x y : List α} (h : ¬ x.length = y.length) : decide (x = y) = false := decide_eq_false (fun he => h (by rw [he]))
theorem P_laws_eqStringS (x y : List (List UInt8)) (hx : bL (bL bAny) x) : F_laws_eqStringS x y = some (decide (x = y)) := by
  unfold F_laws_eqStringS
  by_cases hl : x.length = y.length
  · have hc : decide ((x.length : Int) = (y.length : Int)) = true := by simp [hl]
    rw [hc, Bool.not_true, cond_false]
    refine eq_loop x y hl _ (fun i h h' => ?_) ?_
    · have e1 : decide ((i : Int) < (x.length : Int)) = true := by simpa using h
      simp only [e1, inB_nat x i h, inB_nat y i h', getD_toNat x i _ h, getD_toNat y i _ h', cond_true, wrap_succ i _ h hx.1]
      exact eq_step _
    · simp
  · have hc : decide ((x.length : Int) = (y.length : Int)) = false := decide_eq_false (fun h => hl (by omega))
    rw [hc, neq_len hl]; rfl
theorem P_laws_eqSign (x y : Int × Int) : F_laws_eqSign x y = some (decide (x = y)) := by
  unfold F_laws_eqSign
  obtain ⟨a1, a2⟩ := x; obtain ⟨b1, b2⟩ := y
  by_cases h1 : a1 = b1 <;> by_cases h2 : a2 = b2 <;> simp [h1, h2]
theorem P_laws_eqSignS (x y : List (Int × Int)) (hx : bL bAny x) : F_laws_eqSignS x y = some (decide (x = y)) := by
  unfold F_laws_eqSignS
  by_cases hl : x.length = y.length
  · have hc : decide ((x.length : Int) = (y.length : Int)) = true := by simp [hl]
    rw [hc, Bool.not_true, cond_false]
    refine eq_loop x y hl _ (fun i h h' => ?_) ?_
    · have e1 : decide ((i : Int) < (x.length : Int)) = true := by simpa using h
      simp only [e1, inB_nat x i h, inB_nat y i h', getD_toNat x i _ h, getD_toNat y i _ h', cond_true, wrap_succ i _ h hx.1, P_laws_eqSign, Option.bind_some]
      exact eq_step _
    · simp
  · have hc : decide ((x.length : Int) = (y.length : Int)) = false := decide_eq_false (fun h => hl (by omega))
    rw [hc, neq_len hl]; rfl
theorem P_laws_eqLedger (x y : List (List UInt8) × List (Int × Int)) (hx : bL (bL bAny) x.1 ∧ bL bAny x.2) : F_laws_eqLedger x y = some (decide (x = y)) := by
  unfold F_laws_eqLedger
  obtain ⟨a1, a2⟩ := x; obtain ⟨b1, b2⟩ := y
  rw [P_laws_eqStringS _ _ hx.1, P_laws_eqSignS _ _ hx.2]
  by_cases h1 : a1 = b1 <;> by_cases h2 : a2 = b2 <;> simp [h1, h2]
end NC
end Go.Dx

set_option maxHeartbeats 2000000
namespace Go.Dx
namespace NC
theorem loop_codeK {α R : Type} (l : List α) (c : Nat → α → Int) (f : Int → Option (Int ⊕ (Unit ⊕ Int)))
    (hs : ∀ (i : Nat) (h : i < l.length), f (i : Int) = some (if c i l[i] = 0 then .inl ((i + 1 : Nat) : Int) else .inr (.inr (c i l[i])))) (he : f (l.length : Int) = some (.inr (.inl ()))) (A : Unit → Option R) (B : Int → Option R) :
    ((loopO f 0).bind fun j => Sum.elim A B j) = if code c l = 0 then A () else B (code c l) := by
  rw [loop_first l (fun i a => if c i a = 0 then none else some (c i a)) f (fun i h => by rw [hs i h]; by_cases hc : c i l[i] = 0 <;> simp [hc]) he, bind_first]
  by_cases h0 : code c l = 0
  · rw [if_pos h0]
    have hz := code_zero h0
    have : first (fun i a => if c i a = 0 then none else some (c i a)) 0 l = none := (first_none l 0).2 (fun j a ha => by rw [Nat.zero_add, if_pos (hz j a ha)])
    rw [this]
  · rw [if_neg h0]
    unfold code at h0 ⊢
    cases hf : first (fun i a => if c i a = 0 then none else some (c i a)) 0 l with
    | none => rw [hf] at h0; exact absurd rfl h0
    | some r => rfl
theorem first_mapr {α β γ : Type} (g : Nat → α → Option β) (h : β → γ) : ∀ (l : List α) (i : Nat), first (fun i a => (g i a).map h) i l = (first g i l).map h
  | [], _ => rfl
  | a :: l, i => by
    simp only [first]
    cases g i a with
    | none => exact first_mapr g h l (i + 1)
    | some r => rfl
def mIn (v lo hi : Int) : Bool := decide (lo ≤ v) && decide (v ≤ hi)
theorem P_spec_l1In (v lo hi : Int) : F_spec_l1In v lo hi = some (mIn v lo hi) := by
  unfold F_spec_l1In mIn
  cases decide (lo ≤ v) <;> rfl
theorem P_impl_within (v lo hi : Int) : F_impl_within v lo hi = some (mIn v lo hi) := by
  unfold F_impl_within mIn
  cases decide (lo ≤ v) <;> rfl
theorem P_spec_l1Key (v : Int) : F_spec_l1Key v = some (mIn v 1 999) := by unfold F_spec_l1Key; rw [P_spec_l1In]; rfl
theorem P_impl_isKey (v : Int) : F_impl_isKey v = some (mIn v 1 999) := by unfold F_impl_isKey; rw [P_impl_within]; rfl
theorem P_impl_isText (t : List UInt8) : F_impl_isText t = some (mIn (t.length : Int) 1 300) := by unfold F_impl_isText; rw [P_impl_within]; rfl
theorem any_eq {α : Type} [DecidableEq α] (x : α) (l : List α) : l.any (fun a => decide (x = a)) = decide (x ∈ l) := by
  rw [Bool.eq_iff_iff]; simp
theorem any_eq' {α : Type} [DecidableEq α] (x : α) (l : List α) : l.any (fun a => decide (a = x)) = decide (x ∈ l) := by
  rw [Bool.eq_iff_iff]; simp
theorem P_Contains_str (l : List (List UInt8)) (hl : l.length < BIG) (x : List UInt8) : F_slices_Contains_Lstring_string l x = some (decide (x ∈ l)) := by
  unfold F_slices_Contains_Lstring_string F_slices_Index_Lstring_string
  rw [loop_idx l (fun a => decide (x = a)) _ (fun i h => ?_) (by simp only [dge, cond_false]), Option.bind_some, idxF_nonneg, any_eq]
  · exact congrArg some (decide_eq_decide.2 Iff.rfl)
  · simp only [dlt h, inB_nat l i h, getD_toNat l i _ h, cond_true, wsucc h hl]
    cases decide (x = l[i]) <;> rfl
theorem P_Contains_sign (l : List (Int × Int)) (hl : l.length < BIG) (x : Int × Int) : F_slices_Contains_Limpl_Sign_impl_Sign l x = some (decide (x ∈ l)) := by
  unfold F_slices_Contains_Limpl_Sign_impl_Sign F_slices_Index_Limpl_Sign_impl_Sign
  rw [loop_idx l (fun a => decide (x = a)) _ (fun i h => ?_) (by simp only [dge, cond_false]), Option.bind_some, idxF_nonneg, any_eq]
  · exact congrArg some (decide_eq_decide.2 Iff.rfl)
  · simp only [dlt h, inB_nat l i h, getD_toNat l i _ h, cond_true, wsucc h hl, beqP2]
    cases decide (x = l[i]) <;> rfl
theorem P_spec_l1Signed (l : List (Int × Int)) (hl : l.length < BIG) (x : Int × Int) : F_spec_l1Signed l x = some (decide (x ∈ l)) := by
  unfold F_spec_l1Signed
  rw [loop_any l (fun a => decide (a = x)) _ (fun i h => ?_) (by simp only [dge, cond_false]), any_eq']
  · exact congrArg some (decide_eq_decide.2 Iff.rfl)
  · simp only [dlt h, inB_nat l i h, getD_toNat l i _ h, cond_true, wsucc h hl, beqP2]
    cases decide (l[i] = x) <;> rfl
theorem P_spec_l1At (l : List (List UInt8)) (hl : l.length < BIG) (x : List UInt8) : F_spec_l1At l x = some (idxF (fun a => decide (a = x)) l + 1) := by
  unfold F_spec_l1At
  rw [loop_first l (fun i a => (if decide (a = x) = true then some (i : Int) else none).map (· + 1)) _ (fun i h => ?_) (by simp only [dge, cond_false]), first_mapr, bind_first]
  · unfold idxF
    cases first (fun i a => if decide (a = x) = true then some (i : Int) else none) 0 l <;> rfl
  · simp only [dlt h, inB_nat l i h, getD_toNat l i _ h, cond_true, wsucc h hl]
    cases decide (l[i] = x) <;> rfl
theorem pos_at (l : List (List UInt8)) (x : List UInt8) : decide (0 < idxF (fun a => decide (a = x)) l + 1) = decide (x ∈ l) := by
  have h := idxF_nonneg (fun a => decide (a = x)) l
  have h2 : (l.any fun a => decide (a = x)) = true ↔ x ∈ l := by simp
  refine decide_eq_decide.2 ⟨fun h3 => h2.1 (by rw [← h]; simp; omega), fun h3 => ?_⟩
  have := h2.2 h3
  rw [← h] at this
  have := of_decide_eq_true this
  omega
def mTx (l : List (List UInt8)) (i : Nat) (s : List UInt8) : Int := if mIn (s.length : Int) 1 300 then (if s ∈ l.take i then 7 else 0) else 2
def mSg (n : Int) (l : List (Int × Int)) (i : Nat) (x : Int × Int) : Int := if mIn x.1 1 999 && mIn x.2 1 n then (if x ∈ l.take i then 7 else 0) else 3
def mLF (x : TL) : Int := if (decide ((60 : Int) < (x.1.length : Int)) || decide ((120 : Int) < (x.2.length : Int))) = true then 2 else if code (mTx x.1) x.1 = 0 then code (mSg (x.1.length : Int) x.2) x.2 else code (mTx x.1) x.1
theorem take_BIG {α : Type} {l : List α} (hl : l.length < BIG) (i : Nat) : (l.take i).length < BIG := by rw [List.length_take]; omega
theorem or_form (p q : Bool) {β : Type} (a b : β) : ((bif p then some true else some q : Option Bool).bind fun (j : Bool) => some (p || q) ) = some (p || q) := by cases p <;> rfl
theorem P_impl_LedgerFault (x : TL) (h1 : x.1.length < BIG) (h2 : x.2.length < BIG) : F_impl_LedgerFault x = some (mLF x) := by
  unfold F_impl_LedgerFault mLF
  have e : ∀ (p q : Bool), (bif p then some true else some q : Option Bool) = some (p || q) := by intro p q; cases p <;> rfl
  rw [e, Option.bind_some]
  cases (decide ((60 : Int) < (x.1.length : Int)) || decide ((120 : Int) < (x.2.length : Int))) with
  | true => rfl
  | false =>
    rw [cond_false, if_neg (by simp), loop_codeK x.1 (mTx x.1) _ (fun i h => ?_) (by simp only [dge, cond_false])]
    · split
      · refine loop_code _ _ _ (fun i h => ?_) (by simp only [dge, cond_false])
        simp only [dlt h, inB_nat x.2 i h, getD_toNat x.2 i _ h, cutOk_nat x.2 i (Nat.le_of_lt h), cut_nat, cond_true, P_impl_isKey, P_impl_within, Option.bind_some, wsucc h h2, P_Contains_sign _ (take_BIG h2 i)]
        unfold mSg
        cases mIn x.2[i].1 1 999 <;> cases mIn x.2[i].2 1 (x.1.length : Int) <;> by_cases hm : x.2[i] ∈ x.2.take i <;> simp [hm]
      · rfl
    · simp only [dlt h, inB_nat x.1 i h, getD_toNat x.1 i _ h, cutOk_nat x.1 i (Nat.le_of_lt h), cut_nat, cond_true, P_impl_isText, Option.bind_some, wsucc h h1, P_Contains_str _ (take_BIG h1 i)]
      unfold mTx
      cases mIn (x.1[i].length : Int) 1 300 <;> by_cases hm : x.1[i] ∈ x.1.take i <;> simp [hm]
theorem P_spec_l1Fault (x : TL) (h1 : x.1.length < BIG) (h2 : x.2.length < BIG) : F_spec_l1Fault x = some (mLF x) := by
  unfold F_spec_l1Fault mLF
  have e : ∀ (p q : Bool), (bif p then some true else some q : Option Bool) = some (p || q) := by intro p q; cases p <;> rfl
  rw [e, Option.bind_some]
  cases (decide ((60 : Int) < (x.1.length : Int)) || decide ((120 : Int) < (x.2.length : Int))) with
  | true => rfl
  | false =>
    rw [cond_false, if_neg (by simp), loop_codeK x.1 (mTx x.1) _ (fun i h => ?_) (by simp only [dge, cond_false])]
    · split
      · refine loop_code _ _ _ (fun i h => ?_) (by simp only [dge, cond_false])
        simp only [dlt h, inB_nat x.2 i h, getD_toNat x.2 i _ h, cutOk_nat x.2 i (Nat.le_of_lt h), cut_nat, cond_true, P_spec_l1Key, P_spec_l1In, Option.bind_some, wsucc h h2, P_spec_l1Signed _ (take_BIG h2 i)]
        unfold mSg
        cases mIn x.2[i].1 1 999 <;> cases mIn x.2[i].2 1 (x.1.length : Int) <;> by_cases hm : x.2[i] ∈ x.2.take i <;> simp [hm]
      · rfl
    · simp only [dlt h, inB_nat x.1 i h, getD_toNat x.1 i _ h, cutOk_nat x.1 i (Nat.le_of_lt h), cut_nat, cond_true, Option.bind_some, wsucc h h1, P_spec_l1At _ (take_BIG h1 i), pos_at]
      have e2 : ∀ (n : Int), (decide (n < 1) || decide (300 < n)) = !mIn n 1 300 := by
        intro n; unfold mIn; rw [Bool.eq_iff_iff]; simp; try omega
      rw [e, e2, Option.bind_some]
      unfold mTx
      cases mIn (x.1[i].length : Int) 1 300 <;> by_cases hm : x.1[i] ∈ x.1.take i <;> simp [hm]
theorem agree_self {R : Type} (a : Option R) : agree a a = a := by unfold agree; simp
theorem app_nil_lim {α : Type} {l : List α} (h : l.length ≤ LIM) : decide (List.length ([] : List α) + List.length l ≤ LIM) = true := by simp; omega
theorem P_Clone_str (l : List (List UInt8)) (hl : l.length ≤ LIM) : F_slices_Clone_Lstring_string l = some l := by
  unfold F_slices_Clone_Lstring_string
  rw [app_nil_lim hl, cond_true]
  cases l with
  | nil => exact agree_self _
  | cons a l => rfl
theorem P_Clone_sign (l : List (Int × Int)) (hl : l.length ≤ LIM) : F_slices_Clone_Limpl_Sign_impl_Sign l = some l := by
  unfold F_slices_Clone_Limpl_Sign_impl_Sign
  rw [app_nil_lim hl, cond_true]
  cases l with
  | nil => exact agree_self _
  | cons a l => rfl
def noL : TL := ([], [])
def resX (k : Int) (l : TL) : TX := (k, (0, (l, ([], ([], ((0, (0, ([], []))), []))))))
def mNC (x : TL) : TX := if mLF x = 0 then resX 0 x else resX (mLF x) noL
theorem P_impl_NewChain (x : TL) (h1 : x.1.length ≤ 1048576) (h2 : x.2.length ≤ 1048576) : F_impl_NewChain x = some (mNC x) := by
  have hL : LIM = 1073741824 := rfl
  have hB : BIG = 4611686018427387904 := rfl
  unfold F_impl_NewChain mNC F_impl_ownLedger
  rw [P_impl_LedgerFault x (by omega) (by omega), Option.bind_some, bif_code, P_Clone_str _ (by omega), Option.bind_some, P_Clone_sign _ (by omega)]
  split <;> rfl
theorem P_spec_NewChain (x : TL) (h1 : x.1.length ≤ 1048576) (h2 : x.2.length ≤ 1048576) : F_spec_NewChain x = some (mNC x) := by
  have hL : LIM = 1073741824 := rfl
  have hB : BIG = 4611686018427387904 := rfl
  unfold F_spec_NewChain mNC F_spec_l1Copy
  rw [P_spec_l1Fault x (by omega) (by omega), Option.bind_some, bif_code, app_nil_lim (by omega), app_nil_lim (by omega)]
  split <;> rfl
end NC
end Go.Dx

set_option maxHeartbeats 2000000
namespace Go.Dx
namespace NC
theorem big_pos : (BIG : Int) = 4611686018427387904 := rfl
theorem wk {k : Int} (h0 : 0 ≤ k) (h : k < (BIG : Int)) : IntKind.wrap .i64 (k + 1) = k + 1 := wrap_id (by omega) (by have := big_pos; omega)
theorem markText_ok (k : Int) (h0 : 0 ≤ k) (hb : k < (BIG : Int)) : ∃ t, F_laws_markText k = some t := by
  have hB := big_pos
  have hL : LIM = 1073741824 := rfl
  unfold F_laws_markText
  by_cases hk : k ≤ 0
  · rw [decide_eq_true hk]; exact ⟨_, rfl⟩
  · rw [decide_eq_false hk, cond_false]
    generalize hf : (fun (s3 : Int × List UInt8) => _) = f
    have key : ∀ (n : Nat) (k : Int) (acc : List UInt8), 0 ≤ k → k < (10 : Int) ^ n → k < (BIG : Int) → acc.length + n ≤ 100 → ∃ t, loopO f (k, acc) = some t ∧ t.length ≤ 100 := by
      intro n
      induction n with
      | zero =>
        intro k acc h0 h1 _ hl
        have : k = 0 := by simp at h1; omega
        subst this
        exact ⟨acc, loopO_out (by rw [← hf]; simp), by omega⟩
      | succ n ih =>
        intro k acc h0 h1 hb hl
        by_cases hk : k = 0
        · subst hk; exact ⟨acc, loopO_out (by rw [← hf]; simp), by omega⟩
        · have hd : Int.tdiv k 10 = k / 10 := Int.tdiv_eq_ediv_of_nonneg h0
          have hw : IntKind.wrap .i64 (Int.tdiv k 10) = k / 10 := by rw [hd]; exact wrap_id (by omega) (by omega)
          have hp : k / 10 < (10 : Int) ^ n := by rw [Int.pow_succ] at h1; omega
          rw [loopO_next (s' := (k / 10, List.append (List.map (fun (b : Int) => UInt8.ofNat b.toNat) ([IntKind.wrap .u8 (IntKind.wrap .i64 (48 + (Int.tmod k 10)))] : List Int)) acc)) (by
            rw [← hf]
            simp only [show decide (0 < k) = true by simp; omega, cond_true, hw]
            rw [show decide (List.length (List.map (fun (b : Int) => UInt8.ofNat b.toNat) ([IntKind.wrap .u8 (IntKind.wrap .i64 (48 + (Int.tmod k 10)))] : List Int)) + List.length acc ≤ LIM) = true from by simp; omega]
            rfl)]
          exact ih _ _ (by omega) hp (by omega) (by simp; omega)
    obtain ⟨t, ht, hl⟩ := key 19 k [] h0 (by have : (10 : Int) ^ 19 = 10000000000000000000 := by decide
                                             omega) hb (by simp)
    rw [ht, Option.bind_some]
    rw [show decide (List.length ([109] : List Nat) + List.length t ≤ LIM) = true from by simp; omega]
    exact ⟨_, rfl⟩
noncomputable def mT (k : Int) : List UInt8 := (F_laws_markText k).getD []
theorem P_markText (k : Int) (h0 : 0 ≤ k) (hb : k < (BIG : Int)) : F_laws_markText k = some (mT k) := by
  obtain ⟨t, ht⟩ := markText_ok k h0 hb
  unfold mT; rw [ht]; rfl
noncomputable def mkS (k : Int) (_ : List UInt8) : List UInt8 := mT k
def mkG (k : Int) (_ : Int × Int) : Int × Int := (k, k + 1)
def cS : List UInt8 → Nat := fun _ => 1
def cG : Int × Int → Nat := fun _ => 2
theorem P_laws_markStringS (x : List (List UInt8)) (hl : x.length < BIG) (k : Int) (h0 : 0 ≤ k) (hb : k + (cntL cS x : Int) < (BIG : Int)) : F_laws_markStringS x k = some (k + (cntL cS x : Int), mkL cS mkS k x) := by
  unfold F_laws_markStringS
  rw [mark_loop cS mkS x k h0 hb _ (fun acc i k h ha hm h0 hk => ?_) (fun acc k ha => by simp only [ha, dge, cond_false])]
  · rfl
  · simp only [cS] at hk
    have w1 : IntKind.wrap .i64 (k + 1) = k + 1 := wk h0 (by omega)
    simp only [dlt h, inB_set, inB_nat acc i h, Int.toNat_natCast, List.set_set, getD_set_same acc i _ _ h, getD_at acc i _ h, cond_true, w1, wsucc h (by omega), P_markText k h0 (by omega), Option.bind_some]
    rfl
theorem P_laws_heldStringS (x : List (List UInt8)) (hl : x.length < BIG) (k : Int) (h0 : 0 ≤ k) (hb : k + (cntL cS x : Int) < (BIG : Int)) : F_laws_heldStringS (mkL cS mkS k x) k = some (k + (cntL cS x : Int)) := by
  unfold F_laws_heldStringS
  refine held_loop cS mkS x k h0 hb _ (fun i k h h' h0 hk hel => ?_) (fun k => by simp only [mkL_len, dge, cond_false])
  simp only [cS] at hk
  have w1 : IntKind.wrap .i64 (k + 1) = k + 1 := wk h0 (by omega)
  simp only [mkL_len, dlt h, inB_nat _ i h', Int.toNat_natCast, getD_at _ i _ h', hel, mkS, cond_true, w1, decide_true, Bool.not_true, cond_false, wsucc h hl, P_markText k h0 (by omega), Option.bind_some]
  rfl
theorem P_laws_markSignS (x : List (Int × Int)) (hl : x.length < BIG) (k : Int) (h0 : 0 ≤ k) (hb : k + (cntL cG x : Int) < (BIG : Int)) : F_laws_markSignS x k = some (k + (cntL cG x : Int), mkL cG mkG k x) := by
  unfold F_laws_markSignS
  rw [mark_loop cG mkG x k h0 hb _ (fun acc i k h ha hm h0 hk => ?_) (fun acc k ha => by simp only [ha, dge, cond_false])]
  · rfl
  · simp only [cG] at hk
    have w1 : IntKind.wrap .i64 (k + 1) = k + 1 := wk h0 (by omega)
    have w2 : IntKind.wrap .i64 (k + 1 + 1) = k + 2 := by rw [wk (by omega) (by omega)]; omega
    simp only [dlt h, inB_set, inB_nat acc i h, Int.toNat_natCast, List.set_set, getD_set_same acc i _ _ h, getD_at acc i _ h, cond_true, w1, w2, wsucc h (by omega)]
    rfl
theorem P_laws_heldSignS (x : List (Int × Int)) (hl : x.length < BIG) (k : Int) (h0 : 0 ≤ k) (hb : k + (cntL cG x : Int) < (BIG : Int)) : F_laws_heldSignS (mkL cG mkG k x) k = some (k + (cntL cG x : Int)) := by
  unfold F_laws_heldSignS
  refine held_loop cG mkG x k h0 hb _ (fun i k h h' h0 hk hel => ?_) (fun k => by simp only [mkL_len, dge, cond_false])
  simp only [cG] at hk
  have w1 : IntKind.wrap .i64 (k + 1) = k + 1 := wk h0 (by omega)
  have w2 : IntKind.wrap .i64 (k + 1 + 1) = k + 2 := by rw [wk (by omega) (by omega)]; omega
  simp only [mkL_len, dlt h, inB_nat _ i h', Int.toNat_natCast, getD_at _ i _ h', hel, mkG, cond_true, w1, w2, decide_true, Bool.not_true, cond_false, wsucc h hl]
  rfl
theorem neg_off {β : Type} {y : Int} (h : 0 ≤ y) (a b : β) : (bif decide (y < 0) then a else b) = b := by rw [decide_eq_false (by omega)]; rfl
def cL (x : TL) : Nat := cntL cS x.1 + cntL cG x.2
noncomputable def mkLd (k : Int) (x : TL) : TL := (mkL cS mkS k x.1, mkL cG mkG (k + (cntL cS x.1 : Int)) x.2)
theorem cL_eq (x : TL) : cL x = x.1.length + 2 * x.2.length := by unfold cL cS cG; rw [cntL_const, cntL_const]; omega
theorem P_laws_markLedger (x : TL) (h1 : x.1.length ≤ 1048576) (h2 : x.2.length ≤ 1048576) (k : Int) (h0 : 0 ≤ k) (hk : k ≤ 1000) : F_laws_markLedger x k = some (k + (cL x : Int), mkLd k x) := by
  have hB := big_pos
  have hB' : BIG = 4611686018427387904 := rfl
  have hc := cL_eq x
  unfold cL at hc
  unfold F_laws_markLedger
  rw [P_laws_markStringS _ (by omega) k h0 (by omega), Option.bind_some, P_laws_markSignS _ (by omega) _ (by omega) (by omega), Option.bind_some]
  show some (k + (cntL cS x.1 : Int) + (cntL cG x.2 : Int), mkLd k x) = _
  rw [show k + (cntL cS x.1 : Int) + (cntL cG x.2 : Int) = k + (cL x : Int) from by unfold cL; omega]
theorem P_laws_heldLedger (x : TL) (h1 : x.1.length ≤ 1048576) (h2 : x.2.length ≤ 1048576) (k : Int) (h0 : 0 ≤ k) (hk : k ≤ 1000) : F_laws_heldLedger (mkLd k x) k = some (k + (cL x : Int)) := by
  have hB := big_pos
  have hB' : BIG = 4611686018427387904 := rfl
  have hc := cL_eq x
  unfold cL at hc
  unfold F_laws_heldLedger mkLd
  rw [P_laws_heldStringS _ (by omega) k h0 (by omega), Option.bind_some, neg_off (by omega), P_laws_heldSignS _ (by omega) _ (by omega) (by omega), Option.bind_some, neg_off (by omega)]
  rw [show k + (cntL cS x.1 : Int) + (cntL cG x.2 : Int) = k + (cL x : Int) from by unfold cL; omega]
/-! empty lists -/
theorem mN (k : Int) : F_laws_markNodeS [] k = some (k, []) := by unfold F_laws_markNodeS; rw [loopO_out (x := ([], k)) (by simp)]; rfl
theorem mI (k : Int) : F_laws_markInt64S [] k = some (k, []) := by unfold F_laws_markInt64S; rw [loopO_out (x := ([], k)) (by simp)]; rfl
theorem mM (k : Int) : F_laws_markMemberS [] k = some (k, []) := by unfold F_laws_markMemberS; rw [loopO_out (x := ([], k)) (by simp)]; rfl
theorem mC (k : Int) : F_laws_markCoinS [] k = some (k, []) := by unfold F_laws_markCoinS; rw [loopO_out (x := ([], k)) (by simp)]; rfl
theorem mU (k : Int) : F_laws_markUndoS [] k = some (k, []) := by unfold F_laws_markUndoS; rw [loopO_out (x := ([], k)) (by simp)]; rfl
theorem hN (k : Int) : F_laws_heldNodeS [] k = some k := by unfold F_laws_heldNodeS; rw [loopO_out (x := Sum.inl k) (by simp)]; rfl
theorem hI (k : Int) : F_laws_heldInt64S [] k = some k := by unfold F_laws_heldInt64S; rw [loopO_out (x := Sum.inl k) (by simp)]; rfl
theorem hM (k : Int) : F_laws_heldMemberS [] k = some k := by unfold F_laws_heldMemberS; rw [loopO_out (x := Sum.inl k) (by simp)]; rfl
theorem hC (k : Int) : F_laws_heldCoinS [] k = some k := by unfold F_laws_heldCoinS; rw [loopO_out (x := Sum.inl k) (by simp)]; rfl
theorem hU (k : Int) : F_laws_heldUndoS [] k = some k := by unfold F_laws_heldUndoS; rw [loopO_out (x := Sum.inl k) (by simp)]; rfl
theorem eN : F_laws_eqNodeS [] [] = some true := by unfold F_laws_eqNodeS; rw [loopO_out (x := Sum.inl ()) (by simp)]; rfl
theorem eI : F_laws_eqInt64S [] [] = some true := by unfold F_laws_eqInt64S; rw [loopO_out (x := Sum.inl ()) (by simp)]; rfl
theorem eM : F_laws_eqMemberS [] [] = some true := by unfold F_laws_eqMemberS; rw [loopO_out (x := Sum.inl ()) (by simp)]; rfl
theorem eC : F_laws_eqCoinS [] [] = some true := by unfold F_laws_eqCoinS; rw [loopO_out (x := Sum.inl ()) (by simp)]; rfl
theorem eU : F_laws_eqUndoS [] [] = some true := by unfold F_laws_eqUndoS; rw [loopO_out (x := Sum.inl ()) (by simp)]; rfl
theorem P_eqRes (k : Int) (l : TL) (hl : bL (bL bAny) l.1 ∧ bL bAny l.2) : F_laws_eqChainResult (resX k l) (resX k l) = some true := by
  unfold F_laws_eqChainResult F_laws_eqChain F_laws_eqState resX
  simp only [P_laws_eqLedger l l hl, eN, eI, eM, eC, eU, decide_true, Bool.not_true, cond_false, Option.bind_some]
theorem P_markRes (k : Int) (l : TL) (h1 : l.1.length ≤ 1048576) (h2 : l.2.length ≤ 1048576) : F_laws_markChainResult (resX k l) 1 = some (1 + (cL l : Int), resX k (mkLd 1 l)) := by
  unfold F_laws_markChainResult F_laws_markChain F_laws_markState resX
  simp only [P_laws_markLedger l h1 h2 1 (by omega) (by omega), mN, mI, mM, mC, mU, Option.bind_some]
theorem P_heldRes (k : Int) (l : TL) (h1 : l.1.length ≤ 1048576) (h2 : l.2.length ≤ 1048576) : F_laws_heldChainResult (resX k (mkLd 1 l)) 1 = some (1 + (cL l : Int)) := by
  unfold F_laws_heldChainResult F_laws_heldChain F_laws_heldState resX
  simp only [P_laws_heldLedger l h1 h2 1 (by omega) (by omega), hN, hI, hM, hC, hU, Option.bind_some]
  simp only [neg_off (show 0 ≤ 1 + (cL l : Int) by omega), Option.bind_some]
theorem bLedger_of (x : TL) (h : Bnd s1 x) : bL (bL bAny) x.1 ∧ bL bAny x.2 := by
  obtain ⟨h1, h2⟩ := h
  exact ⟨bL_of (s := .str) (p := bL bAny) (fun y hy => ⟨hy, fun _ _ => trivial⟩) h1, bL_of (s := s0) (p := bAny) (fun _ _ => trivial) h2⟩
theorem law_FnExactNewChain (x : TL) (hx : bL (bL bAny) x.1 ∧ bL bAny x.2) : F_laws_FnExactNewChain x = some true := by
  unfold F_laws_FnExactNewChain
  rw [P_laws_szLedger x hx 1048576 (by omega) (by omega), Option.bind_some]
  cases hc : decide (szr (totStr x.1 + x.2.length) 1048576 < 0) with
  | true => rfl
  | false =>
    have h1 : 0 ≤ szr (totStr x.1 + x.2.length) 1048576 := by have := of_decide_eq_false hc; omega
    have hl1 := szr_le h1
    have hn : totStr x.1 + x.2.length ≤ 1048576 := by
      unfold szr at h1
      split at h1
      · omega
      · omega
    have hs1 : x.1.length ≤ totStr x.1 := Nat.le_add_right _ _
    have hx1 : x.1.length ≤ 1048576 := by omega
    have hx2 : x.2.length ≤ 1048576 := by omega
    obtain ⟨k, l, hm, hl, g1, g2⟩ : ∃ k l, mNC x = resX k l ∧ (bL (bL bAny) l.1 ∧ bL bAny l.2) ∧ l.1.length ≤ 1048576 ∧ l.2.length ≤ 1048576 := by
      unfold mNC
      split
      · exact ⟨0, x, rfl, hx, hx1, hx2⟩
      · exact ⟨mLF x, noL, rfl, ⟨⟨by simp [noL], by simp [noL]⟩, ⟨by simp [noL], by simp [noL]⟩⟩, by simp [noL], by simp [noL]⟩
    rw [cond_false]
    simp only [P_laws_toLedger x hx1 hx2, P_spec_NewChain x hx1 hx2, P_impl_NewChain x hx1 hx2, hm, P_eqRes k l hl, P_markRes k l g1 g2, P_heldRes k l g1 g2, Option.bind_some, P_laws_eqLedger x x hx, decide_true, Bool.not_true, cond_false, P_laws_markLedger x hx1 hx2 1 (by omega) (by omega)]
    simp only [neg_off (show 0 ≤ 1 + (cL x : Int) by omega), neg_off (show 0 ≤ 1 + (cL l : Int) by omega), Option.bind_some, cond_false]
end NC
end Go.Dx
