/- A LIBRARY: an executor over the code of a program, proved sound: what its letters say of a function is so (contract_of); how a row is closed by it (law_calls) -/
import Derived.Test.YtdlnpjjdenahoaaDxc
import Derived.Sort.WalkB12
set_option linter.unusedVariables false
set_option linter.unusedSimpArgs false
namespace Go.Dx
/-! plain laws: more loops -/
theorem loopO_none {S X : Type} {f : S → Option (S ⊕ X)} {s : S} (h : f s = none) : loopO f s = none := by
  cases hl : loopO f s with
  | none => rfl
  | some x =>
    obtain ⟨n, hn⟩ := loopO_iff hl
    cases n with
    | zero => simp [iterO] at hn
    | succ n => unfold iterO at hn; rw [h] at hn; cases hn
theorem loopO_next {S X : Type} {f : S → Option (S ⊕ X)} {s s' : S} (h : f s = some (.inl s')) : loopO f s = loopO f s' := by
  cases hl : loopO f s' with
  | some x => exact loopO_go h hl
  | none =>
    cases hl2 : loopO f s with
    | none => rfl
    | some x =>
      obtain ⟨n, hn⟩ := loopO_iff hl2
      cases n with
      | zero => simp [iterO] at hn
      | succ n =>
        unfold iterO at hn; rw [h] at hn
        rw [loopO_of hn] at hl; cases hl
/-- no list is longer -/
def BIG : Nat := 4611686018427387904
theorem dlt {i n : Nat} (h : i < n) : decide ((i : Int) < (n : Int)) = true := by simpa using h
theorem dge (n : Nat) : decide ((n : Int) < (n : Int)) = false := by simp
theorem wsucc {i n : Nat} (h : i < n) (hb : n < BIG) : IntKind.wrap .i64 ((i : Int) + 1) = ((i + 1 : Nat) : Int) := by
  rw [wrap_id (by omega) (by unfold BIG at hb; omega)]; rfl
theorem wpred {i n : Nat} (h : i < n) (hb : n < BIG) : IntKind.wrap .i64 ((i + 1 : Nat) - 1 : Int) = (i : Int) := by
  rw [wrap_id (by omega) (by unfold BIG at hb; omega)]; omega
theorem cutOk_nat {α : Type} (l : List α) (i : Nat) (h : i ≤ l.length) : cutOk 0 (i : Int) l = true := by
  simp [cutOk]; omega
theorem cut_nat {α : Type} (l : List α) (i : Nat) : cut 0 (i : Int) l = l.take i := by
  simp [cut]
/-- the first answer on the way along a list -/
def first {α β : Type} (g : Nat → α → Option β) : Nat → List α → Option β
  | _, [] => none
  | i, a :: l => match g i a with | some r => some r | none => first g (i + 1) l
theorem loop_first {α β : Type} (l : List α) (g : Nat → α → Option β) (f : Int → Option (Int ⊕ (Unit ⊕ β)))
    (hs : ∀ (i : Nat) (h : i < l.length), f (i : Int) = some (match g i l[i] with | none => .inl ((i + 1 : Nat) : Int) | some r => .inr (.inr r))) (he : f (l.length : Int) = some (.inr (.inl ()))) :
    loopO f 0 = some (match first g 0 l with | none => .inl () | some r => .inr r) := by
  have key : ∀ (k i : Nat), i + k = l.length → loopO f (i : Int) = some (match first g i (l.drop i) with | none => .inl () | some r => .inr r) := by
    intro k
    induction k with
    | zero =>
      intro i hi
      obtain rfl : i = l.length := by omega
      rw [loopO_out he, List.drop_length]; rfl
    | succ k ih =>
      intro i hi
      have h1 : i < l.length := by omega
      have hs := hs i h1
      rw [List.drop_eq_getElem_cons h1]
      simp only [first]
      cases hg : g i l[i] with
      | none => rw [hg] at hs; rw [loopO_next hs, ih (i + 1) (by omega)]
      | some r => rw [hg] at hs; rw [loopO_out hs]
  have := key l.length 0 (by omega)
  simpa using this
/-- the same where the way ahead may not be gone before what is behind is known: what is seen so far is given -/
theorem first_congr {α β : Type} {g g' : Nat → α → Option β} : ∀ (l : List α) (i : Nat), (∀ j a, i ≤ j → l[j - i]? = some a → g j a = g' j a) → first g i l = first g' i l
  | [], _, _ => rfl
  | a :: l, i, h => by
    simp only [first]
    rw [h i a (Nat.le_refl _) (by simp)]
    cases g' i a with
    | some r => rfl
    | none => exact first_congr l (i + 1) (fun j b hj hb => h j b (by omega) (by rw [show j - i = (j - (i + 1)) + 1 by omega]; simpa using hb))
/-- what is none up to a place is so of each place ahead -/
theorem first_none {α β : Type} {g : Nat → α → Option β} : ∀ (l : List α) (i : Nat), first g i l = none ↔ ∀ j a, l[j]? = some a → g (i + j) a = none
  | [], i => by simp [first]
  | a :: l, i => by
    simp only [first]
    constructor
    · intro h j b hb
      cases hg : g i a with
      | some r => rw [hg] at h; cases h
      | none =>
        rw [hg] at h
        cases j with
        | zero => simp only [List.getElem?_cons_zero, Option.some.injEq] at hb; subst hb; exact hg
        | succ j => rw [show i + (j + 1) = i + 1 + j by omega]; exact (first_none l (i + 1)).1 h j b (by simpa using hb)
    · intro h
      rw [show g i a = none from h 0 a (by simp)]
      exact (first_none l (i + 1)).2 (fun j b hb => by rw [show i + 1 + j = i + (j + 1) by omega]; exact h (j + 1) b (by simpa using hb))
/-- the same, where a step is known to be alike so long as nothing has come up -/
theorem first_congr_pre {α β : Type} {g g' : Nat → α → Option β} (l : List α) (h : ∀ j a, l[j]? = some a → (∀ k b, k < j → l[k]? = some b → g k b = none) → g j a = g' j a) : first g 0 l = first g' 0 l := by
  have key : ∀ (n : Nat), n ≤ l.length → (∀ k b, k < l.length - n → l[k]? = some b → g k b = none) → first g (l.length - n) (l.drop (l.length - n)) = first g' (l.length - n) (l.drop (l.length - n)) := by
    intro n
    induction n with
    | zero => intro _ _; simp [first]
    | succ n ih =>
      intro hn hp
      have h1 : l.length - (n + 1) < l.length := by omega
      rw [List.drop_eq_getElem_cons h1]
      simp only [first]
      rw [← h _ _ (List.getElem?_eq_getElem h1) hp]
      cases hg : g (l.length - (n + 1)) l[l.length - (n + 1)] with
      | some r => rfl
      | none =>
        simp only
        rw [show l.length - (n + 1) + 1 = l.length - n by omega]
        refine ih (by omega) (fun k b hk hb => ?_)
        by_cases hkk : k < l.length - (n + 1)
        · exact hp k b hkk hb
        · have : k = l.length - (n + 1) := by omega
          subst this
          rw [List.getElem?_eq_getElem h1] at hb
          simp only [Option.some.injEq] at hb; subst hb; exact hg
  have := key l.length (Nat.le_refl _) (fun k b hk => by omega)
  simpa using this
theorem first_any {α β : Type} (p : α → Bool) (r : β) : ∀ (l : List α) (i : Nat), first (fun _ a => if p a then some r else none) i l = if l.any p then some r else none
  | [], _ => rfl
  | a :: l, i => by
    simp only [first, List.any_cons]
    by_cases hp : p a = true
    · simp [hp]
    · simp [hp, first_any p r l (i + 1)]
/-- the place of the first that has it, or -1 -/
def idxF {α : Type} (p : α → Bool) (l : List α) : Int := match first (fun i a => if p a then some (i : Int) else none) 0 l with | some i => i | none => -1
theorem first_idx {α : Type} (p : α → Bool) : ∀ (l : List α) (i : Nat), first (fun i a => if p a then some (i : Int) else none) i l = (List.findIdx? p l).map (fun k => ((i + k : Nat) : Int))
  | [], _ => by simp [first]
  | a :: l, i => by
    simp only [first, List.findIdx?_cons]
    by_cases hp : p a = true
    · simp [hp]
    · simp [hp, first_idx p l (i + 1)]
      cases List.findIdx? p l with
      | none => rfl
      | some k => simp; omega
theorem idxF_eq {α : Type} (p : α → Bool) (l : List α) : idxF p l = match List.findIdx? p l with | some k => (k : Int) | none => -1 := by
  unfold idxF
  rw [first_idx]
  cases List.findIdx? p l with
  | none => rfl
  | some k => simp
theorem idxF_neg {α : Type} (p : α → Bool) (l : List α) : idxF p l < 0 ↔ l.any p = false := by
  rw [idxF_eq]
  cases h : List.findIdx? p l with
  | none =>
    rw [List.findIdx?_eq_none_iff] at h
    simp only [List.any_eq_false]
    constructor
    · intro _ x hx; rw [h x hx]; simp
    · intro _; decide
  | some k =>
    simp only
    constructor
    · intro h; omega
    · intro hf
      rw [List.findIdx?_eq_some_iff_getElem] at h
      obtain ⟨hk, hp, _⟩ := h
      rw [List.any_eq_false] at hf
      exact absurd hp (hf _ (List.getElem_mem hk))
theorem idxF_nonneg {α : Type} (p : α → Bool) (l : List α) : decide (0 ≤ idxF p l) = l.any p := by
  cases h : l.any p with
  | false => have := (idxF_neg p l).2 h; simp; omega
  | true =>
    have : ¬ idxF p l < 0 := fun hh => by rw [(idxF_neg p l).1 hh] at h; cases h
    simp; omega
theorem idxF_dneg {α : Type} (p : α → Bool) (l : List α) : decide (idxF p l < 0) = !l.any p := by
  rw [← idxF_nonneg]
  by_cases h : idxF p l < 0
  · have h2 : ¬ 0 ≤ idxF p l := by omega
    simp [h, h2]
  · have h2 : 0 ≤ idxF p l := by omega
    simp [h, h2]
/-- found -/
theorem idxF_found {α : Type} {p : α → Bool} {l : List α} (h : l.any p = true) : ∃ (k : Nat) (hk : k < l.length), idxF p l = (k : Int) ∧ p l[k] = true ∧ ∀ j (hj : j < k), p (l[j]'(by omega)) = false := by
  rw [idxF_eq]
  cases hf : List.findIdx? p l with
  | none =>
    rw [List.findIdx?_eq_none_iff] at hf
    rw [List.any_eq_true] at h
    obtain ⟨x, hx, hp⟩ := h
    rw [hf x hx] at hp; cases hp
  | some k =>
    rw [List.findIdx?_eq_some_iff_getElem] at hf
    obtain ⟨hk, hp, hj⟩ := hf
    exact ⟨k, hk, rfl, hp, fun j hjk => by simpa using hj j hjk⟩
/-- behind a walk along a list -/
theorem bind_first {β γ : Type} (o : Option β) (A : Unit → Option γ) (B : β → Option γ) :
    ((some (match o with | none => Sum.inl () | some r => Sum.inr r) : Option (Unit ⊕ β)).bind fun j => Sum.elim A B j) = match o with | none => A () | some r => B r := by
  cases o <;> rfl
theorem loop_idx {α : Type} (l : List α) (p : α → Bool) (f : Int → Option (Int ⊕ (Unit ⊕ Int)))
    (hs : ∀ (i : Nat) (h : i < l.length), f (i : Int) = some (if p l[i] then .inr (.inr (i : Int)) else .inl ((i + 1 : Nat) : Int))) (he : f (l.length : Int) = some (.inr (.inl ()))) :
    ((loopO f 0).bind fun j => Sum.elim (fun _ => some (-1)) (fun j => some j) j) = some (idxF p l) := by
  rw [loop_first l (fun i a => if p a then some (i : Int) else none) f (fun i h => by rw [hs i h]; cases p l[i] <;> rfl) he, bind_first]
  unfold idxF
  cases first (fun i a => if p a then some (i : Int) else none) 0 l <;> rfl
theorem loop_any {α : Type} (l : List α) (p : α → Bool) (f : Int → Option (Int ⊕ (Unit ⊕ Bool)))
    (hs : ∀ (i : Nat) (h : i < l.length), f (i : Int) = some (if p l[i] then .inr (.inr true) else .inl ((i + 1 : Nat) : Int))) (he : f (l.length : Int) = some (.inr (.inl ()))) :
    ((loopO f 0).bind fun j => Sum.elim (fun _ => some false) (fun j => some j) j) = some (l.any p) := by
  rw [loop_first l (fun i a => if p a then some true else none) f (fun i h => by rw [hs i h]; cases p l[i] <;> rfl) he, bind_first, first_any]
  cases l.any p <;> rfl
/-- a walk that carries something along -/
def along {α σ : Type} (g : σ → α → σ) : List α → σ → σ
  | [], t => t
  | a :: l, t => along g l (g t a)
theorem loop_fold {α σ S X : Type} (l : List α) (g : σ → α → σ) (enc : σ → Int → S) (D : σ → X) (Ok : σ → Nat → Prop) (f : S → Option (S ⊕ X))
    (hs : ∀ (i : Nat) (h : i < l.length) (t : σ), Ok t i → f (enc t (i : Int)) = some (.inl (enc (g t l[i]) ((i + 1 : Nat) : Int))) ∧ Ok (g t l[i]) (i + 1))
    (he : ∀ t, Ok t l.length → f (enc t (l.length : Int)) = some (.inr (D t))) (t : σ) (h0 : Ok t 0) : loopO f (enc t 0) = some (D (l.foldl g t)) := by
  have key : ∀ (k i : Nat) (t : σ), i + k = l.length → Ok t i → loopO f (enc t (i : Int)) = some (D ((l.drop i).foldl g t)) := by
    intro k
    induction k with
    | zero =>
      intro i t hi ht
      obtain rfl : i = l.length := by omega
      rw [loopO_out (he t ht), List.drop_length]; rfl
    | succ k ih =>
      intro i t hi ht
      have h1 : i < l.length := by omega
      obtain ⟨hs1, hs2⟩ := hs i h1 t ht
      rw [loopO_next hs1, List.drop_eq_getElem_cons h1, List.foldl_cons]
      exact ih (i + 1) _ (by omega) hs2
  have := key l.length 0 t (by omega) h0
  simpa using this
theorem foldl_filter {α : Type} (p : α → Bool) : ∀ (l acc : List α), l.foldl (fun acc a => if p a then acc ++ [a] else acc) acc = acc ++ l.filter p
  | [], acc => by simp
  | a :: l, acc => by
    rw [List.foldl_cons, foldl_filter p l]
    cases hp : p a <;> simp [hp]
theorem foldl_map {α β : Type} (q : α → β) : ∀ (l : List α) (acc : List β), l.foldl (fun acc a => acc ++ [q a]) acc = acc ++ l.map q
  | [], acc => by simp
  | a :: l, acc => by rw [List.foldl_cons, foldl_map q l]; simp
theorem foldl_filterMap {α β : Type} (p : α → Bool) (q : α → β) : ∀ (l : List α) (acc : List β), l.foldl (fun acc a => if p a then acc ++ [q a] else acc) acc = acc ++ (l.filter p).map q
  | [], acc => by simp
  | a :: l, acc => by
    rw [List.foldl_cons, foldl_filterMap p q l]
    cases hp : p a <;> simp [hp]
theorem foldl_count {α : Type} (p : α → Bool) : ∀ (l : List α) (n : Int), l.foldl (fun n a => if p a then n + 1 else n) n = n + (l.countP p : Int)
  | [], n => by simp
  | a :: l, n => by
    rw [List.foldl_cons, foldl_count p l]
    cases hp : p a
    · simp [hp]
    · simp only [if_true, List.countP_cons, hp]
      simp; omega
theorem append_one_lim {α : Type} (acc : List α) (a : α) (n : Nat) (h : acc.length ≤ n) (hn : n < LIM) : decide (List.length acc + List.length [a] ≤ LIM) = true := by
  simp; omega
/-- the first code that is not 0, on the way along a list -/
def code {α : Type} (c : Nat → α → Int) (l : List α) : Int := match first (fun i a => if c i a = 0 then none else some (c i a)) 0 l with | none => 0 | some r => r
theorem loop_code {α : Type} (l : List α) (c : Nat → α → Int) (f : Int → Option (Int ⊕ (Unit ⊕ Int)))
    (hs : ∀ (i : Nat) (h : i < l.length), f (i : Int) = some (if c i l[i] = 0 then .inl ((i + 1 : Nat) : Int) else .inr (.inr (c i l[i])))) (he : f (l.length : Int) = some (.inr (.inl ()))) :
    ((loopO f 0).bind fun j => Sum.elim (fun _ => some 0) (fun j => some j) j) = some (code c l) := by
  rw [loop_first l (fun i a => if c i a = 0 then none else some (c i a)) f (fun i h => by rw [hs i h]; by_cases hc : c i l[i] = 0 <;> simp [hc]) he, bind_first]
  unfold code
  cases first (fun i a => if c i a = 0 then none else some (c i a)) 0 l <;> rfl
theorem bif_code {β : Type} (y : Int) (a b : β) : (bif !decide (y = 0) then a else b) = if y = 0 then b else a := by
  by_cases h : y = 0 <;> simp [h]
theorem code_zero {α : Type} {c : Nat → α → Int} {l : List α} (h : code c l = 0) : ∀ i a, l[i]? = some a → c i a = 0 := by
  unfold code at h
  cases hf : first (fun i a => if c i a = 0 then none else some (c i a)) 0 l with
  | none =>
    intro i a ha
    have := (first_none l 0).1 hf i a ha
    simp only [Nat.zero_add] at this
    by_cases hc : c i a = 0
    · exact hc
    · rw [if_neg hc] at this; cases this
  | some r =>
    rw [hf] at h
    simp only at h; subst h
    exfalso
    have key : ∀ (l : List α) (i : Nat), first (fun i a => if c i a = 0 then none else some (c i a)) i l ≠ some 0 := by
      intro l
      induction l with
      | nil => intro i h; cases h
      | cons a l ih =>
        intro i h
        simp only [first] at h
        by_cases hc : c i a = 0
        · rw [if_pos hc] at h; exact ih (i + 1) h
        · rw [if_neg hc] at h; simp only [Option.some.injEq] at h; exact hc h
    exact key l 0 hf
theorem code_congr {α : Type} {c c' : Nat → α → Int} (l : List α) (h : ∀ j a, l[j]? = some a → c j a = c' j a) : code c l = code c' l := by
  unfold code
  rw [first_congr l 0 (fun j a _ ha => by rw [h j a (by simpa using ha)])]
theorem idxF_inB {α : Type} {p : α → Bool} {l : List α} (h : 0 ≤ idxF p l) : inB (idxF p l) l = true := by
  have hany : l.any p = true := by rw [← idxF_nonneg]; simpa using h
  obtain ⟨k, hk, he, _⟩ := idxF_found hany
  rw [he]; exact inB_nat l k hk
theorem idxF_ge {α : Type} (p : α → Bool) (l : List α) : idxF p l < 0 ↔ idxF p l = -1 := by
  rw [idxF_eq]
  cases List.findIdx? p l with
  | none => simp
  | some k => simp only; omega
theorem beqP2 (a b : Int × Int) : Sh.beq (.prod (.int .i64) (.int .i64)) a b = decide (a = b) := by
  obtain ⟨a1, a2⟩ := a; obtain ⟨b1, b2⟩ := b
  simp only [Sh.beq]
  by_cases h1 : a1 = b1 <;> by_cases h2 : a2 = b2 <;> simp [h1, h2]
theorem beqBool (a b : Bool) : Sh.beq .bool a b = decide (a = b) := rfl
end Go.Dx

namespace Go.Dx
/-! plain laws: rising marks put into lists, and looked for -/
def mkL {α : Type} (cnt : α → Nat) (mk : Int → α → α) : Int → List α → List α
  | _, [] => []
  | k, a :: l => mk k a :: mkL cnt mk (k + cnt a) l
def cntL {α : Type} (cnt : α → Nat) (l : List α) : Nat := (l.map cnt).sum
theorem cntL_cons {α : Type} (cnt : α → Nat) (a : α) (l : List α) : cntL cnt (a :: l) = cnt a + cntL cnt l := by simp [cntL]
theorem mkL_len {α : Type} (cnt : α → Nat) (mk : Int → α → α) : ∀ (k : Int) (l : List α), (mkL cnt mk k l).length = l.length
  | _, [] => rfl
  | k, a :: l => by simp [mkL, mkL_len cnt mk _ l]
theorem inB_set {α : Type} (i : Int) (l : List α) (j : Nat) (a : α) : inB i (List.set l j a) = inB i l := by simp [inB]
theorem getD_set_same {α : Type} (l : List α) (i : Nat) (a d : α) (h : i < l.length) : List.getD (List.set l i a) i d = a := by
  simp [List.getD_eq_getElem?_getD, h]
theorem getD_at {α : Type} (l : List α) (i : Nat) (d : α) (h : i < l.length) : List.getD l i d = l[i] := by simp [List.getD_eq_getElem?_getD, List.getElem?_eq_getElem h]
theorem mark_loop {α : Type} (cnt : α → Nat) (mk : Int → α → α) (l : List α) (k : Int) (h0 : 0 ≤ k) (hb : k + (cntL cnt l : Int) < (BIG : Int)) (f : List α × Int × Int → Option ((List α × Int × Int) ⊕ (List α × Int)))
    (hs : ∀ (acc : List α) (i : Nat) (k : Int) (h : i < acc.length), acc.length = l.length → acc[i] ∈ l → 0 ≤ k → k + (cnt acc[i] : Int) < (BIG : Int) → f (acc, k, (i : Int)) = some (.inl (acc.set i (mk k acc[i]), k + (cnt acc[i] : Int), ((i + 1 : Nat) : Int))))
    (he : ∀ (acc : List α) (k : Int), acc.length = l.length → f (acc, k, (l.length : Int)) = some (.inr (acc, k))) :
    loopO f (l, k, 0) = some (mkL cnt mk k l, k + (cntL cnt l : Int)) := by
  have key : ∀ (rest pre : List α) (k : Int), pre.length + rest.length = l.length → (∀ a, a ∈ rest → a ∈ l) → 0 ≤ k → k + (cntL cnt rest : Int) < (BIG : Int) → loopO f (pre ++ rest, k, (pre.length : Int)) = some (pre ++ mkL cnt mk k rest, k + (cntL cnt rest : Int)) := by
    intro rest
    induction rest with
    | nil =>
      intro pre k hl _ _ _
      simp only [List.length_nil, Nat.add_zero] at hl
      rw [hl, loopO_out (he (pre ++ []) k (by simpa using hl))]
      simp [mkL, cntL]
    | cons a r ih =>
      intro pre k hl hm h0 hb
      rw [cntL_cons] at hb
      have hi : pre.length < (pre ++ a :: r).length := by simp
      have ha : (pre ++ a :: r)[pre.length]'hi = a := by simp
      have hs := hs (pre ++ a :: r) pre.length k hi (by simpa using hl) (by rw [ha]; exact hm a (by simp)) h0 (by rw [ha]; omega)
      rw [ha] at hs
      have hset : (pre ++ a :: r).set pre.length (mk k a) = (pre ++ [mk k a]) ++ r := by simp
      rw [hset] at hs
      rw [loopO_next hs]
      have := ih (pre ++ [mk k a]) (k + (cnt a : Int)) (by simp at hl ⊢; omega) (fun b hb => hm b (by simp [hb])) (by omega) (by omega)
      simp only [List.length_append, List.length_cons, List.length_nil] at this
      rw [this, cntL_cons]
      simp [mkL]
      omega
  have := key l [] k (by simp) (fun _ h => h) h0 hb
  simpa using this
theorem held_loop {α : Type} (cnt : α → Nat) (mk : Int → α → α) (l : List α) (k0 : Int) (h0 : 0 ≤ k0) (hb : k0 + (cntL cnt l : Int) < (BIG : Int)) (f : Int × Int → Option ((Int × Int) ⊕ (Int ⊕ Int)))
    (hs : ∀ (i : Nat) (k : Int) (h : i < l.length) (h' : i < (mkL cnt mk k0 l).length), 0 ≤ k → k + (cnt l[i] : Int) < (BIG : Int) → (mkL cnt mk k0 l)[i] = mk k l[i] → f (k, (i : Int)) = some (.inl (k + (cnt l[i] : Int), ((i + 1 : Nat) : Int))))
    (he : ∀ (k : Int), f (k, (l.length : Int)) = some (.inr (.inl k))) :
    ((loopO f (k0, 0)).bind fun j => Sum.elim (fun a => some a) (fun b => some b) j) = some (k0 + (cntL cnt l : Int)) := by
  have key : ∀ (n i : Nat) (k : Int), i + n = l.length → 0 ≤ k → k + (cntL cnt (l.drop i) : Int) < (BIG : Int) → (mkL cnt mk k0 l).drop i = mkL cnt mk k (l.drop i) → loopO f (k, (i : Int)) = some (.inl (k + (cntL cnt (l.drop i) : Int))) := by
    intro n
    induction n with
    | zero =>
      intro i k hi _ _ _
      obtain rfl : i = l.length := by omega
      rw [loopO_out (he k), List.drop_length]
      simp [cntL]
    | succ n ih =>
      intro i k hi h0 hb hd
      have h : i < l.length := by omega
      have h' : i < (mkL cnt mk k0 l).length := by rw [mkL_len]; exact h
      rw [List.drop_eq_getElem_cons h, cntL_cons] at hb
      rw [List.drop_eq_getElem_cons h, List.drop_eq_getElem_cons h', mkL] at hd
      have hd1 := (List.cons.inj hd).1
      have hd2 := (List.cons.inj hd).2
      rw [loopO_next (hs i k h h' h0 (by omega) hd1), ih (i + 1) _ (by omega) (by omega) (by omega) hd2, List.drop_eq_getElem_cons h, cntL_cons]
      congr 2
      simp; omega
  have := key l.length 0 k0 (by omega) h0 (by simpa using hb) (by simp)
  rw [show ((0 : Nat) : Int) = 0 from rfl] at this
  rw [this]
  simp
theorem cntL_le {α : Type} (cnt : α → Nat) : ∀ (l : List α) (a : α), a ∈ l → cnt a ≤ cntL cnt l
  | x :: l, a, h => by
    rw [cntL_cons]
    rcases List.mem_cons.1 h with h | h
    · subst h; omega
    · have := cntL_le cnt l a h; omega
theorem cntL_const {α : Type} (n : Nat) : ∀ (l : List α), cntL (fun _ => n) l = n * l.length
  | [] => by simp [cntL]
  | a :: l => by rw [cntL_cons, cntL_const n l, List.length_cons, Nat.mul_add]; omega
end Go.Dx

set_option maxRecDepth 100000
namespace Go.Dx
open Go.Proofs Go.Sort
variable {P : Program}
/-- what turning a row of numbers comes to: the contract, out of the two walks -/
theorem reverse_contract {j : FuncId} (hE : Enters P j)
    (h1 : ∀ (blk off cap : Nat) (d : Array Int) (w : World), Holds (Value.int .i64) w blk off d → d.size ≤ 9223372036854775807 →
      Calls P j #[.slice (some ⟨blk, off, none⟩) d.size cap] w fun e w' => e = .returned (.tuple #[]) ∧ ∃ n, w' = putRow (Value.int .i64) (Sort.ahead w n) blk off d.reverse)
    (h2 : ∀ (a : Option Addr) (cap : Nat) (w : World), Calls P j #[.slice a 0 cap] w fun e w' => e = .returned (.tuple #[]) ∧ w' = w) :
    Contract P j { ins := [.mu (.list (.int .i64)) (.o .z) (.o .z)], outs := [], F := fun t => bif Nat.ble (List.length t.1) 9223372036854775807 then some (List.reverse t.1) else none } := by
  refine ⟨hE, fun w ow vs xs ys hlt hp hF => ?_⟩
  match vs, hp with
  | [], hp => exact hp.elim
  | _ :: _ :: _, hp => cases hp.2
  | [v], hp =>
    obtain ⟨⟨hform, A, n, cap, e1, e2, e3, e4⟩, _⟩ := hp
    obtain ⟨x, _⟩ := xs
    have e2 : List.length (α := Int) x = n := e2
    have hv1 : v.cells = #[v] := hform
    simp only [cellsV, hv1] at e1
    simp only [List.getElem?_toArray, List.getElem?_cons_zero, Option.some.injEq] at e1
    subst e1
    have hF : (bif Nat.ble (List.length (α := Int) x) 9223372036854775807 then some (List.reverse x) else none) = some ys := hF
    cases hb : Nat.ble (List.length (α := Int) x) 9223372036854775807 with
    | false => rw [hb] at hF; cases hF
    | true =>
    rw [hb, cond_true] at hF
    have hlen := Nat.le_of_ble_eq_true hb
    simp only [Option.some.injEq] at hF
    have hF : (List.reverse x : List Int) = ys := hF
    subst hF
    let ow' : Nat → Tag := fun j => if ow j = .fl 0 then .b 0 else ow j
    have kz : ∀ j, ow j ≠ .fl 0 → ow' j = ow j := fun j hj => by simp [ow', hj]
    have k0 : ∀ j, ow j = .fl 0 → ow' j = .b 0 := fun j hj => by simp [ow', hj]
    have hlt' : ∀ j, ow' j ≠ .none → j < w.heap.size := fun j hj => hlt j fun h0 => hj (by rw [kz j (by rw [h0]; simp)]; exact h0)
    rcases e4 with ⟨rfl, rfl, rfl⟩ | ⟨b, off, arr, ty, rfl, hS, hblk, hsz, t1, hr⟩
    · have hx : x = ([] : List Int) := List.eq_nil_of_length_eq_zero e2
      subst hx
      refine (h2 none 0 w).mono fun e w' h => ?_
      obtain ⟨rfl, rfl⟩ := h
      refine ⟨.tuple #[], ow', rfl, ⟨Streams.refl _, fun j hj h => ⟨rfl, kz j (by rcases h with h | h <;> rw [h] <;> simp)⟩, hlt', ⟨rfl, #[], rfl, rfl, fun k o y u hk => by simp at hk⟩, ?_⟩⟩
      exact ⟨⟨rfl, hform, none, 0, 0, rfl, rfl, Nat.le_refl _, .inl ⟨rfl, rfl, rfl⟩⟩, rfl, rfl⟩
    · have hSb : ow b = .fl 0 := hS
      have hH : Holds (Value.int .i64) w b off (List.toArray x) := by
        intro k hk
        have hk' : k < List.length (α := Int) x := by simpa using hk
        have hr := hr k hk'
        have hr : cellsAt w b (off + k * 1) 0 = some (.int .i64 (x[k]'hk')) := hr (by simp)
        constructor
        · rw [getElem!_pos _ k hk]
          simpa [cellsAt] using hr
        · simp [World.frozen?, hblk]
      have hw1 := h1 b off cap (List.toArray x) w hH (by simpa using hlen)
      rw [show (List.toArray x : Array Int).size = n by simpa using e2] at hw1
      refine hw1.mono fun e w' h => ?_
      obtain ⟨rfl, m, rfl⟩ := h
      have hw' : Holds (Value.int .i64) (putRow (Value.int .i64) (Sort.ahead w m) b off (List.toArray x : Array Int).reverse) b off (List.toArray x : Array Int).reverse :=
        holds_putRow _ _ _ _ (List.toArray x) _ (holds_ahead _ _ _ _ _ _ hH) (by simp)
      have hheap : (putRow (Value.int .i64) (Sort.ahead w m) b off (List.toArray x : Array Int).reverse).heap = w.heap.modify b (onCells (putCells (Value.int .i64) off (List.toArray x : Array Int).reverse)) := rfl
      have hother : ∀ j, j ≠ b → (putRow (Value.int .i64) (Sort.ahead w m) b off (List.toArray x : Array Int).reverse).heap[j]? = w.heap[j]? := fun j hj => by
        rw [hheap, Array.getElem?_modify, if_neg (Ne.symm hj)]
      have hblk' : (putRow (Value.int .i64) (Sort.ahead w m) b off (List.toArray x : Array Int).reverse).heap[b]? = some (.cells (putCells (Value.int .i64) off (List.toArray x : Array Int).reverse arr) ty (0, 0)) := by
        rw [hheap, Array.getElem?_modify, if_pos rfl, hblk]; rfl
      have hst : Streams w (putRow (Value.int .i64) (Sort.ahead w m) b off (List.toArray x : Array Int).reverse) := ⟨rfl, rfl, rfl, by simp⟩
      have hsz2 : (putRow (Value.int .i64) (Sort.ahead w m) b off (List.toArray x : Array Int).reverse).heap.size = w.heap.size := by simp
      have hcs : (putCells (Value.int .i64) off (List.toArray x : Array Int).reverse arr).size = arr.size := by simp [putCells]
      generalize putRow (Value.int .i64) (Sort.ahead w m) b off (List.toArray x : Array Int).reverse = w2 at *
      generalize putCells (Value.int .i64) off (List.toArray x : Array Int).reverse arr = arr2 at *
      refine ⟨.tuple #[], ow', rfl, ⟨hst, fun j hj h => ⟨hother j (fun hjb => ?_), kz j (by rcases h with h | h <;> rw [h] <;> simp)⟩, fun j hj => by rw [hsz2]; exact hlt' j hj, ⟨rfl, #[], rfl, rfl, fun k o y u hk => by simp at hk⟩, ?_⟩⟩
      · subst hjb; rw [hSb] at h; rcases h with h | h <;> cases h
      · refine ⟨⟨rfl, hform, some ⟨b, off, none⟩, n, cap, rfl, by show (List.reverse x).length = n; simpa using e2, e3, .inr ⟨b, off, arr2, ty, rfl, k0 b hSb, hblk', by rw [hcs]; exact hsz, t1, fun k hk => ?_⟩⟩, rfl, rfl⟩
        intro _
        have hk' : k < (List.toArray x : Array Int).reverse.size := by simpa using hk
        have := (hw' k hk').1
        rw [getElem!_pos _ k hk'] at this
        simp only [cellsAt, Sh.size, Nat.mul_one, Nat.add_zero]
        rw [this]
        simp
end Go.Dx
