/- The plain law: no program in sight -/
import Derived.Test.YtdlnpjjdenahoaaSca
set_option linter.unusedVariables false
set_option linter.unusedSimpArgs false
set_option maxHeartbeats 1000000
namespace Go.Dx
namespace SC
abbrev TCoin := (Int × Int) × (Int × List Int × Int × Int) × Int × Bool
abbrev TM := Int × Int × Int
abbrev TUndo := Int × List (List TCoin) × List TM
abbrev TState := Int × Int × List TCoin × List TM
abbrev TChain := (List (List UInt8) × List (Int × Int)) × List TM × List Int × TState × List TUndo
def totStr (l : List (List UInt8)) : Nat := l.length + (l.map List.length).sum
def totCoin (c : TCoin) : Nat := c.2.1.2.1.length
def totCoins (l : List TCoin) : Nat := l.length + (l.map totCoin).sum
def totCoinSS (l : List (List TCoin)) : Nat := l.length + (l.map totCoins).sum
def totUndo (u : TUndo) : Nat := totCoinSS u.2.1 + u.2.2.length
def totUndos (l : List TUndo) : Nat := l.length + (l.map totUndo).sum
def totState (s : TState) : Nat := totCoins s.2.2.1 + s.2.2.2.length
def totChain (c : TChain) : Nat := ((((totStr c.1.1 + c.1.2.length) + c.2.1.length) + c.2.2.1.length) + totState c.2.2.2.1) + totUndos c.2.2.2.2
/-- every list fits a machine -/
def bL {α : Type} (p : α → Prop) (l : List α) : Prop := l.length ≤ 9223372036854775807 ∧ ∀ y, y ∈ l → p y
def bAny {α : Type} (_ : α) : Prop := True
def bCoin (c : TCoin) : Prop := bL bAny c.2.1.2.1
def bUndo (u : TUndo) : Prop := bL (bL bCoin) u.2.1 ∧ bL bAny u.2.2
def bState (s : TState) : Prop := bL bCoin s.2.2.1 ∧ bL bAny s.2.2.2
def bChain (c : TChain) : Prop := (bL (bL bAny) c.1.1 ∧ bL bAny c.1.2) ∧ bL bAny c.2.1 ∧ bL bAny c.2.2.1 ∧ bState c.2.2.2.1 ∧ bL bUndo c.2.2.2.2
theorem bL_of {s : Sh} {p : s.den → Prop} (hp : ∀ y, Bnd s y → p y) {l : List s.den} (h : Bnd (.list s) l) : bL p l := ⟨h.1, fun y hy => hp y (h.2 y hy)⟩
theorem bChain_of (c : TChain) (h : Bnd s16 c) : bChain c := by
  obtain ⟨⟨h1, h2⟩, h3, h4, ⟨_, _, h5, h6⟩, h7⟩ := h
  have coin : ∀ y : TCoin, Bnd s7 y → bCoin y := fun y hy => by
    obtain ⟨_, ⟨_, hy, _⟩, _⟩ := hy
    exact bL_of (s := .int .i64) (p := bAny) (fun _ _ => trivial) hy
  exact ⟨⟨bL_of (s := .str) (p := bL bAny) (fun y hy => ⟨hy, fun _ _ => trivial⟩) h1, bL_of (s := s0) (p := bAny) (fun _ _ => trivial) h2⟩, bL_of (s := s2) (p := bAny) (fun _ _ => trivial) h3, bL_of (s := .int .i64) (p := bAny) (fun _ _ => trivial) h4,
    ⟨bL_of (s := s7) (p := bCoin) coin h5, bL_of (s := s2) (p := bAny) (fun _ _ => trivial) h6⟩,
    bL_of (s := s12) (p := bUndo) (fun y hy => by
      obtain ⟨_, hy1, hy2⟩ := hy
      exact ⟨bL_of (s := .list s7) (p := bL bCoin) (fun z hz => bL_of (s := s7) (p := bCoin) coin hz) hy1, bL_of (s := s2) (p := bAny) (fun _ _ => trivial) hy2⟩) h7⟩
theorem wrap_succ (i n : Nat) (h : i < n) (hn : n ≤ 9223372036854775807) : IntKind.wrap .i64 ((i : Int) + 1) = ((i + 1 : Nat) : Int) := by
  rw [wrap_id (by omega) (by omega)]; omega
theorem step_sz (t : Nat) (left : Int) (c : Int) (h0 : 0 ≤ left) : (bif decide (szr t left < 0) then (some (Sum.inr (Sum.inr (-1))) : Option ((Int × Int) ⊕ (Int ⊕ Int))) else some (Sum.inl (szr t left, c))) = if (t : Int) ≤ left then some (Sum.inl (left - t, c)) else some (Sum.inr (Sum.inr (-1))) := by
  by_cases h : (t : Int) ≤ left
  · have e : szr t left = left - t := by simp [szr, h]
    have hn : ¬ (left - (t : Int)) < 0 := by omega
    simp [e, hn, h]
  · have e : szr t left = -1 := by simp [szr, h]
    simp [e, h]
theorem step_szw (t : Nat) (left : Int) (c : Int) (h0 : 0 ≤ left) (h1 : left ≤ 1048576) (ht : t ≤ 9223372036854775807) : (bif decide (IntKind.wrap .i64 (left - (t : Int)) < 0) then (some (Sum.inr (Sum.inr (-1))) : Option ((Int × Int) ⊕ (Int ⊕ Int))) else some (Sum.inl (IntKind.wrap .i64 (left - (t : Int)), c))) = if (t : Int) ≤ left then some (Sum.inl (left - t, c)) else some (Sum.inr (Sum.inr (-1))) := by
  rw [wrap_id (by omega) (by omega)]
  by_cases h : (t : Int) ≤ left
  · have hn : ¬ (left - (t : Int)) < 0 := by omega
    simp [hn, h]
  · have hn : (left - (t : Int)) < 0 := by omega
    simp [hn, h]
theorem szr_zero (left : Int) (h : 0 ≤ left) : szr 0 left = left := by simp [szr, h]
theorem P_laws_szSignS (x : List (Int × Int)) (hx : x.length ≤ 9223372036854775807) (left : Int) (h0 : 0 ≤ left) (h1 : left ≤ 1048576) : F_laws_szSignS x left = some (szr x.length left) := by
  unfold F_laws_szSignS
  exact szr_lead (b := 0) (k := fun l => some l) h0 h1 hx (fun h => by rw [szr_zero _ (by omega)])
theorem P_laws_szNodeS (x : List TM) (hx : x.length ≤ 9223372036854775807) (left : Int) (h0 : 0 ≤ left) (h1 : left ≤ 1048576) : F_laws_szNodeS x left = some (szr x.length left) := by
  unfold F_laws_szNodeS
  exact szr_lead (b := 0) (k := fun l => some l) h0 h1 hx (fun h => by rw [szr_zero _ (by omega)])
theorem P_laws_szInt64S (x : List Int) (hx : x.length ≤ 9223372036854775807) (left : Int) (h0 : 0 ≤ left) (h1 : left ≤ 1048576) : F_laws_szInt64S x left = some (szr x.length left) := by
  unfold F_laws_szInt64S
  exact szr_lead (b := 0) (k := fun l => some l) h0 h1 hx (fun h => by rw [szr_zero _ (by omega)])
theorem P_laws_szMemberS (x : List TM) (hx : x.length ≤ 9223372036854775807) (left : Int) (h0 : 0 ≤ left) (h1 : left ≤ 1048576) : F_laws_szMemberS x left = some (szr x.length left) := by
  unfold F_laws_szMemberS
  exact szr_lead (b := 0) (k := fun l => some l) h0 h1 hx (fun h => by rw [szr_zero _ (by omega)])
theorem P_laws_szStringS (x : List (List UInt8)) (hx : bL (bL bAny) x) (left : Int) (h0 : 0 ≤ left) (h1 : left ≤ 1048576) : F_laws_szStringS x left = some (szr (totStr x) left) := by
  unfold F_laws_szStringS
  refine szr_lead (b := (x.map List.length).sum) (k := fun l => (loopO _ (l, 0)).bind _) h0 h1 hx.1 (fun hle => ?_)
  refine sz_loop x List.length _ (fun i left h h0 h1 => ?_) (fun left => ?_) _ (by omega) (by omega)
  · have e1 : decide ((i : Int) < (x.length : Int)) = true := by simpa using h
    simp only [e1, inB_nat x i h, getD_toNat x i _ h, cond_true, wrap_succ i _ h hx.1]
    exact step_szw _ _ _ h0 h1 (hx.2 _ (List.getElem_mem h)).1
  · simp
theorem P_laws_szLedger (x : List (List UInt8) × List (Int × Int)) (hx : bL (bL bAny) x.1 ∧ bL bAny x.2) (left : Int) (h0 : 0 ≤ left) (h1 : left ≤ 1048576) : F_laws_szLedger x left = some (szr (totStr x.1 + x.2.length) left) := by
  unfold F_laws_szLedger
  rw [P_laws_szStringS _ hx.1 _ h0 h1, Option.bind_some]
  refine szr_bind _ _ _ (k := fun y => (F_laws_szSignS x.2 y).bind fun y4 => bif decide (y4 < 0) then some (-1) else some y4) h0 fun h => ?_
  have hl := szr_le h
  rw [P_laws_szSignS _ hx.2.1 _ h (by omega), Option.bind_some]
  exact szr_last _ _ h
theorem P_laws_szRule (x : List Int × Int × Int) (hx : x.1.length ≤ 9223372036854775807) (left : Int) (h0 : 0 ≤ left) (h1 : left ≤ 1048576) : F_laws_szRule x left = some (szr x.1.length left) := by
  unfold F_laws_szRule
  rw [P_laws_szInt64S _ hx _ h0 h1, Option.bind_some]
  exact szr_last _ _ h0
theorem P_laws_szOut (x : Int × List Int × Int × Int) (hx : x.2.1.length ≤ 9223372036854775807) (left : Int) (h0 : 0 ≤ left) (h1 : left ≤ 1048576) : F_laws_szOut x left = some (szr x.2.1.length left) := by
  unfold F_laws_szOut
  rw [P_laws_szRule _ hx _ h0 h1, Option.bind_some]
  exact szr_last _ _ h0
theorem P_laws_szCoin (x : TCoin) (hx : bCoin x) (left : Int) (h0 : 0 ≤ left) (h1 : left ≤ 1048576) : F_laws_szCoin x left = some (szr (totCoin x) left) := by
  unfold F_laws_szCoin
  rw [P_laws_szOut _ hx.1 _ h0 h1, Option.bind_some]
  exact szr_last _ _ h0
theorem P_laws_szCoinS (x : List TCoin) (hx : bL bCoin x) (left : Int) (h0 : 0 ≤ left) (h1 : left ≤ 1048576) : F_laws_szCoinS x left = some (szr (x.length + (x.map totCoin).sum) left) := by
  unfold F_laws_szCoinS
  refine szr_lead (b := (x.map totCoin).sum) (k := fun l => (loopO _ (l, 0)).bind _) h0 h1 hx.1 (fun hle => ?_)
  refine sz_loop x totCoin _ (fun i left h h0 h1 => ?_) (fun left => ?_) _ (by omega) (by omega)
  · have e1 : decide ((i : Int) < (x.length : Int)) = true := by simpa using h
    simp only [e1, inB_nat x i h, getD_toNat x i _ h, cond_true, wrap_succ i _ h hx.1, P_laws_szCoin _ (hx.2 _ (List.getElem_mem h)) _ h0 h1, Option.bind_some]
    exact step_sz _ _ _ h0
  · simp
theorem P_laws_szCoinSS (x : List (List TCoin)) (hx : bL (bL bCoin) x) (left : Int) (h0 : 0 ≤ left) (h1 : left ≤ 1048576) : F_laws_szCoinSS x left = some (szr (x.length + (x.map totCoins).sum) left) := by
  unfold F_laws_szCoinSS
  refine szr_lead (b := (x.map totCoins).sum) (k := fun l => (loopO _ (l, 0)).bind _) h0 h1 hx.1 (fun hle => ?_)
  refine sz_loop x totCoins _ (fun i left h h0 h1 => ?_) (fun left => ?_) _ (by omega) (by omega)
  · have e1 : decide ((i : Int) < (x.length : Int)) = true := by simpa using h
    simp only [e1, inB_nat x i h, getD_toNat x i _ h, cond_true, wrap_succ i _ h hx.1, P_laws_szCoinS _ (hx.2 _ (List.getElem_mem h)) _ h0 h1, Option.bind_some]
    exact step_sz _ _ _ h0
  · simp
theorem P_laws_szState (x : TState) (hx : bState x) (left : Int) (h0 : 0 ≤ left) (h1 : left ≤ 1048576) : F_laws_szState x left = some (szr (totState x) left) := by
  unfold F_laws_szState
  rw [P_laws_szCoinS _ hx.1 _ h0 h1, Option.bind_some]
  refine szr_bind _ _ _ (k := fun y => (F_laws_szMemberS x.2.2.2 y).bind fun y4 => bif decide (y4 < 0) then some (-1) else some y4) h0 fun h => ?_
  have hl := szr_le h
  rw [P_laws_szMemberS _ hx.2.1 _ h (by omega), Option.bind_some]
  exact szr_last _ _ h
theorem P_laws_szUndo (x : TUndo) (hx : bUndo x) (left : Int) (h0 : 0 ≤ left) (h1 : left ≤ 1048576) : F_laws_szUndo x left = some (szr (totUndo x) left) := by
  unfold F_laws_szUndo
  rw [P_laws_szCoinSS _ hx.1 _ h0 h1, Option.bind_some]
  refine szr_bind _ _ _ (k := fun y => (F_laws_szMemberS x.2.2 y).bind fun y4 => bif decide (y4 < 0) then some (-1) else some y4) h0 fun h => ?_
  have hl := szr_le h
  rw [P_laws_szMemberS _ hx.2.1 _ h (by omega), Option.bind_some]
  exact szr_last _ _ h
theorem P_laws_szUndoS (x : List TUndo) (hx : bL bUndo x) (left : Int) (h0 : 0 ≤ left) (h1 : left ≤ 1048576) : F_laws_szUndoS x left = some (szr (x.length + (x.map totUndo).sum) left) := by
  unfold F_laws_szUndoS
  refine szr_lead (b := (x.map totUndo).sum) (k := fun l => (loopO _ (l, 0)).bind _) h0 h1 hx.1 (fun hle => ?_)
  refine sz_loop x totUndo _ (fun i left h h0 h1 => ?_) (fun left => ?_) _ (by omega) (by omega)
  · have e1 : decide ((i : Int) < (x.length : Int)) = true := by simpa using h
    simp only [e1, inB_nat x i h, getD_toNat x i _ h, cond_true, wrap_succ i _ h hx.1, P_laws_szUndo _ (hx.2 _ (List.getElem_mem h)) _ h0 h1, Option.bind_some]
    exact step_sz _ _ _ h0
  · simp
theorem szr_szr (a b : Nat) (left : Int) (h : 0 ≤ szr a left) : szr b (szr a left) = szr (a + b) left := by
  have hl := szr_le h
  rw [hl.2]
  simp only [szr]
  split <;> split <;> omega
theorem P_laws_szChain (x : TChain) (hx : bChain x) (left : Int) (h0 : 0 ≤ left) (h1 : left ≤ 1048576) : F_laws_szChain x left = some (szr (totChain x) left) := by
  obtain ⟨hb1, hb2, hb3, hb4, hb5⟩ := hx
  unfold F_laws_szChain
  rw [P_laws_szLedger _ hb1 _ h0 h1, Option.bind_some]
  have fin : ∀ (a : Nat) (k : Int → Option Int) (b : Nat), (0 ≤ szr a left → k (szr a left) = some (szr (a + b) left)) → (bif decide (szr a left < 0) then some (-1) else k (szr a left)) = some (szr (a + b) left) := by
    intro a k b hk
    exact szr_bind a b left h0 (fun h => by rw [hk h, szr_szr _ _ _ h])
  have e : totChain x = totStr x.1.1 + x.1.2.length + (x.2.1.length + (x.2.2.1.length + (totState x.2.2.2.1 + totUndos x.2.2.2.2))) := by simp only [totChain]; omega
  rw [e]
  refine fin _ (fun y6 => (F_laws_szNodeS x.2.1 y6).bind fun y7 => bif decide (y7 < 0) then some (-1) else (F_laws_szInt64S x.2.2.1 y7).bind fun y8 => bif decide (y8 < 0) then some (-1) else (F_laws_szState x.2.2.2.1 y8).bind fun y9 => bif decide (y9 < 0) then some (-1) else (F_laws_szUndoS x.2.2.2.2 y9).bind fun y10 => bif decide (y10 < 0) then some (-1) else some y10) _ fun h => ?_
  have hl := szr_le h
  rw [P_laws_szNodeS _ hb2.1 _ h (by omega), Option.bind_some, szr_szr _ _ _ h, ← Nat.add_assoc]
  refine fin _ (fun y7 => (F_laws_szInt64S x.2.2.1 y7).bind fun y8 => bif decide (y8 < 0) then some (-1) else (F_laws_szState x.2.2.2.1 y8).bind fun y9 => bif decide (y9 < 0) then some (-1) else (F_laws_szUndoS x.2.2.2.2 y9).bind fun y10 => bif decide (y10 < 0) then some (-1) else some y10) _ fun h => ?_
  have hl := szr_le h
  rw [P_laws_szInt64S _ hb3.1 _ h (by omega), Option.bind_some, szr_szr _ _ _ h, ← Nat.add_assoc]
  refine fin _ (fun y8 => (F_laws_szState x.2.2.2.1 y8).bind fun y9 => bif decide (y9 < 0) then some (-1) else (F_laws_szUndoS x.2.2.2.2 y9).bind fun y10 => bif decide (y10 < 0) then some (-1) else some y10) _ fun h => ?_
  have hl := szr_le h
  rw [P_laws_szState _ hb4 _ h (by omega), Option.bind_some, szr_szr _ _ _ h, ← Nat.add_assoc]
  refine fin _ (fun y9 => (F_laws_szUndoS x.2.2.2.2 y9).bind fun y10 => bif decide (y10 < 0) then some (-1) else some y10) _ fun h => ?_
  have hl := szr_le h
  rw [P_laws_szUndoS _ hb5 _ h (by omega), Option.bind_some, szr_szr _ _ _ h]
  exact szr_last _ _ h0
end SC
end Go.Dx

set_option maxHeartbeats 1000000
namespace Go.Dx
namespace SC
theorem le_sum {α : Type} (m : α → Nat) : ∀ (l : List α) (y : α), y ∈ l → m y ≤ (l.map m).sum
  | x :: l, y, h => by
    simp only [List.map_cons, List.sum_cons]
    cases List.mem_cons.1 h with
    | inl h => subst h; omega
    | inr h => have := le_sum m l y h; omega
theorem cap_ok {n : Nat} (h : n ≤ 1048576) : (decide (0 ≤ (n : Int)) && decide ((n : Int) ≤ (LIM : Int))) = true := by
  have h1 : (0 : Int) ≤ n := by omega
  have h2 : (n : Int) ≤ (LIM : Int) := by unfold LIM; omega
  rw [decide_eq_true h1, decide_eq_true h2]; rfl
theorem to_loop' {α : Type} (l : List α) (d : α) (f : List α × Int → Option ((List α × Int) ⊕ List α)) (hstep : ∀ (i : Nat) (acc : List α) (h : i < l.length), acc.length = l.length → f (acc, (i : Int)) = some (.inl (acc.set i l[i], ((i + 1 : Nat) : Int))))
    (hend : ∀ acc, f (acc, (l.length : Int)) = some (.inr acc)) : (loopO f (List.replicate (Int.toNat (l.length : Int)) d, 0)).bind (fun j => some j) = some l := by
  rw [show Int.toNat (l.length : Int) = l.length by simp, to_loop l d f hstep hend]; rfl
theorem P_laws_toStringS (x : List (List UInt8)) (hx : x.length ≤ 1048576) : F_laws_toStringS x = some x := by
  unfold F_laws_toStringS
  have hl : x.length ≤ 1048576 := by exact hx
  rw [cap_ok hl, cond_true]
  refine to_loop' x [] _ (fun i acc h ha => ?_) (fun acc => ?_)
  · have e1 : decide ((i : Int) < (x.length : Int)) = true := by simpa using h
    have e2 : inB (i : Int) acc = true := inB_nat acc i (by omega)
    have e3 : Int.toNat (i : Int) = i := by simp
    simp only [e1, inB_nat x i h, e2, cond_true, getD_toNat x i _ h, wrap_succ i _ h (by omega)]
    rw [e3]
  · simp
theorem P_laws_toSign (x : Int × Int) : F_laws_toSign x = some x := rfl
theorem P_laws_toNode (x : TM) : F_laws_toNode x = some x := rfl
theorem P_laws_toRef (x : Int × Int) : F_laws_toRef x = some x := rfl
theorem P_laws_toMember (x : TM) : F_laws_toMember x = some x := by unfold F_laws_toMember; rw [P_laws_toRef, Option.bind_some]
theorem P_laws_toSignS (x : List (Int × Int)) (hx : x.length ≤ 1048576) : F_laws_toSignS x = some x := by
  unfold F_laws_toSignS
  have hl : x.length ≤ 1048576 := by exact hx
  rw [cap_ok hl, cond_true]
  refine to_loop' x (0, 0) _ (fun i acc h ha => ?_) (fun acc => ?_)
  · have e1 : decide ((i : Int) < (x.length : Int)) = true := by simpa using h
    have e2 : inB (i : Int) acc = true := inB_nat acc i (by omega)
    have e3 : Int.toNat (i : Int) = i := by simp
    have hel : F_laws_toSign (List.getD x (Int.toNat (i : Int)) (0, 0)) = some x[i] := by rw [getD_toNat x i _ h]; exact P_laws_toSign _
    simp only [e1, inB_nat x i h, e2, cond_true, hel, Option.bind_some, wrap_succ i _ h (by omega)]
    rw [e3]
  · simp
theorem P_laws_toNodeS (x : List TM) (hx : x.length ≤ 1048576) : F_laws_toNodeS x = some x := by
  unfold F_laws_toNodeS
  have hl : x.length ≤ 1048576 := by exact hx
  rw [cap_ok hl, cond_true]
  refine to_loop' x (0, (0, 0)) _ (fun i acc h ha => ?_) (fun acc => ?_)
  · have e1 : decide ((i : Int) < (x.length : Int)) = true := by simpa using h
    have e2 : inB (i : Int) acc = true := inB_nat acc i (by omega)
    have e3 : Int.toNat (i : Int) = i := by simp
    have hel : F_laws_toNode (List.getD x (Int.toNat (i : Int)) (0, (0, 0))) = some x[i] := by rw [getD_toNat x i _ h]; exact P_laws_toNode _
    simp only [e1, inB_nat x i h, e2, cond_true, hel, Option.bind_some, wrap_succ i _ h (by omega)]
    rw [e3]
  · simp
theorem P_laws_toInt64S (x : List Int) (hx : x.length ≤ 1048576) : F_laws_toInt64S x = some x := by
  unfold F_laws_toInt64S
  have hl : x.length ≤ 1048576 := by exact hx
  rw [cap_ok hl, cond_true]
  refine to_loop' x 0 _ (fun i acc h ha => ?_) (fun acc => ?_)
  · have e1 : decide ((i : Int) < (x.length : Int)) = true := by simpa using h
    have e2 : inB (i : Int) acc = true := inB_nat acc i (by omega)
    have e3 : Int.toNat (i : Int) = i := by simp
    simp only [e1, inB_nat x i h, e2, cond_true, getD_toNat x i _ h, wrap_succ i _ h (by omega)]
    rw [e3]
  · simp
theorem P_laws_toMemberS (x : List TM) (hx : x.length ≤ 1048576) : F_laws_toMemberS x = some x := by
  unfold F_laws_toMemberS
  have hl : x.length ≤ 1048576 := by exact hx
  rw [cap_ok hl, cond_true]
  refine to_loop' x (0, (0, 0)) _ (fun i acc h ha => ?_) (fun acc => ?_)
  · have e1 : decide ((i : Int) < (x.length : Int)) = true := by simpa using h
    have e2 : inB (i : Int) acc = true := inB_nat acc i (by omega)
    have e3 : Int.toNat (i : Int) = i := by simp
    have hel : F_laws_toMember (List.getD x (Int.toNat (i : Int)) (0, (0, 0))) = some x[i] := by rw [getD_toNat x i _ h]; exact P_laws_toMember _
    simp only [e1, inB_nat x i h, e2, cond_true, hel, Option.bind_some, wrap_succ i _ h (by omega)]
    rw [e3]
  · simp
theorem P_laws_toLedger (x : List (List UInt8) × List (Int × Int)) (h1 : x.1.length ≤ 1048576) (h2 : x.2.length ≤ 1048576) : F_laws_toLedger x = some x := by
  unfold F_laws_toLedger; rw [P_laws_toStringS _ h1, Option.bind_some, P_laws_toSignS _ h2, Option.bind_some]
theorem P_laws_toRule (x : List Int × Int × Int) (h : x.1.length ≤ 1048576) : F_laws_toRule x = some x := by
  unfold F_laws_toRule; rw [P_laws_toInt64S _ h, Option.bind_some]
theorem P_laws_toOut (x : Int × List Int × Int × Int) (h : x.2.1.length ≤ 1048576) : F_laws_toOut x = some x := by
  unfold F_laws_toOut; rw [P_laws_toRule _ h, Option.bind_some]
theorem P_laws_toCoin (x : TCoin) (h : totCoin x ≤ 1048576) : F_laws_toCoin x = some x := by
  unfold F_laws_toCoin; rw [P_laws_toRef, Option.bind_some, P_laws_toOut _ h, Option.bind_some]
theorem P_laws_toCoinS (x : List TCoin) (hx : totCoins x ≤ 1048576) : F_laws_toCoinS x = some x := by
  unfold F_laws_toCoinS
  have hl : x.length ≤ 1048576 := by have : x.length ≤ totCoins x := Nat.le_add_right _ _; omega
  rw [cap_ok hl, cond_true]
  refine to_loop' x ((0, 0), ((0, ([], (0, 0))), (0, false))) _ (fun i acc h ha => ?_) (fun acc => ?_)
  · have e1 : decide ((i : Int) < (x.length : Int)) = true := by simpa using h
    have e2 : inB (i : Int) acc = true := inB_nat acc i (by omega)
    have e3 : Int.toNat (i : Int) = i := by simp
    have hm : totCoin x[i] ≤ 1048576 := by
      have h1 := le_sum totCoin x _ (List.getElem_mem h)
      have h2 : (x.map totCoin).sum ≤ totCoins x := Nat.le_add_left _ _
      omega
    have hel : F_laws_toCoin (List.getD x (Int.toNat (i : Int)) ((0, 0), ((0, ([], (0, 0))), (0, false)))) = some x[i] := by rw [getD_toNat x i _ h]; exact P_laws_toCoin _ hm
    simp only [e1, inB_nat x i h, e2, cond_true, hel, Option.bind_some, wrap_succ i _ h (by omega)]
    rw [e3]
  · simp
theorem P_laws_toCoinSS (x : List (List TCoin)) (hx : totCoinSS x ≤ 1048576) : F_laws_toCoinSS x = some x := by
  unfold F_laws_toCoinSS
  have hl : x.length ≤ 1048576 := by have : x.length ≤ totCoinSS x := Nat.le_add_right _ _; omega
  rw [cap_ok hl, cond_true]
  refine to_loop' x [] _ (fun i acc h ha => ?_) (fun acc => ?_)
  · have e1 : decide ((i : Int) < (x.length : Int)) = true := by simpa using h
    have e2 : inB (i : Int) acc = true := inB_nat acc i (by omega)
    have e3 : Int.toNat (i : Int) = i := by simp
    have hm : totCoins x[i] ≤ 1048576 := by
      have h1 := le_sum totCoins x _ (List.getElem_mem h)
      have h2 : (x.map totCoins).sum ≤ totCoinSS x := Nat.le_add_left _ _
      omega
    have hel : F_laws_toCoinS (List.getD x (Int.toNat (i : Int)) []) = some x[i] := by rw [getD_toNat x i _ h]; exact P_laws_toCoinS _ hm
    simp only [e1, inB_nat x i h, e2, cond_true, hel, Option.bind_some, wrap_succ i _ h (by omega)]
    rw [e3]
  · simp
theorem P_laws_toState (x : TState) (h : totState x ≤ 1048576) : F_laws_toState x = some x := by
  simp only [totState] at h
  unfold F_laws_toState; rw [P_laws_toCoinS _ (by omega), Option.bind_some, P_laws_toMemberS _ (by omega), Option.bind_some]
theorem P_laws_toUndo (x : TUndo) (h : totUndo x ≤ 1048576) : F_laws_toUndo x = some x := by
  simp only [totUndo] at h
  unfold F_laws_toUndo; rw [P_laws_toCoinSS _ (by omega), Option.bind_some, P_laws_toMemberS _ (by omega), Option.bind_some]
theorem P_laws_toUndoS (x : List TUndo) (hx : totUndos x ≤ 1048576) : F_laws_toUndoS x = some x := by
  unfold F_laws_toUndoS
  have hl : x.length ≤ 1048576 := by have : x.length ≤ totUndos x := Nat.le_add_right _ _; omega
  rw [cap_ok hl, cond_true]
  refine to_loop' x (0, ([], [])) _ (fun i acc h ha => ?_) (fun acc => ?_)
  · have e1 : decide ((i : Int) < (x.length : Int)) = true := by simpa using h
    have e2 : inB (i : Int) acc = true := inB_nat acc i (by omega)
    have e3 : Int.toNat (i : Int) = i := by simp
    have hm : totUndo x[i] ≤ 1048576 := by
      have h1 := le_sum totUndo x _ (List.getElem_mem h)
      have h2 : (x.map totUndo).sum ≤ totUndos x := Nat.le_add_left _ _
      omega
    have hel : F_laws_toUndo (List.getD x (Int.toNat (i : Int)) (0, ([], []))) = some x[i] := by rw [getD_toNat x i _ h]; exact P_laws_toUndo _ hm
    simp only [e1, inB_nat x i h, e2, cond_true, hel, Option.bind_some, wrap_succ i _ h (by omega)]
    rw [e3]
  · simp
theorem P_laws_toChain (x : TChain) (h : totChain x ≤ 1048576) : F_laws_toChain x = some x := by
  simp only [totChain] at h
  have h0 : x.1.1.length ≤ totStr x.1.1 := Nat.le_add_right _ _
  unfold F_laws_toChain
  rw [P_laws_toLedger _ (by omega) (by omega), Option.bind_some, P_laws_toNodeS _ (by omega), Option.bind_some, P_laws_toInt64S _ (by omega), Option.bind_some, P_laws_toState _ (by omega), Option.bind_some, P_laws_toUndoS _ (by omega), Option.bind_some]
end SC
end Go.Dx

set_option maxHeartbeats 2000000
namespace Go.Dx
namespace SC
set_option synthInstance.maxSize 1000
set_option synthInstance.maxHeartbeats 400000
instance dTCoin : DecidableEq TCoin := inferInstance
instance dLTCoin : DecidableEq (List TCoin) := instDecidableEqList
instance dLLTCoin : DecidableEq (List (List TCoin)) := instDecidableEqList
instance dTUndo : DecidableEq TUndo := inferInstance
instance dLTUndo : DecidableEq (List TUndo) := instDecidableEqList
instance dTState : DecidableEq TState := inferInstance
instance dTChain : DecidableEq TChain := inferInstance
theorem beq2 (a b : Int × Int) : Sh.beq (.prod (.int .i64) (.int .i64)) a b = decide (a = b) := by
  obtain ⟨a1, a2⟩ := a; obtain ⟨b1, b2⟩ := b
  simp only [Sh.beq]
  by_cases h1 : a1 = b1 <;> by_cases h2 : a2 = b2 <;> simp [h1, h2]
theorem beq3 (a b : TM) : Sh.beq (.prod (.int .i64) (.prod (.int .i64) (.int .i64))) a b = decide (a = b) := by
  obtain ⟨a1, a2, a3⟩ := a; obtain ⟨b1, b2, b3⟩ := b
  simp only [Sh.beq]
  by_cases h1 : a1 = b1 <;> by_cases h2 : a2 = b2 <;> by_cases h3 : a3 = b3 <;> simp [h1, h2, h3]
theorem beqB (a b : Bool) : Sh.beq .bool a b = decide (a = b) := rfl
theorem eq_step {p : Prop} [Decidable p] (w : Int) : (bif !decide p then (some (Sum.inr (Sum.inr false)) : Option (Int ⊕ (Unit ⊕ Bool))) else some (Sum.inl w)) = if p then some (Sum.inl w) else some (Sum.inr (Sum.inr false)) := by
  by_cases h : p <;> simp [h]
theorem neq_len {α : Type} [DecidableEq α] {x y : List α} (h : ¬ x.length = y.length) : decide (x = y) = false := decide_eq_false (fun he => h (by rw [he]))
theorem P_laws_eqStringS (x y : List (List UInt8)) (hx : bL (bL bAny) x) : F_laws_eqStringS x y = some (decide (x = y)) := by
  unfold F_laws_eqStringS
  by_cases hl : x.length = y.length
  · have hc : decide ((x.length : Int) = (y.length : Int)) = true := by simp [hl]
    rw [hc, Bool.not_true, cond_false]
    refine eq_loop x y hl _ (fun i h h' => ?_) ?_
    · have e1 : decide ((i : Int) < (x.length : Int)) = true := by simpa using h
      simp only [e1, inB_nat x i h, inB_nat y i h', getD_toNat x i _ h, getD_toNat y i _ h', cond_true, wrap_succ i _ h hx.1]
      exact eq_step _
    · simp
  · have hc : decide ((x.length : Int) = (y.length : Int)) = false := decide_eq_false (fun h => hl (by omega))
    rw [hc, neq_len hl]; rfl
theorem P_laws_eqSign (x y : Int × Int) : F_laws_eqSign x y = some (decide (x = y)) := by
  unfold F_laws_eqSign
  obtain ⟨a1, a2⟩ := x; obtain ⟨b1, b2⟩ := y
  by_cases h1 : a1 = b1 <;> by_cases h2 : a2 = b2 <;> simp [h1, h2]
theorem P_laws_eqRef (x y : Int × Int) : F_laws_eqRef x y = some (decide (x = y)) := by
  unfold F_laws_eqRef
  obtain ⟨a1, a2⟩ := x; obtain ⟨b1, b2⟩ := y
  by_cases h1 : a1 = b1 <;> by_cases h2 : a2 = b2 <;> simp [h1, h2]
theorem P_laws_eqNode (x y : TM) : F_laws_eqNode x y = some (decide (x = y)) := by
  unfold F_laws_eqNode
  obtain ⟨a1, a2, a3⟩ := x; obtain ⟨b1, b2, b3⟩ := y
  by_cases h1 : a1 = b1 <;> by_cases h2 : a2 = b2 <;> by_cases h3 : a3 = b3 <;> simp [h1, h2, h3]
theorem P_laws_eqMember (x y : TM) : F_laws_eqMember x y = some (decide (x = y)) := by
  unfold F_laws_eqMember
  rw [P_laws_eqRef]
  obtain ⟨a1, a2⟩ := x; obtain ⟨b1, b2⟩ := y
  by_cases h1 : a1 = b1 <;> by_cases h2 : a2 = b2 <;> simp [h1, h2]
theorem P_laws_eqSignS (x y : List (Int × Int)) (hx : bL bAny x) : F_laws_eqSignS x y = some (decide (x = y)) := by
  unfold F_laws_eqSignS
  by_cases hl : x.length = y.length
  · have hc : decide ((x.length : Int) = (y.length : Int)) = true := by simp [hl]
    rw [hc, Bool.not_true, cond_false]
    refine eq_loop x y hl _ (fun i h h' => ?_) ?_
    · have e1 : decide ((i : Int) < (x.length : Int)) = true := by simpa using h
      simp only [e1, inB_nat x i h, inB_nat y i h', getD_toNat x i _ h, getD_toNat y i _ h', cond_true, wrap_succ i _ h hx.1, P_laws_eqSign, Option.bind_some]
      exact eq_step _
    · simp
  · have hc : decide ((x.length : Int) = (y.length : Int)) = false := decide_eq_false (fun h => hl (by omega))
    rw [hc, neq_len hl]; rfl
theorem P_laws_eqNodeS (x y : List TM) (hx : bL bAny x) : F_laws_eqNodeS x y = some (decide (x = y)) := by
  unfold F_laws_eqNodeS
  by_cases hl : x.length = y.length
  · have hc : decide ((x.length : Int) = (y.length : Int)) = true := by simp [hl]
    rw [hc, Bool.not_true, cond_false]
    refine eq_loop x y hl _ (fun i h h' => ?_) ?_
    · have e1 : decide ((i : Int) < (x.length : Int)) = true := by simpa using h
      simp only [e1, inB_nat x i h, inB_nat y i h', getD_toNat x i _ h, getD_toNat y i _ h', cond_true, wrap_succ i _ h hx.1, P_laws_eqNode, Option.bind_some]
      exact eq_step _
    · simp
  · have hc : decide ((x.length : Int) = (y.length : Int)) = false := decide_eq_false (fun h => hl (by omega))
    rw [hc, neq_len hl]; rfl
theorem P_laws_eqMemberS (x y : List TM) (hx : bL bAny x) : F_laws_eqMemberS x y = some (decide (x = y)) := by
  unfold F_laws_eqMemberS
  by_cases hl : x.length = y.length
  · have hc : decide ((x.length : Int) = (y.length : Int)) = true := by simp [hl]
    rw [hc, Bool.not_true, cond_false]
    refine eq_loop x y hl _ (fun i h h' => ?_) ?_
    · have e1 : decide ((i : Int) < (x.length : Int)) = true := by simpa using h
      simp only [e1, inB_nat x i h, inB_nat y i h', getD_toNat x i _ h, getD_toNat y i _ h', cond_true, wrap_succ i _ h hx.1, P_laws_eqMember, Option.bind_some]
      exact eq_step _
    · simp
  · have hc : decide ((x.length : Int) = (y.length : Int)) = false := decide_eq_false (fun h => hl (by omega))
    rw [hc, neq_len hl]; rfl
theorem P_laws_eqInt64S (x y : List Int) (hx : bL bAny x) : F_laws_eqInt64S x y = some (decide (x = y)) := by
  unfold F_laws_eqInt64S
  by_cases hl : x.length = y.length
  · have hc : decide ((x.length : Int) = (y.length : Int)) = true := by simp [hl]
    rw [hc, Bool.not_true, cond_false]
    refine eq_loop x y hl _ (fun i h h' => ?_) ?_
    · have e1 : decide ((i : Int) < (x.length : Int)) = true := by simpa using h
      simp only [e1, inB_nat x i h, inB_nat y i h', getD_toNat x i _ h, getD_toNat y i _ h', cond_true, wrap_succ i _ h hx.1]
      exact eq_step _
    · simp
  · have hc : decide ((x.length : Int) = (y.length : Int)) = false := decide_eq_false (fun h => hl (by omega))
    rw [hc, neq_len hl]; rfl
theorem P_laws_eqLedger (x y : List (List UInt8) × List (Int × Int)) (hx : bL (bL bAny) x.1 ∧ bL bAny x.2) : F_laws_eqLedger x y = some (decide (x = y)) := by
  unfold F_laws_eqLedger
  obtain ⟨a1, a2⟩ := x; obtain ⟨b1, b2⟩ := y
  rw [P_laws_eqStringS _ _ hx.1, P_laws_eqSignS _ _ hx.2]
  by_cases h1 : a1 = b1 <;> by_cases h2 : a2 = b2 <;> simp [h1, h2]
theorem P_laws_eqRule (x y : List Int × Int × Int) (hx : bL bAny x.1) : F_laws_eqRule x y = some (decide (x = y)) := by
  unfold F_laws_eqRule
  obtain ⟨a1, a2, a3⟩ := x; obtain ⟨b1, b2, b3⟩ := y
  rw [P_laws_eqInt64S _ _ hx]
  by_cases h1 : a1 = b1 <;> by_cases h2 : a2 = b2 <;> by_cases h3 : a3 = b3 <;> simp [h1, h2, h3]
theorem P_laws_eqOut (x y : Int × List Int × Int × Int) (hx : bL bAny x.2.1) : F_laws_eqOut x y = some (decide (x = y)) := by
  unfold F_laws_eqOut
  obtain ⟨a1, a2⟩ := x; obtain ⟨b1, b2⟩ := y
  rw [P_laws_eqRule _ _ hx]
  by_cases h1 : a1 = b1 <;> by_cases h2 : a2 = b2 <;> simp [h1, h2]
theorem P_laws_eqCoin (x y : TCoin) (hx : bCoin x) : F_laws_eqCoin x y = some (decide (x = y)) := by
  unfold F_laws_eqCoin
  obtain ⟨a1, a2, a3, a4⟩ := x; obtain ⟨b1, b2, b3, b4⟩ := y
  rw [P_laws_eqOut _ _ hx, P_laws_eqRef, beqB]
  by_cases h1 : a1 = b1 <;> by_cases h2 : a2 = b2 <;> by_cases h3 : a3 = b3 <;> by_cases h4 : a4 = b4 <;> simp [h1, h2, h3, h4]
theorem P_laws_eqCoinS (x y : List TCoin) (hx : bL bCoin x) : F_laws_eqCoinS x y = some (decide (x = y)) := by
  unfold F_laws_eqCoinS
  by_cases hl : x.length = y.length
  · have hc : decide ((x.length : Int) = (y.length : Int)) = true := by simp [hl]
    rw [hc, Bool.not_true, cond_false]
    refine eq_loop x y hl _ (fun i h h' => ?_) ?_
    · have e1 : decide ((i : Int) < (x.length : Int)) = true := by simpa using h
      simp only [e1, inB_nat x i h, inB_nat y i h', getD_toNat x i _ h, getD_toNat y i _ h', cond_true, wrap_succ i _ h hx.1, P_laws_eqCoin _ _ (hx.2 _ (List.getElem_mem h)), Option.bind_some]
      exact eq_step _
    · simp
  · have hc : decide ((x.length : Int) = (y.length : Int)) = false := decide_eq_false (fun h => hl (by omega))
    rw [hc, neq_len hl]; rfl
theorem P_laws_eqCoinSS (x y : List (List TCoin)) (hx : bL (bL bCoin) x) : F_laws_eqCoinSS x y = some (decide (x = y)) := by
  unfold F_laws_eqCoinSS
  by_cases hl : x.length = y.length
  · have hc : decide ((x.length : Int) = (y.length : Int)) = true := by simp [hl]
    rw [hc, Bool.not_true, cond_false]
    refine eq_loop x y hl _ (fun i h h' => ?_) ?_
    · have e1 : decide ((i : Int) < (x.length : Int)) = true := by simpa using h
      simp only [e1, inB_nat x i h, inB_nat y i h', getD_toNat x i _ h, getD_toNat y i _ h', cond_true, wrap_succ i _ h hx.1, P_laws_eqCoinS _ _ (hx.2 _ (List.getElem_mem h)), Option.bind_some]
      exact eq_step _
    · simp
  · have hc : decide ((x.length : Int) = (y.length : Int)) = false := decide_eq_false (fun h => hl (by omega))
    rw [hc, neq_len hl]; rfl
theorem P_laws_eqState (x y : TState) (hx : bState x) : F_laws_eqState x y = some (decide (x = y)) := by
  unfold F_laws_eqState
  obtain ⟨a1, a2, a3, a4⟩ := x; obtain ⟨b1, b2, b3, b4⟩ := y
  rw [P_laws_eqCoinS _ _ hx.1, P_laws_eqMemberS _ _ hx.2]
  by_cases h1 : a1 = b1 <;> by_cases h2 : a2 = b2 <;> by_cases h3 : a3 = b3 <;> by_cases h4 : a4 = b4 <;> simp [h1, h2, h3, h4]
theorem P_laws_eqUndo (x y : TUndo) (hx : bUndo x) : F_laws_eqUndo x y = some (decide (x = y)) := by
  unfold F_laws_eqUndo
  obtain ⟨a1, a2, a3⟩ := x; obtain ⟨b1, b2, b3⟩ := y
  rw [P_laws_eqCoinSS _ _ hx.1, P_laws_eqMemberS _ _ hx.2]
  by_cases h1 : a1 = b1 <;> by_cases h2 : a2 = b2 <;> by_cases h3 : a3 = b3 <;> simp [h1, h2, h3]
theorem P_laws_eqUndoS (x y : List TUndo) (hx : bL bUndo x) : F_laws_eqUndoS x y = some (decide (x = y)) := by
  unfold F_laws_eqUndoS
  by_cases hl : x.length = y.length
  · have hc : decide ((x.length : Int) = (y.length : Int)) = true := by simp [hl]
    rw [hc, Bool.not_true, cond_false]
    refine eq_loop x y hl _ (fun i h h' => ?_) ?_
    · have e1 : decide ((i : Int) < (x.length : Int)) = true := by simpa using h
      simp only [e1, inB_nat x i h, inB_nat y i h', getD_toNat x i _ h, getD_toNat y i _ h', cond_true, wrap_succ i _ h hx.1, P_laws_eqUndo _ _ (hx.2 _ (List.getElem_mem h)), Option.bind_some]
      exact eq_step _
    · simp
  · have hc : decide ((x.length : Int) = (y.length : Int)) = false := decide_eq_false (fun h => hl (by omega))
    rw [hc, neq_len hl]; rfl
theorem P_laws_eqChain (x y : TChain) (hx : bChain x) : F_laws_eqChain x y = some (decide (x = y)) := by
  unfold F_laws_eqChain
  obtain ⟨hb1, hb2, hb3, hb4, hb5⟩ := hx
  obtain ⟨a1, a2, a3, a4, a5⟩ := x; obtain ⟨b1, b2, b3, b4, b5⟩ := y
  rw [P_laws_eqLedger _ _ hb1, P_laws_eqNodeS _ _ hb2, P_laws_eqInt64S _ _ hb3, P_laws_eqState _ _ hb4, P_laws_eqUndoS _ _ hb5]
  by_cases h1 : a1 = b1 <;> by_cases h2 : a2 = b2 <;> by_cases h3 : a3 = b3 <;> by_cases h4 : a4 = b4 <;> by_cases h5 : a5 = b5 <;> simp [h1, h2, h3, h4, h5]
theorem P_slices_Equal_Lint64_int64 (x y : List Int) (hx : bL bAny x) : F_slices_Equal_Lint64_int64 x y = some (decide (x = y)) := by
  unfold F_slices_Equal_Lint64_int64
  by_cases hl : x.length = y.length
  · have hc : decide ((x.length : Int) = (y.length : Int)) = true := by simp [hl]
    rw [hc, Bool.not_true, cond_false]
    refine eq_loop x y hl _ (fun i h h' => ?_) ?_
    · have e1 : decide ((i : Int) < (x.length : Int)) = true := by simpa using h
      simp only [e1, inB_nat x i h, inB_nat y i h', getD_toNat x i _ h, getD_toNat y i _ h', cond_true, wrap_succ i _ h hx.1]
      exact eq_step _
    · simp
  · have hc : decide ((x.length : Int) = (y.length : Int)) = false := decide_eq_false (fun h => hl (by omega))
    rw [hc, neq_len hl]; rfl
theorem P_slices_Equal_Limpl_Member_impl_Member (x y : List TM) (hx : bL bAny x) : F_slices_Equal_Limpl_Member_impl_Member x y = some (decide (x = y)) := by
  unfold F_slices_Equal_Limpl_Member_impl_Member
  by_cases hl : x.length = y.length
  · have hc : decide ((x.length : Int) = (y.length : Int)) = true := by simp [hl]
    rw [hc, Bool.not_true, cond_false]
    refine eq_loop x y hl _ (fun i h h' => ?_) ?_
    · have e1 : decide ((i : Int) < (x.length : Int)) = true := by simpa using h
      simp only [e1, inB_nat x i h, inB_nat y i h', getD_toNat x i _ h, getD_toNat y i _ h', cond_true, wrap_succ i _ h hx.1, beq3]
      exact eq_step _
    · simp
  · have hc : decide ((x.length : Int) = (y.length : Int)) = false := decide_eq_false (fun h => hl (by omega))
    rw [hc, neq_len hl]; rfl
theorem P_slices_Equal_Limpl_Node_impl_Node (x y : List TM) (hx : bL bAny x) : F_slices_Equal_Limpl_Node_impl_Node x y = some (decide (x = y)) := by
  unfold F_slices_Equal_Limpl_Node_impl_Node
  by_cases hl : x.length = y.length
  · have hc : decide ((x.length : Int) = (y.length : Int)) = true := by simp [hl]
    rw [hc, Bool.not_true, cond_false]
    refine eq_loop x y hl _ (fun i h h' => ?_) ?_
    · have e1 : decide ((i : Int) < (x.length : Int)) = true := by simpa using h
      simp only [e1, inB_nat x i h, inB_nat y i h', getD_toNat x i _ h, getD_toNat y i _ h', cond_true, wrap_succ i _ h hx.1, beq3]
      exact eq_step _
    · simp
  · have hc : decide ((x.length : Int) = (y.length : Int)) = false := decide_eq_false (fun h => hl (by omega))
    rw [hc, neq_len hl]; rfl
theorem P_impl_SameRules (x y : List Int × Int × Int) (hx : bL bAny x.1) : F_impl_SameRules x y = some (decide (x = y)) := by
  unfold F_impl_SameRules
  obtain ⟨a1, a2, a3⟩ := x; obtain ⟨b1, b2, b3⟩ := y
  rw [P_slices_Equal_Lint64_int64 _ _ hx]
  by_cases h1 : a1 = b1 <;> by_cases h2 : a2 = b2 <;> by_cases h3 : a3 = b3 <;> simp [h1, h2, h3]
theorem P_impl_sameOuts (x y : Int × List Int × Int × Int) (hx : bL bAny x.2.1) : F_impl_sameOuts x y = some (decide (x = y)) := by
  unfold F_impl_sameOuts
  obtain ⟨a1, a2⟩ := x; obtain ⟨b1, b2⟩ := y
  rw [P_impl_SameRules _ _ hx]
  by_cases h1 : a1 = b1 <;> by_cases h2 : a2 = b2 <;> simp [h1, h2]
theorem P_impl_sameCoin (x y : TCoin) (hx : bCoin x) : F_impl_sameCoin x y = some (decide (x = y)) := by
  unfold F_impl_sameCoin
  obtain ⟨a1, a2, a3, a4⟩ := x; obtain ⟨b1, b2, b3, b4⟩ := y
  rw [P_impl_sameOuts _ _ hx, beqB, beq2]
  by_cases h1 : a1 = b1 <;> by_cases h2 : a2 = b2 <;> by_cases h3 : a3 = b3 <;> by_cases h4 : a4 = b4 <;> simp [h1, h2, h3, h4]
theorem P_slices_EqualFunc_Limpl_Coin_Limpl_Coin_impl_Coin_impl_Coin (x y : List TCoin) (g : TCoin → TCoin → Option Bool) (hg : ∀ a b, bCoin a → g a b = some (decide (a = b))) (hx : bL bCoin x) : F_slices_EqualFunc_Limpl_Coin_Limpl_Coin_impl_Coin_impl_Coin x y g = some (decide (x = y)) := by
  unfold F_slices_EqualFunc_Limpl_Coin_Limpl_Coin_impl_Coin_impl_Coin
  by_cases hl : x.length = y.length
  · have hc : decide ((x.length : Int) = (y.length : Int)) = true := by simp [hl]
    rw [hc, Bool.not_true, cond_false]
    refine eq_loop x y hl _ (fun i h h' => ?_) ?_
    · have e1 : decide ((i : Int) < (x.length : Int)) = true := by simpa using h
      simp only [e1, inB_nat x i h, inB_nat y i h', getD_toNat x i _ h, getD_toNat y i _ h', cond_true, wrap_succ i _ h hx.1, hg _ _ (hx.2 _ (List.getElem_mem h)), Option.bind_some]
      exact eq_step _
    · simp
  · have hc : decide ((x.length : Int) = (y.length : Int)) = false := decide_eq_false (fun h => hl (by omega))
    rw [hc, neq_len hl]; rfl
theorem P_impl_SameCoins (x y : List TCoin) (hx : bL bCoin x) : F_impl_SameCoins x y = some (decide (x = y)) := by
  unfold F_impl_SameCoins
  rw [P_slices_EqualFunc_Limpl_Coin_Limpl_Coin_impl_Coin_impl_Coin x y _ (fun a b ha => by rw [P_impl_sameCoin a b ha]; rfl) hx]; rfl
theorem P_impl_SameMembers (x y : List TM) (hx : bL bAny x) : F_impl_SameMembers x y = some (decide (x = y)) := by
  unfold F_impl_SameMembers
  rw [P_slices_Equal_Limpl_Member_impl_Member _ _ hx]; rfl
theorem P_impl_SameStates (x y : TState) (hx : bState x) : F_impl_SameStates x y = some (decide (x = y)) := by
  unfold F_impl_SameStates
  obtain ⟨a1, a2, a3, a4⟩ := x; obtain ⟨b1, b2, b3, b4⟩ := y
  rw [P_impl_SameCoins _ _ hx.1, P_impl_SameMembers _ _ hx.2]
  by_cases h1 : a1 = b1 <;> by_cases h2 : a2 = b2 <;> by_cases h3 : a3 = b3 <;> by_cases h4 : a4 = b4 <;> simp [h1, h2, h3, h4]
def same (x y : TChain) : Bool := decide (x.2.2.2.1 = y.2.2.2.1) && decide (x.2.1 = y.2.1) && decide (x.2.2.1 = y.2.2.1)
theorem P_impl_SameChains (x y : TChain) (hx : bChain x) : F_impl_SameChains x y = some (same x y) := by
  obtain ⟨hb1, hb2, hb3, hb4, hb5⟩ := hx
  unfold F_impl_SameChains same
  rw [P_impl_SameStates _ _ hb4, P_slices_Equal_Limpl_Node_impl_Node _ _ hb2, P_slices_Equal_Lint64_int64 _ _ hb3]
  cases decide (x.2.2.2.1 = y.2.2.2.1) <;> cases decide (x.2.1 = y.2.1) <;> cases decide (x.2.2.1 = y.2.2.1) <;> rfl
theorem P_spec_l2Ints (x y : List Int) (hx : bL bAny x) : F_spec_l2Ints x y = some (decide (x = y)) := by
  unfold F_spec_l2Ints
  by_cases hl : x.length = y.length
  · have hc : decide ((x.length : Int) = (y.length : Int)) = true := by simp [hl]
    rw [hc, Bool.not_true, cond_false]
    refine eq_loop x y hl _ (fun i h h' => ?_) ?_
    · have e1 : decide ((i : Int) < (x.length : Int)) = true := by simpa using h
      simp only [e1, inB_nat x i h, inB_nat y i h', getD_toNat x i _ h, getD_toNat y i _ h', cond_true, wrap_succ i _ h hx.1]
      exact eq_step _
    · simp
  · have hc : decide ((x.length : Int) = (y.length : Int)) = false := decide_eq_false (fun h => hl (by omega))
    rw [hc, neq_len hl]; rfl
theorem P_spec_l2Same (x y : List Int × Int × Int) (hx : bL bAny x.1) : F_spec_l2Same x y = some (decide (x = y)) := by
  unfold F_spec_l2Same
  obtain ⟨a1, a2, a3⟩ := x; obtain ⟨b1, b2, b3⟩ := y
  rw [P_spec_l2Ints _ _ hx]
  by_cases h1 : a1 = b1 <;> by_cases h2 : a2 = b2 <;> by_cases h3 : a3 = b3 <;> simp [h1, h2, h3]
theorem P_spec_l4Same (x y : List TCoin) (hx : bL bCoin x) : F_spec_l4Same x y = some (decide (x = y)) := by
  unfold F_spec_l4Same
  by_cases hl : x.length = y.length
  · have hc : decide ((x.length : Int) = (y.length : Int)) = true := by simp [hl]
    rw [hc, Bool.not_true, cond_false]
    refine eq_loop x y hl _ (fun i h h' => ?_) ?_
    · have e1 : decide ((i : Int) < (x.length : Int)) = true := by simpa using h
      simp only [e1, inB_nat x i h, inB_nat y i h', getD_toNat x i _ h, getD_toNat y i _ h', cond_true, wrap_succ i _ h hx.1, beq2, beqB, P_spec_l2Same _ _ (hx.2 _ (List.getElem_mem h)), Option.bind_some]
      generalize x[i] = a
      generalize y[i] = b
      obtain ⟨a1, ⟨a2, a3⟩, a4, a5⟩ := a; obtain ⟨b1, ⟨b2, b3⟩, b4, b5⟩ := b
      by_cases h1 : a1 = b1 <;> by_cases h2 : a2 = b2 <;> by_cases h3 : a3 = b3 <;> by_cases h4 : a4 = b4 <;> by_cases h5 : a5 = b5 <;> simp [h1, h2, h3, h4, h5]
    · simp
  · have hc : decide ((x.length : Int) = (y.length : Int)) = false := decide_eq_false (fun h => hl (by omega))
    rw [hc, neq_len hl]; rfl
theorem P_spec_l6Same (x y : List TM) (hx : bL bAny x) : F_spec_l6Same x y = some (decide (x = y)) := by
  unfold F_spec_l6Same
  by_cases hl : x.length = y.length
  · have hc : decide ((x.length : Int) = (y.length : Int)) = true := by simp [hl]
    rw [hc, Bool.not_true, cond_false]
    refine eq_loop x y hl _ (fun i h h' => ?_) ?_
    · have e1 : decide ((i : Int) < (x.length : Int)) = true := by simpa using h
      simp only [e1, inB_nat x i h, inB_nat y i h', getD_toNat x i _ h, getD_toNat y i _ h', cond_true, wrap_succ i _ h hx.1, beq3]
      exact eq_step _
    · simp
  · have hc : decide ((x.length : Int) = (y.length : Int)) = false := decide_eq_false (fun h => hl (by omega))
    rw [hc, neq_len hl]; rfl
theorem P_spec_l8Same (x y : TState) (hx : bState x) : F_spec_l8Same x y = some (decide (x = y)) := by
  unfold F_spec_l8Same
  obtain ⟨a1, a2, a3, a4⟩ := x; obtain ⟨b1, b2, b3, b4⟩ := y
  rw [P_spec_l4Same _ _ hx.1, P_spec_l6Same _ _ hx.2]
  by_cases h1 : a1 = b1 <;> by_cases h2 : a2 = b2 <;> by_cases h3 : a3 = b3 <;> by_cases h4 : a4 = b4 <;> simp [h1, h2, h3, h4]
theorem P_spec_SameChains (x y : TChain) (hx : bChain x) : F_spec_SameChains x y = some (same x y) := by
  obtain ⟨hb1, hb2, hb3, hb4, hb5⟩ := hx
  unfold F_spec_SameChains same
  rw [P_spec_l8Same _ _ hb4, P_spec_l2Ints _ _ hb3]
  by_cases hs : x.2.2.2.1 = y.2.2.2.1
  · by_cases hl : x.2.1.length = y.2.1.length
    · have hc : decide ((x.2.1.length : Int) = (y.2.1.length : Int)) = true := by simp [hl]
      rw [hc, decide_eq_true hs]
      simp only [Option.bind_some, Bool.not_true, cond_false, Bool.true_and]
      by_cases hi : x.2.2.1 = y.2.2.1
      · rw [decide_eq_true hi]
        simp only [Option.bind_some, Bool.not_true, cond_false, Bool.and_true]
        refine eq_loop x.2.1 y.2.1 hl _ (fun i h h' => ?_) ?_
        · have e1 : decide ((i : Int) < (x.2.1.length : Int)) = true := by simpa using h
          simp only [e1, inB_nat _ i h, inB_nat _ i h', getD_toNat _ i _ h, getD_toNat _ i _ h', cond_true, wrap_succ i _ h hb2.1, beq3]
          exact eq_step _
        · simp
      · simp [hi]
    · have hc : decide ((x.2.1.length : Int) = (y.2.1.length : Int)) = false := decide_eq_false (fun h => hl (by omega))
      rw [hc, decide_eq_true hs, neq_len hl]; rfl
  · simp [hs]
theorem law_FnExactSameChains (x y : TChain) (hx : bChain x) (hy : bChain y) : F_laws_FnExactSameChains x y = some true := by
  unfold F_laws_FnExactSameChains
  rw [P_laws_szChain x hx 1048576 (by omega) (by omega), Option.bind_some]
  cases hc : decide (szr (totChain x) 1048576 < 0) with
  | true => rfl
  | false =>
    have h1 : 0 ≤ szr (totChain x) 1048576 := by have := of_decide_eq_false hc; omega
    have hl1 := szr_le h1
    rw [cond_false, P_laws_szChain y hy _ h1 (by omega), Option.bind_some]
    cases hc2 : decide (szr (totChain y) (szr (totChain x) 1048576) < 0) with
    | true => rfl
    | false =>
      have h2 : 0 ≤ szr (totChain y) (szr (totChain x) 1048576) := by have := of_decide_eq_false hc2; omega
      have hl2 := szr_le h2
      rw [cond_false, P_laws_toChain x (by omega), P_laws_toChain y (by omega)]
      simp only [Option.bind_some, P_spec_SameChains x y hx, P_impl_SameChains x y hx, P_laws_eqChain x x hx, P_laws_eqChain y y hy, beqB, decide_true, Bool.not_true, cond_false]
end SC
end Go.Dx
