/- A LIBRARY: an executor over the code of a program, proved sound: what its letters say of a function is so (contract_of); how a row is closed by it (law_calls) -/
import Derived.Test.YtmhbfgbadiikfaaGreatDxc
import Derived.Below
import Derived.WideKeyArgs
import Derived.ChangeArms
import Derived.ProofKit
import Derived.Sort.WalkB12
set_option linter.unusedVariables false
set_option linter.unusedSimpArgs false
namespace Go.Dx
variable {P : Program} {C : Ctx}
def TysL (P : Program) (C : Ctx) : List (TypeId × TI) → Prop
  | [] => True
  | (t, ti) :: l => TyOk P C t ti ∧ TysL P C l
theorem TysL.get : ∀ (l : List (TypeId × TI)), TysL P C l → ∀ t ti, assoc t l = some ti → TyOk P C t ti
  | [], _, t, ti, h => by cases h
  | (m, a) :: l, hl, t, ti, h => by
    unfold assoc at h
    cases hb : Nat.beq m t with
    | true =>
      rw [hb, cond_true] at h
      obtain rfl := Nat.eq_of_beq_eq_true hb
      cases h
      exact hl.1
    | false => rw [hb, cond_false] at h; exact TysL.get l hl.2 t ti h
theorem tysOk_of (h : TysL P C C.tys) : TysOk P C := fun t ti hh => TysL.get C.tys h t ti hh
theorem tysOk_at {C C' : Ctx} (hc : C'.tys = C.tys) (h : TysOk P C) : TysOk P C' := by
  have hty : ∀ t, C'.ty t = C.ty t := fun t => by unfold Ctx.ty; rw [hc]
  have hst : ∀ (fs : List (Nat × TypeId)) (off : Nat) (s : Sh), StructOk C off fs s → StructOk C' off fs s := by
    intro fs
    induction fs with
    | nil => intro off s h; exact h
    | cons f fs ih =>
      intro off s h
      cases fs with
      | nil => obtain ⟨o, t⟩ := f; simp only [StructOk] at h ⊢; rw [hty]; exact h
      | cons f2 fs => obtain ⟨o, t⟩ := f; simp only [StructOk] at h ⊢; rw [hty]; obtain ⟨a, b, h1, h2, h3, h4⟩ := h; exact ⟨a, b, h1, h2, h3, ih _ _ h4⟩
  intro t ti ht
  rw [hty] at ht
  have h0 := h t ti ht
  refine ⟨h0.info, ?_⟩
  have hu := h0.und
  cases htd : ti.td with
  | slice e => rw [htd] at hu; simp only at hu ⊢; rw [hty]; exact hu
  | struct fs => rw [htd] at hu; simp only at hu ⊢; exact ⟨hu.1, hst _ _ _ hu.2.1, hu.2.2⟩
  | _ => rw [htd] at hu; exact hu
def FnsL (P : Program) : List (FuncId × Callee) → Prop
  | [] => True
  | (j, K) :: l => Contract P j K ∧ FnsL P l
theorem FnsL.get : ∀ (l : List (FuncId × Callee)), FnsL P l → ∀ j K, assoc j l = some K → Contract P j K
  | [], _, t, ti, h => by cases h
  | (m, a) :: l, hl, t, ti, h => by
    unfold assoc at h
    cases hb : Nat.beq m t with
    | true =>
      rw [hb, cond_true] at h
      obtain rfl := Nat.eq_of_beq_eq_true hb
      cases h
      exact hl.1
    | false => rw [hb, cond_false] at h; exact FnsL.get l hl.2 t ti h
theorem ctxOk_of (h : FnsL P C.fns) : CtxOk P C := fun j K hh => FnsL.get C.fns h j K hh
end Go.Dx

namespace Go.Dx
variable {P : Program} {C : Ctx} {w : World}
/-- no functions within -/
def Sh.plain : Sh → Bool
  | .list s => s.plain
  | .prod a b => a.plain && b.plain
  | .fn1 .. => false
  | .fn2 .. => false
  | _ => true
/-- what every argument is: numbers of their kind, lists that fit a machine -/
def Bnd : (s : Sh) → s.den → Prop
  | .int k, n => (Lit.int k n).wf = true
  | .bool, _ => True
  | .str, x => List.length x ≤ maxLen
  | .list s, x => List.length x ≤ maxLen ∧ ∀ y, y ∈ (show List s.den from x) → Bnd s y
  | .prod a b, x => Bnd a x.1 ∧ Bnd b x.2
  | .fn1 .., _ => True
  | .fn2 .., _ => True
theorem TyOk.cells {t : TypeId} {ti : TI} (h : TyOk P C t ti) : P.cellsOf t = ti.sh.size := by
  obtain ⟨i, h1, h2, _⟩ := h.info
  simp [Program.cellsOf, h1, h2]
theorem mapM_get {α β : Type} {f : α → Option β} : ∀ (l : List α) {r : List β}, l.mapM f = some r → r.length = l.length ∧ ∀ (i : Nat) (x : α), l[i]? = some x → f x = r[i]?
  | [], r, h => by simp at h; subst h; simp
  | x :: l, r, h => by
    simp only [List.mapM_cons, Option.bind_eq_bind, Option.bind_eq_some_iff, Option.pure_def, Option.some.injEq] at h
    obtain ⟨y, hy, r', hr, rfl⟩ := h
    obtain ⟨h1, h2⟩ := mapM_get l hr
    refine ⟨by simp [h1], fun i z hz => ?_⟩
    cases i with
    | zero => simp only [List.getElem?_cons_zero, Option.some.injEq] at hz ⊢; subst hz; exact hy
    | succ i => simp only [List.getElem?_cons_succ] at hz ⊢; exact h2 i z hz
theorem cells?_get {a : Addr} {n : Nat} {cs : List Value} (h : w.cells? 0 a n = some cs) : cs.length = n ∧ ∀ k, k < n → cs[k]? = w.cell? (a.add k) := by
  simp only [World.cells?, Nat.zero_le, if_true] at h
  obtain ⟨h1, h2⟩ := mapM_get _ h
  refine ⟨by simpa using h1, fun k hk => ?_⟩
  exact (h2 k k (by simp [hk])).symm
theorem cell?_some {a : Addr} {v : Value} (h : w.cell? a = some v) : a.spot = none ∧ a.block < w.heap.size := by
  simp only [World.cell?] at h
  split at h
  · rename_i c _ _ hc
    split at h
    · cases h
    · rename_i hs
      refine ⟨by simpa using hs, ?_⟩
      rcases Nat.lt_or_ge a.block w.heap.size with h' | h'
      · exact h'
      · rw [Array.getElem?_eq_none h'] at hc; cases hc
  · cases h
/-- AN ARGUMENT OPENED: what is read is a datum of its shape, shared -/
theorem open_rep {H : Type} {enc : TypeId × Value → H} {sp : Nat → Bool} {held : Bool} {Z : Nat → Prop} (hZ : ∀ b, b < w.heap.size → Z b) (hT : TysOk P C) : ∀ (fuel : Nat) (t : TypeId) (ti : TI) (cs : List Value) (x : DataW H × List MemPlace),
    C.ty t = some ti → ti.sh.plain = true → DataW.trod enc P w 0 sp held fuel t cs = some x → cs.length = ti.sh.size ∧ ∃ y : ti.sh.den, RepC P ti.sh .z Z w none1 (fun k => cs[k]?) y ∧ Bnd ti.sh y := by
  intro fuel
  induction fuel with
  | zero => intro t ti cs x _ _ h; simp [DataW.trod] at h
  | succ fuel ih =>
    intro t ti cs x ht hp h
    have hok := hT t ti ht
    have hu := hok.und
    obtain ⟨sh, bytes, td⟩ := ti
    simp only at hu hp ⊢
    cases td with
    | int k =>
      obtain ⟨hu, rfl⟩ := hu
      obtain ⟨n, rfl, _, hw⟩ := DataW.trod_int hu h
      exact ⟨rfl, n, fun _ => rfl, hw⟩
    | bool =>
      obtain ⟨hu, rfl⟩ := hu
      obtain ⟨b, rfl, _⟩ := DataW.trod_bool hu h
      exact ⟨rfl, b, fun _ => rfl, trivial⟩
    | str =>
      obtain ⟨hu, rfl⟩ := hu
      obtain ⟨s, rfl, _, hl⟩ := DataW.trod_string hu h
      exact ⟨rfl, s.data.toList, fun _ => by simp, by show s.data.toList.length ≤ maxLen; simpa using hl⟩
    | ptr e => obtain ⟨_, rfl⟩ := hu; cases hp
    | func => obtain ⟨_, ⟨_, _, _, rfl⟩ | ⟨_, _, _, rfl⟩⟩ := hu <;> cases hp
    | other => exact hu.elim
    | slice e =>
      obtain ⟨hu, te, hte, rfl⟩ := hu
      have hce := (hT e te hte).cells
      simp only [Sh.plain] at hp
      rcases DataW.trod_slice hu h with ⟨rfl, _⟩ | ⟨a, len, cap, elems, rest, n, hn, rfl, _, _, hl, hm, hlen, hel, _⟩
      · exact ⟨rfl, [], ⟨none, 0, 0, rfl, rfl, Nat.le_refl _, fun h => by omega⟩, by show List.length [] ≤ maxLen; simp, fun y hy => by cases hy⟩
      · obtain rfl : fuel = n := by omega
        have hcell : ∀ i, i < len → ∃ cs', w.cells? 0 (a.add (i * te.sh.size)) te.sh.size = some cs' ∧ ∃ y : te.sh.den, RepC P te.sh .z Z w none1 (fun k => cs'[k]?) y ∧ Bnd te.sh y := by
          intro i hi
          have h1 := hel i hi
          rw [List.getElem?_eq_getElem (by omega)] at h1
          obtain ⟨cs', h2, h3⟩ := Option.bind_eq_some_iff.1 h1
          rw [hce] at h2
          exact ⟨cs', h2, (ih e te cs' _ hte hp h3).2⟩
        have hpos := Sh.size_pos te.sh
        have first : 0 < len → a.spot = none ∧ a.block < w.heap.size := by
          intro h0
          obtain ⟨cs', h1, _⟩ := hcell 0 h0
          obtain ⟨h2, h3⟩ := cells?_get h1
          have h4 := h3 0 hpos
          rw [List.getElem?_eq_getElem (by omega)] at h4
          have h5 := cell?_some h4.symm
          simpa [Addr.add] using h5
        have one : ∀ i, ∃ y : te.sh.den, i < len → RepC P te.sh .z Z w none1 (cellsAt w a.block (a.off + i * te.sh.size)) y ∧ Bnd te.sh y := by
          intro i
          by_cases hi : i < len
          · obtain ⟨cs', h1, y, h2, h3⟩ := hcell i hi
            refine ⟨y, fun _ => ⟨RepC.congr (fun k hk => ?_) h2, h3⟩⟩
            obtain ⟨_, h4⟩ := cells?_get h1
            have hsp := (first (by omega)).1
            show cellsAt w a.block (a.off + i * te.sh.size) k = cs'[k]?
            rw [h4 k hk]
            obtain ⟨ab, ao, asp⟩ := a
            simp only at hsp
            subst hsp
            simp only [cellsAt, Addr.add]
            congr 1
            split <;> split <;> simp_all <;> omega
          · exact ⟨te.sh.dflt, fun h => absurd h hi⟩
        obtain ⟨f, hf⟩ := Classical.axiomOfChoice one
        refine ⟨rfl, (List.range len).map f, ⟨some a, len, cap, rfl, by simp, hl, fun h0 => ?_⟩, ?_, fun y hy => ?_⟩
        · obtain ⟨h1, h2⟩ := first h0
          refine ⟨a.block, a.off, by rw [← h1], hZ _ h2, fun j hj => ?_⟩
          have hj' : j < len := by simpa using hj
          have := (hf j hj').1
          simpa using this
        · show ((List.range len).map f).length ≤ maxLen
          simp; omega
        · have hy : y ∈ (List.range len).map f := hy
          rw [List.mem_map] at hy
          obtain ⟨i, hi, rfl⟩ := hy
          exact (hf i (by simpa using hi)).2
    | struct fs =>
      obtain ⟨⟨fields, hu, rfl, _⟩, hso, _⟩ := hu
      have hc0 := hok.cells
      simp only at hc0
      obtain ⟨xs, n, hn, _, hlen, hxl, hel⟩ := DataW.trod_struct hu h
      obtain rfl : fuel = n := by omega
      rw [hc0] at hlen
      refine ⟨hlen, ?_⟩
      have hall : ∀ f, f ∈ fields.toList → ∃ y, DataW.trod enc P w 0 sp held fuel f.type ((cs.drop f.offset).take (P.cellsOf f.type)) = some y := by
        intro f hf
        obtain ⟨i, hi, rfl⟩ := List.getElem_of_mem hf
        have hi' : i < fields.size := by simpa using hi
        have := hel i (fields.toList[i]) (by simp [Array.getElem?_eq_getElem hi'])
        rw [List.getElem?_eq_getElem (by omega)] at this
        exact ⟨_, this⟩
      have key : ∀ (l : List Field) (off : Nat) (s : Sh), StructOk C off (l.map fun f => (f.offset, f.type)) s → s.plain = true → (∀ f, f ∈ l → f ∈ fields.toList) → ∃ y : s.den, RepC P s .z Z w none1 (fun k => cs[off + k]?) y ∧ Bnd s y := by
        have field : ∀ (f : Field) (ti : TI), C.ty f.type = some ti → ti.sh.plain = true → f ∈ fields.toList → ∃ y : ti.sh.den, RepC P ti.sh .z Z w none1 (fun k => cs[f.offset + k]?) y ∧ Bnd ti.sh y := by
          intro f ti hti hpl hf
          obtain ⟨x', hx'⟩ := hall f hf
          obtain ⟨_, y, h2, h3⟩ := ih f.type ti _ _ hti hpl hx'
          refine ⟨y, RepC.congr (fun k hk => ?_) h2, h3⟩
          rw [(hT _ _ hti).cells, List.getElem?_take, if_pos hk, List.getElem?_drop]
        intro l
        induction l with
        | nil => intro off s h; exact h.elim
        | cons f l ihl =>
          intro off s h hpl hsub
          cases l with
          | nil =>
            simp only [List.map_cons, List.map_nil, StructOk] at h
            obtain ⟨ho, ti, hti, rfl⟩ := h
            obtain ⟨y, h1, h2⟩ := field f ti hti hpl (hsub f (by simp))
            rw [ho] at h1
            exact ⟨y, h1, h2⟩
          | cons f2 l =>
            simp only [List.map_cons, StructOk] at h
            obtain ⟨a, b, rfl, ho, ⟨ti, hti, rfl⟩, hrest⟩ := h
            simp only [Sh.plain, Bool.and_eq_true] at hpl
            obtain ⟨y, h1, h2⟩ := field f ti hti hpl.1 (hsub f (by simp))
            obtain ⟨z, h3, h4⟩ := ihl (off + ti.sh.size) b hrest hpl.2 (fun g hg => hsub g (by simp [hg]))
            rw [ho] at h1
            refine ⟨(y, z), ⟨fun _ => true, h1.mono (fun _ h => h) (fun _ h => h.elim), ?_⟩, h2, h4⟩
            refine RepC.mono (fun _ h => h) (fun _ h => h.elim) (RepC.congr (fun k hk => ?_) h3)
            show cs[off + (ti.sh.size + k)]? = _
            rw [Nat.add_assoc]
      obtain ⟨y, h1, h2⟩ := key fields.toList 0 sh hso hp (fun f hf => hf)
      refine ⟨y, RepC.congr (fun k hk => ?_) h1, h2⟩
      rw [Nat.zero_add]
end Go.Dx

namespace Go.Dx
open Go.ChangeShapes Go.WideShapes Go.ChangeAt Go.RowKit
variable {P : Program} {C : Ctx} {H : Type} {enc : TypeId × Value → H}
noncomputable def owAll (w : World) : Nat → Tag := fun i => if i < w.heap.size then .fz else .none
def PsOf (C : Ctx) : List TypeId → List PS → Prop
  | [], [] => True
  | t :: ts, .v s f :: ps => (∃ ti, C.ty t = some ti ∧ ti.sh = s ∧ s.plain = true) ∧ f = .z ∧ PsOf C ts ps
  | _, _ => False
def BndI : (ps : List PS) → TupI (ps.map PS.sh) → Prop
  | [], _ => True
  | p :: ps, t => Bnd p.sh t.1 ∧ BndI ps t.2
theorem open_arg {W : World} {sp : Nat → Bool} {held : Bool} {r : Reach} {b0 : Nat} (hT : TysOk P C) {t : TypeId} {ti : TI} (ht : C.ty t = some ti) (hp : ti.sh.plain = true) {v : Value} {d : DataW H} {ps : List MemPlace} (hval : Value.okWide P W r b0 t v)
    (hd : DataW.Trod enc P W 0 sp held t v d ps) (i : Nat) : ∃ y : ti.sh.den, ParamOk P (owAll W) W i (.v ti.sh .z) v y ∧ Bnd ti.sh y := by
  obtain ⟨fuel, hd⟩ := hd
  obtain ⟨hlen, y, h1, h2⟩ := open_rep (Z := Zo (owAll W)) (fun b hb => by show owAll W b = .fz; simp [owAll, hb]) hT fuel t ti _ _ ht hp hd
  refine ⟨y, ⟨?_, RepC.mono (fun _ h => h) (fun _ h => h.elim) (RepC.congr (fun k hk => ?_) h1)⟩, h2⟩
  · have hok := hT t ti ht
    have hu := hok.und
    have hce := hok.cells
    obtain ⟨sh, bytes, td⟩ := ti
    simp only at hu hce hp ⊢
    cases td with
    | int k => obtain ⟨hu, rfl⟩ := hu; cases v <;> first | rfl | (simp [Value.okWide, Cell.okWide, Cell.ok, hu] at hval)
    | bool => obtain ⟨hu, rfl⟩ := hu; cases v <;> first | rfl | (simp [Value.okWide, Cell.okWide, Cell.ok, hu] at hval)
    | str => obtain ⟨hu, rfl⟩ := hu; cases v <;> first | rfl | (simp [Value.okWide, Cell.okWide, Cell.ok, hu] at hval)
    | ptr e => obtain ⟨_, rfl⟩ := hu; cases hp
    | func => obtain ⟨_, ⟨_, _, _, rfl⟩ | ⟨_, _, _, rfl⟩⟩ := hu <;> cases hp
    | other => exact hu.elim
    | slice e => obtain ⟨hu, te, _, rfl⟩ := hu; cases v <;> first | rfl | (simp [Value.okWide, Cell.okWide, Cell.ok, hu] at hval)
    | struct fs =>
      obtain ⟨⟨fields, hu, rfl, _⟩, hso, h2, _⟩ := hu
      simp only [Value.okWide, hu] at hval
      obtain ⟨cs, rfl, hcs, _⟩ := hval
      have := StructOk.prod hso h2
      cases sh with
      | prod a b => exact ⟨cs, rfl, by rw [hcs, hce]; rfl⟩
      | _ => cases this
  · simp [cellsV]
theorem open_all {W : World} {sp : Nat → Bool} {held : Bool} {r : Reach} {b0 : Nat} (hT : TysOk P C) : ∀ (ts : List TypeId) (ps : List PS) (vs : List Value) (ds : List (DataW H)) (pl : List MemPlace) (i : Nat), PsOf C ts ps → DataW.TrodAll enc P W 0 sp held ts vs ds pl →
    (∀ (j : Nat) t v, ts[j]? = some t → vs[j]? = some v → Value.okWide P W r b0 t v) → ds.length = ts.length ∧ ∃ xs : TupI (ps.map PS.sh), ParamsOk P (owAll W) W i ps vs xs ∧ BndI ps xs
  | [], [], vs, ds, pl, i, _, h, _ => by
    obtain ⟨rfl, rfl, rfl⟩ := trodAll_nil h
    exact ⟨rfl, (), rfl, trivial⟩
  | [], _ :: _, _, _, _, _, hps, _, _ => hps.elim
  | _ :: _, [], _, _, _, _, hps, _, _ => hps.elim
  | t :: ts, .v s f :: ps, vs, ds, pl, i, hps, h, hval => by
    obtain ⟨⟨ti, ht, rfl, hp⟩, rfl, hps⟩ := hps
    obtain ⟨v, vs', d, ds', p, q, rfl, rfl, rfl, h1, h2⟩ := trodAll_cons h
    obtain ⟨y, h3, h4⟩ := open_arg hT ht hp (hval 0 t v rfl rfl) h1 i
    obtain ⟨hl, xs, h5, h6⟩ := open_all hT ts ps vs' ds' q (i + 1) hps h2 (fun j t v ht hv => hval (j + 1) t v (by simpa using ht) (by simpa using hv))
    exact ⟨by simp [hl], (y, xs), ⟨h3, h5⟩, h4, h6⟩
  | _ :: _, .rp _ _ :: _, _, _, _, _, hps, _, _ => hps.elim
  | _ :: _, .io .. :: _, _, _, _, _, hps, _, _ => hps.elim
  | _ :: _, .mu .. :: _, _, _, _, _, hps, _, _ => hps.elim
theorem stays_all (hl : laidOutB P = true) {W W' : World} {sp' : Nat → Bool} : ∀ (ts : List TypeId) (vs : List Value) (ds : List (DataW H)) (pl : List MemPlace), (∀ t, t ∈ ts → P.readableRec t = true ∧ t < P.types.size) → DataW.TrodAll enc P W 0 (fun _ => true) true ts vs ds pl →
    (∀ p, p ∈ pl → W.sameAt W' p) → (∀ p, p ∈ pl → sp' p.block = true) → DataW.TrodAll enc P W' 0 sp' true ts vs ds pl
  | [], vs, ds, pl, _, h, _, _ => by
    obtain ⟨rfl, rfl, rfl⟩ := trodAll_nil h
    exact rfl
  | t :: ts, vs, ds, pl, hr, h, hs, hsp => by
    obtain ⟨v, vs', d, ds', p, q, rfl, rfl, rfl, h1, h2⟩ := trodAll_cons h
    obtain ⟨h3, h4⟩ := hr t (by simp)
    exact ⟨p, q, WideElems.Trod_stays hl h3 h4 h1 (fun x hx => hs x (by simp [hx])) (fun x hx => hsp x (by simp [hx])), stays_all hl ts vs' ds' q (fun t ht => hr t (by simp [ht])) h2 (fun x hx => hs x (by simp [hx])) (fun x hx => hsp x (by simp [hx])), rfl⟩
/-- what 'post' asks, where below the heap's old size nothing has turned -/
theorem post_of_below {f : Func} {s : ChangeSpec} {apart fresh handsOn again : Bool} {W W' : World} {args : Array Value} {v : Value} {ds : List (DataW H)} {before : List MemPlace} (hvs : s.vars = []) (hl : laidOutB P = true)
    (hr : ∀ t, t ∈ f.params.toList → P.readableRec t = true ∧ t < P.types.size)
    (hW : DataW.Whole enc P f.params.toList s.vars apart W args.toList ds [] before) (hb : Below W.heap.size W W') {rs : List (DataW H)} (hspec : s.fn H ds = { results := rs, args := ds })
    (hres : ∀ (b : Nat) (sp : Nat → Bool) (hd : Bool), DataW.TrodAll enc P W' b sp hd f.resultTypes.toList (v.resultList f.resultTypes.size) rs [])
    (hok : ∀ (j : Nat) (t : TypeId) (r : Value), f.resultTypes[j]? = some t → (v.resultList f.resultTypes.size)[j]? = some r → Value.okWide P W' .any 0 t r) :
    s.post enc P f apart fresh handsOn again W args v W' := by
  have hlt : ∀ p ∈ before, p.block < W.heap.size := fun p hp => by simpa using hW.lt p hp
  have hold : ∀ p ∈ before, (fun b => decide (b < W.heap.size)) p.block = true := fun p hp => by simpa using hW.lt p hp
  obtain ⟨p, q, hA, hV, rfl, hz, hn⟩ := id hW
  have hV' : DataW.TrodVars enc P W (fun _ => true) [] [] q := by rw [hvs] at hV; exact hV
  obtain rfl : q = [] := hV'
  have hargs : ∀ sp : Nat → Bool, (∀ x ∈ p ++ [], sp x.block = true) → DataW.TrodAll enc P W' 0 sp true f.params.toList args.toList ds p := fun sp hsp =>
    stays_all hl _ _ _ _ hr hA (fun x hx => hb.same (hlt x (by simp [hx]))) (fun x hx => hsp x (by simp [hx]))
  have hfn : s.fn H (ds ++ []) = { results := rs, args := ds } := by rw [List.append_nil]; exact hspec
  have hvars : ∀ sp : Nat → Bool, DataW.TrodVars enc P W' sp s.vars [] [] := fun sp => by rw [hvs]; exact rfl
  refine ⟨ds, [], p ++ [], [], p, [], hW, by rw [hfn]; exact hres _ _ _, by rw [hfn]; exact hargs _ hold, by rw [hfn]; exact hvars _, hb.frame _, fun _ => ?_⟩
  refine ⟨hok, _, _, ([] ++ p) ++ [], ⟨[] ++ p, [], trodAll_append (hargs _ (fun _ _ => rfl)) (hres _ _ _), hvars _, rfl, ?_, ?_⟩, ?_⟩
  · intro b off hp
    have hlo : b < W.heap.size := hlt (.cell b off) (by simpa using hp)
    rw [hb.frozen (p := ⟨b, off, none⟩) hlo]
    exact hz b off (by simpa using hp)
  · intro ha
    have := hn ha
    simpa using this
  · intro x hx _
    simpa using hx
/-- A LAW OF ANY NUMBER OF ARGUMENTS: what its letters say is what its row asks -/
theorem law_calls (hT : TysOk P C) {j : FuncId} {fn : Func} {K : Callee} (hK : Contract P j K) (hps : PsOf C fn.params.toList K.ins) (hres : fn.resultTypes = #[4]) (hbool : P.underlying 4 = some .bool)
    {s : ChangeSpec} {apart fresh handsOn again : Bool} (hvs : s.vars = []) (hl : laidOutB P = true) (hr : ∀ t, t ∈ fn.params.toList → P.readableRec t = true ∧ t < P.types.size)
    (hspec : ∀ ds : List (DataW H), ds.length = fn.params.toList.length → s.fn H ds = { results := [.lit (.bool true)], args := ds })
    {W : World} {base : Nat} {args : Array Value} {ds gs : List (DataW H)} {before : List MemPlace} (hval : ∀ (j : Nat) t v, fn.params[j]? = some t → args[j]? = some v → Value.okWide P W .any base t v)
    (hW : DataW.Whole enc P fn.params.toList s.vars apart W args.toList ds gs before)
    (hF : ∀ xs, BndI K.ins xs → ∃ ys, K.F xs = some ys ∧ K.outs = [(.bool, .z)] ∧ (scat _ ys).take K.outs.length = [⟨.bool, true⟩]) :
    Calls P j args W fun e W' => ∃ v, e = .returned v ∧ s.post enc P fn apart fresh handsOn again W args v W' := by
  obtain ⟨p, q, hA, hV, hb, hz, hn⟩ := id hW
  have hV' : DataW.TrodVars enc P W (fun _ => true) [] gs q := by rw [hvs] at hV; exact hV
  have hgs : gs = [] := by cases gs with | nil => rfl | cons g gs => exact hV'.elim
  subst hgs
  obtain ⟨hlen, xs, hpar, hbnd⟩ := open_all hT fn.params.toList K.ins args.toList ds p 0 hps hA (fun j t v ht hv => hval j t v (by simpa using ht) (by simpa using hv))
  obtain ⟨ys, hys, houts, hy⟩ := hF xs hbnd
  have hc := hK.2 W (owAll W) args.toList xs ys (fun i hi => by
    rcases Nat.lt_or_ge i W.heap.size with h | h
    · exact h
    · exact absurd (by simp [owAll, Nat.not_lt.2 h]) hi) hpar hys
  have hc : Calls P j args W (fun e w' => ∃ vr ow', e = .returned vr ∧ CallPost P K (owAll W) W args.toList ys ow' w' vr) := by simpa using hc
  refine hc.mono fun e W' ⟨vr, ow', he, hpost⟩ => ⟨vr, he, ?_⟩
  have hbel : Below W.heap.size W W' := ⟨hpost.st.os, hpost.st.tape, hpost.st.output, hpost.st.size, fun k hk => (hpost.frame k hk (.inr (by simp [owAll, hk]))).1⟩
  have hvr : vr = .bool true := by
    have h1 := hpost.res
    rw [hy] at h1
    rw [houts] at h1
    obtain ⟨_, h2⟩ := h1
    simp only at h2
    have h3 : cellsV vr 0 = some (.bool true) := h2.2 (by simp)
    have h4 : vr.cells = #[vr] := h2.1
    simp only [cellsV, h4] at h3
    simpa using h3
  subst hvr
  refine post_of_below hvs hl hr hW hbel (hspec ds hlen) (fun b sp hd => ?_) (ok_one hres rfl (okWide_bool_mk hbool _))
  rw [hres]
  exact trodAll_mk1 (shut_bool hbool _)
end Go.Dx

namespace Go.Dx
/-! plain laws: loops -/
theorem iterO_mono {S X : Type} {f : S → Option (S ⊕ X)} : ∀ (n : Nat) {s : S} {x : X} (m : Nat), iterO f n s = some x → n ≤ m → iterO f m s = some x
  | 0, s, x, m, h, _ => by simp [iterO] at h
  | n + 1, s, x, 0, h, hm => by omega
  | n + 1, s, x, m + 1, h, hm => by
    unfold iterO at h ⊢
    split at h
    · cases h
    · exact iterO_mono n m h (by omega)
    · exact h
theorem loopO_of {S X : Type} {f : S → Option (S ⊕ X)} {n : Nat} {s : S} {x : X} (h : iterO f n s = some x) : loopO f s = some x := by
  unfold loopO
  have hex : ∃ n x, iterO f n s = some x := ⟨n, x, h⟩
  rw [dif_pos hex]
  have h2 := hex.choose_spec.choose_spec
  have a := iterO_mono _ (max n hex.choose) h (Nat.le_max_left _ _)
  have b := iterO_mono _ (max n hex.choose) h2 (Nat.le_max_right _ _)
  rw [a] at b
  exact b.symm
theorem loopO_iff {S X : Type} {f : S → Option (S ⊕ X)} {s : S} {x : X} (h : loopO f s = some x) : ∃ n, iterO f n s = some x := by
  unfold loopO at h
  split at h
  · rename_i hex
    have h2 := hex.choose_spec.choose_spec
    simp only [Option.some.injEq] at h
    exact ⟨hex.choose, by rw [← h]; exact h2⟩
  · cases h
theorem loopO_go {S X : Type} {f : S → Option (S ⊕ X)} {s s' : S} {x : X} (h : f s = some (.inl s')) (h2 : loopO f s' = some x) : loopO f s = some x := by
  obtain ⟨n, hn⟩ := loopO_iff h2
  exact loopO_of (n := n + 1) (by unfold iterO; rw [h]; exact hn)
theorem loopO_out {S X : Type} {f : S → Option (S ⊕ X)} {s : S} {x : X} (h : f s = some (.inr x)) : loopO f s = some x := loopO_of (n := 1) (by unfold iterO; rw [h])
theorem wrap_id {n : Int} (h1 : -9223372036854775808 ≤ n) (h2 : n < 9223372036854775808) : IntKind.wrap .i64 n = n := by
  simp [IntKind.wrap, IntKind.signed, IntKind.bits]
  omega
theorem getD_toNat {α : Type} (l : List α) (i : Nat) (d : α) (h : i < l.length) : List.getD l (Int.toNat (i : Int)) d = l[i] := by
  simp [List.getD_eq_getElem?_getD, List.getElem?_eq_getElem h]
theorem inB_nat {α : Type} (l : List α) (i : Nat) (h : i < l.length) : inB (i : Int) l = true := by
  simp [inB]; omega
/-- copies -/
theorem to_loop {α : Type} (l : List α) (d : α) (f : List α × Int → Option ((List α × Int) ⊕ List α)) (hstep : ∀ (i : Nat) (acc : List α) (h : i < l.length), acc.length = l.length → f (acc, (i : Int)) = some (.inl (acc.set i l[i], ((i + 1 : Nat) : Int))))
    (hend : ∀ acc, f (acc, (l.length : Int)) = some (.inr acc)) : loopO f (List.replicate l.length d, 0) = some l := by
  have key : ∀ (k i : Nat) (acc : List α), i + k = l.length → acc.length = l.length → (∀ j (h : j < l.length), j < i → acc[j]? = some l[j]) → loopO f (acc, (i : Int)) = some l := by
    intro k
    induction k with
    | zero =>
      intro i acc hi hl hj
      obtain rfl : i = l.length := by omega
      have : acc = l := List.ext_getElem hl (fun j h1 h2 => by
        have := hj j h2 h2
        rw [List.getElem?_eq_getElem h1] at this
        simpa using this)
      rw [← this] at hend ⊢
      exact loopO_out (hend acc)
    | succ k ih =>
      intro i acc hi hl hj
      refine loopO_go (hstep i acc (by omega) hl) (ih (i + 1) _ (by omega) (by simpa using hl) fun j h1 h2 => ?_)
      rw [List.getElem?_set]
      by_cases hij : i = j
      · subst hij; simp [hl]; omega
      · rw [if_neg hij]; exact hj j h1 (by omega)
  exact key l.length 0 _ (by omega) (by simp) (fun j _ h => by omega)
/-- comparisons -/
theorem eq_loop {α : Type} [DecidableEq α] (l r : List α) (hl : l.length = r.length) (f : Int → Option (Int ⊕ (Unit ⊕ Bool)))
    (hstep : ∀ (i : Nat) (h : i < l.length) (h' : i < r.length), f (i : Int) = if l[i] = r[i] then some (.inl ((i + 1 : Nat) : Int)) else some (.inr (.inr false))) (hend : f (l.length : Int) = some (.inr (.inl ()))) :
    (loopO f 0).bind (fun j => Sum.elim (fun _ => some true) (fun b => some b) j) = some (decide (l = r)) := by
  have key : ∀ (k i : Nat), i + k = l.length → loopO f (i : Int) = some (if l.drop i = r.drop i then .inl () else .inr false) := by
    intro k
    induction k with
    | zero =>
      intro i hi
      obtain rfl : i = l.length := by omega
      rw [loopO_out hend, List.drop_length, hl, List.drop_length, if_pos rfl]
    | succ k ih =>
      intro i hi
      have h1 : i < l.length := by omega
      have h2 : i < r.length := by omega
      have hs := hstep i h1 h2
      rw [List.drop_eq_getElem_cons h1, List.drop_eq_getElem_cons h2]
      by_cases he : l[i] = r[i]
      · rw [if_pos he] at hs
        rw [loopO_go hs (ih (i + 1) (by omega)), he]
        by_cases hab : List.drop (i + 1) l = List.drop (i + 1) r
        · rw [if_pos hab, if_pos (by rw [hab])]
        · rw [if_neg hab, if_neg (fun h => hab (List.cons.inj h).2)]
      · rw [if_neg he] at hs
        rw [loopO_out hs, if_neg (fun h => he (List.cons.inj h).1)]
  have := key l.length 0 (by omega)
  simp only [List.drop_zero] at this
  rw [show ((0 : Nat) : Int) = 0 from rfl] at this
  rw [this]
  by_cases h : l = r <;> simp [h]
/-- what is left behind a measure -/
def szr (t : Nat) (left : Int) : Int := if (t : Int) ≤ left then left - t else -1
theorem szr_bind (a b : Nat) (left : Int) {k : Int → Option Int} (h0 : 0 ≤ left) (hk : 0 ≤ szr a left → k (szr a left) = some (szr b (szr a left))) : (bif decide (szr a left < 0) then some (-1) else k (szr a left)) = some (szr (a + b) left) := by
  by_cases h : (a : Int) ≤ left
  · have e : szr a left = left - a := by simp [szr, h]
    have hn : ¬ szr a left < 0 := by omega
    simp only [hn, decide_false, cond_false]
    rw [hk (by omega), e]
    simp only [szr]
    congr 1
    split <;> split <;> omega
  · have e : szr a left = -1 := by simp [szr, h]
    simp only [e]
    have : szr (a + b) left = -1 := by simp only [szr]; split <;> omega
    simp [this]
theorem szr_last (a : Nat) (left : Int) (h0 : 0 ≤ left) : (bif decide (szr a left < 0) then some (-1) else some (szr a left)) = some (szr a left) := by
  by_cases h : (a : Int) ≤ left
  · have e : szr a left = left - a := by simp [szr, h]
    have hn : ¬ szr a left < 0 := by omega
    simp [hn]
  · have e : szr a left = -1 := by simp [szr, h]
    simp [e]
theorem szr_le {a : Nat} {left : Int} (h : 0 ≤ szr a left) : (a : Int) ≤ left ∧ szr a left = left - a := by
  unfold szr at h ⊢; split at h <;> simp_all <;> omega
theorem szr_lead {n : Nat} {left : Int} {k : Int → Option Int} {b : Nat} (h0 : 0 ≤ left) (h1 : left ≤ 1048576) (hn : n ≤ 9223372036854775807) (hk : (n : Int) ≤ left → k (left - n) = some (szr b (left - n))) :
    (bif decide (IntKind.wrap .i64 (left - (n : Int)) < 0) then some (-1) else k (IntKind.wrap .i64 (left - (n : Int)))) = some (szr (n + b) left) := by
  rw [wrap_id (by omega) (by omega)]
  by_cases h : (n : Int) ≤ left
  · have hn : ¬ (left - (n : Int)) < 0 := by omega
    simp only [hn, decide_false, cond_false]
    rw [hk h]
    simp only [szr]
    congr 1
    split <;> split <;> omega
  · have hn : (left - (n : Int)) < 0 := by omega
    have : szr (n + b) left = -1 := by simp only [szr]; split <;> omega
    simp [hn, this]
theorem sz_loop {α : Type} (l : List α) (m : α → Nat) (f : Int × Int → Option ((Int × Int) ⊕ (Int ⊕ Int)))
    (hstep : ∀ (i : Nat) (left : Int) (h : i < l.length), 0 ≤ left → left ≤ 1048576 → f (left, (i : Int)) = if (m l[i] : Int) ≤ left then some (.inl (left - m l[i], ((i + 1 : Nat) : Int))) else some (.inr (.inr (-1))))
    (hend : ∀ left, f (left, (l.length : Int)) = some (.inr (.inl left))) (left : Int) (h0 : 0 ≤ left) (h1 : left ≤ 1048576) :
    (loopO f (left, 0)).bind (fun j => Sum.elim (fun a => some a) (fun b => some b) j) = some (szr (l.map m).sum left) := by
  have key : ∀ (k i : Nat) (left : Int), i + k = l.length → 0 ≤ left → left ≤ 1048576 → (loopO f (left, (i : Int))).bind (fun j => Sum.elim (fun a => some a) (fun b => some b) j) = some (szr ((l.drop i).map m).sum left) := by
    intro k
    induction k with
    | zero =>
      intro i left hi h0 h1
      obtain rfl : i = l.length := by omega
      rw [loopO_out (hend left), List.drop_length]
      simp [szr, h0]
    | succ k ih =>
      intro i left hi h0 h1
      have hlt : i < l.length := by omega
      have hs := hstep i left hlt h0 h1
      rw [List.drop_eq_getElem_cons hlt, List.map_cons, List.sum_cons]
      by_cases he : (m l[i] : Int) ≤ left
      · rw [if_pos he] at hs
        have hr := ih (i + 1) (left - m l[i]) (by omega) (by omega) (by omega)
        cases hx : loopO f (left - (m l[i] : Int), ((i + 1 : Nat) : Int)) with
        | none => rw [hx] at hr; cases hr
        | some y =>
          rw [hx] at hr
          rw [loopO_go hs hx]
          refine hr.trans ?_
          simp only [szr]
          congr 1
          split <;> split <;> omega
      · rw [if_neg he] at hs
        rw [loopO_out hs]
        have : szr (m l[i] + ((l.drop (i + 1)).map m).sum) left = -1 := by simp only [szr]; split <;> omega
        rw [this]; rfl
  have := key l.length 0 left (by omega) h0 h1
  simpa using this
end Go.Dx

namespace Go.Dx
/-! plain laws: more loops -/
theorem loopO_none {S X : Type} {f : S → Option (S ⊕ X)} {s : S} (h : f s = none) : loopO f s = none := by
  cases hl : loopO f s with
  | none => rfl
  | some x =>
    obtain ⟨n, hn⟩ := loopO_iff hl
    cases n with
    | zero => simp [iterO] at hn
    | succ n => unfold iterO at hn; rw [h] at hn; cases hn
theorem loopO_next {S X : Type} {f : S → Option (S ⊕ X)} {s s' : S} (h : f s = some (.inl s')) : loopO f s = loopO f s' := by
  cases hl : loopO f s' with
  | some x => exact loopO_go h hl
  | none =>
    cases hl2 : loopO f s with
    | none => rfl
    | some x =>
      obtain ⟨n, hn⟩ := loopO_iff hl2
      cases n with
      | zero => simp [iterO] at hn
      | succ n =>
        unfold iterO at hn; rw [h] at hn
        rw [loopO_of hn] at hl; cases hl
/-- no list is longer -/
def BIG : Nat := 4611686018427387904
theorem dlt {i n : Nat} (h : i < n) : decide ((i : Int) < (n : Int)) = true := by simpa using h
theorem dge (n : Nat) : decide ((n : Int) < (n : Int)) = false := by simp
theorem wsucc {i n : Nat} (h : i < n) (hb : n < BIG) : IntKind.wrap .i64 ((i : Int) + 1) = ((i + 1 : Nat) : Int) := by
  rw [wrap_id (by omega) (by unfold BIG at hb; omega)]; rfl
theorem wpred {i n : Nat} (h : i < n) (hb : n < BIG) : IntKind.wrap .i64 ((i + 1 : Nat) - 1 : Int) = (i : Int) := by
  rw [wrap_id (by omega) (by unfold BIG at hb; omega)]; omega
theorem cutOk_nat {α : Type} (l : List α) (i : Nat) (h : i ≤ l.length) : cutOk 0 (i : Int) l = true := by
  simp [cutOk]; omega
theorem cut_nat {α : Type} (l : List α) (i : Nat) : cut 0 (i : Int) l = l.take i := by
  simp [cut]
/-- the first answer on the way along a list -/
def first {α β : Type} (g : Nat → α → Option β) : Nat → List α → Option β
  | _, [] => none
  | i, a :: l => match g i a with | some r => some r | none => first g (i + 1) l
theorem loop_first {α β : Type} (l : List α) (g : Nat → α → Option β) (f : Int → Option (Int ⊕ (Unit ⊕ β)))
    (hs : ∀ (i : Nat) (h : i < l.length), f (i : Int) = some (match g i l[i] with | none => .inl ((i + 1 : Nat) : Int) | some r => .inr (.inr r))) (he : f (l.length : Int) = some (.inr (.inl ()))) :
    loopO f 0 = some (match first g 0 l with | none => .inl () | some r => .inr r) := by
  have key : ∀ (k i : Nat), i + k = l.length → loopO f (i : Int) = some (match first g i (l.drop i) with | none => .inl () | some r => .inr r) := by
    intro k
    induction k with
    | zero =>
      intro i hi
      obtain rfl : i = l.length := by omega
      rw [loopO_out he, List.drop_length]; rfl
    | succ k ih =>
      intro i hi
      have h1 : i < l.length := by omega
      have hs := hs i h1
      rw [List.drop_eq_getElem_cons h1]
      simp only [first]
      cases hg : g i l[i] with
      | none => rw [hg] at hs; rw [loopO_next hs, ih (i + 1) (by omega)]
      | some r => rw [hg] at hs; rw [loopO_out hs]
  have := key l.length 0 (by omega)
  simpa using this
/-- the same where the way ahead may not be gone before what is behind is known: what is seen so far is given -/
theorem first_congr {α β : Type} {g g' : Nat → α → Option β} : ∀ (l : List α) (i : Nat), (∀ j a, i ≤ j → l[j - i]? = some a → g j a = g' j a) → first g i l = first g' i l
  | [], _, _ => rfl
  | a :: l, i, h => by
    simp only [first]
    rw [h i a (Nat.le_refl _) (by simp)]
    cases g' i a with
    | some r => rfl
    | none => exact first_congr l (i + 1) (fun j b hj hb => h j b (by omega) (by rw [show j - i = (j - (i + 1)) + 1 by omega]; simpa using hb))
/-- what is none up to a place is so of each place ahead -/
theorem first_none {α β : Type} {g : Nat → α → Option β} : ∀ (l : List α) (i : Nat), first g i l = none ↔ ∀ j a, l[j]? = some a → g (i + j) a = none
  | [], i => by simp [first]
  | a :: l, i => by
    simp only [first]
    constructor
    · intro h j b hb
      cases hg : g i a with
      | some r => rw [hg] at h; cases h
      | none =>
        rw [hg] at h
        cases j with
        | zero => simp only [List.getElem?_cons_zero, Option.some.injEq] at hb; subst hb; exact hg
        | succ j => rw [show i + (j + 1) = i + 1 + j by omega]; exact (first_none l (i + 1)).1 h j b (by simpa using hb)
    · intro h
      rw [show g i a = none from h 0 a (by simp)]
      exact (first_none l (i + 1)).2 (fun j b hb => by rw [show i + 1 + j = i + (j + 1) by omega]; exact h (j + 1) b (by simpa using hb))
/-- the same, where a step is known to be alike so long as nothing has come up -/
theorem first_congr_pre {α β : Type} {g g' : Nat → α → Option β} (l : List α) (h : ∀ j a, l[j]? = some a → (∀ k b, k < j → l[k]? = some b → g k b = none) → g j a = g' j a) : first g 0 l = first g' 0 l := by
  have key : ∀ (n : Nat), n ≤ l.length → (∀ k b, k < l.length - n → l[k]? = some b → g k b = none) → first g (l.length - n) (l.drop (l.length - n)) = first g' (l.length - n) (l.drop (l.length - n)) := by
    intro n
    induction n with
    | zero => intro _ _; simp [first]
    | succ n ih =>
      intro hn hp
      have h1 : l.length - (n + 1) < l.length := by omega
      rw [List.drop_eq_getElem_cons h1]
      simp only [first]
      rw [← h _ _ (List.getElem?_eq_getElem h1) hp]
      cases hg : g (l.length - (n + 1)) l[l.length - (n + 1)] with
      | some r => rfl
      | none =>
        simp only
        rw [show l.length - (n + 1) + 1 = l.length - n by omega]
        refine ih (by omega) (fun k b hk hb => ?_)
        by_cases hkk : k < l.length - (n + 1)
        · exact hp k b hkk hb
        · have : k = l.length - (n + 1) := by omega
          subst this
          rw [List.getElem?_eq_getElem h1] at hb
          simp only [Option.some.injEq] at hb; subst hb; exact hg
  have := key l.length (Nat.le_refl _) (fun k b hk => by omega)
  simpa using this
theorem first_any {α β : Type} (p : α → Bool) (r : β) : ∀ (l : List α) (i : Nat), first (fun _ a => if p a then some r else none) i l = if l.any p then some r else none
  | [], _ => rfl
  | a :: l, i => by
    simp only [first, List.any_cons]
    by_cases hp : p a = true
    · simp [hp]
    · simp [hp, first_any p r l (i + 1)]
/-- the place of the first that has it, or -1 -/
def idxF {α : Type} (p : α → Bool) (l : List α) : Int := match first (fun i a => if p a then some (i : Int) else none) 0 l with | some i => i | none => -1
theorem first_idx {α : Type} (p : α → Bool) : ∀ (l : List α) (i : Nat), first (fun i a => if p a then some (i : Int) else none) i l = (List.findIdx? p l).map (fun k => ((i + k : Nat) : Int))
  | [], _ => by simp [first]
  | a :: l, i => by
    simp only [first, List.findIdx?_cons]
    by_cases hp : p a = true
    · simp [hp]
    · simp [hp, first_idx p l (i + 1)]
      cases List.findIdx? p l with
      | none => rfl
      | some k => simp; omega
theorem idxF_eq {α : Type} (p : α → Bool) (l : List α) : idxF p l = match List.findIdx? p l with | some k => (k : Int) | none => -1 := by
  unfold idxF
  rw [first_idx]
  cases List.findIdx? p l with
  | none => rfl
  | some k => simp
theorem idxF_neg {α : Type} (p : α → Bool) (l : List α) : idxF p l < 0 ↔ l.any p = false := by
  rw [idxF_eq]
  cases h : List.findIdx? p l with
  | none =>
    rw [List.findIdx?_eq_none_iff] at h
    simp only [List.any_eq_false]
    constructor
    · intro _ x hx; rw [h x hx]; simp
    · intro _; decide
  | some k =>
    simp only
    constructor
    · intro h; omega
    · intro hf
      rw [List.findIdx?_eq_some_iff_getElem] at h
      obtain ⟨hk, hp, _⟩ := h
      rw [List.any_eq_false] at hf
      exact absurd hp (hf _ (List.getElem_mem hk))
theorem idxF_nonneg {α : Type} (p : α → Bool) (l : List α) : decide (0 ≤ idxF p l) = l.any p := by
  cases h : l.any p with
  | false => have := (idxF_neg p l).2 h; simp; omega
  | true =>
    have : ¬ idxF p l < 0 := fun hh => by rw [(idxF_neg p l).1 hh] at h; cases h
    simp; omega
theorem idxF_dneg {α : Type} (p : α → Bool) (l : List α) : decide (idxF p l < 0) = !l.any p := by
  rw [← idxF_nonneg]
  by_cases h : idxF p l < 0
  · have h2 : ¬ 0 ≤ idxF p l := by omega
    simp [h, h2]
  · have h2 : 0 ≤ idxF p l := by omega
    simp [h, h2]
/-- found -/
theorem idxF_found {α : Type} {p : α → Bool} {l : List α} (h : l.any p = true) : ∃ (k : Nat) (hk : k < l.length), idxF p l = (k : Int) ∧ p l[k] = true ∧ ∀ j (hj : j < k), p (l[j]'(by omega)) = false := by
  rw [idxF_eq]
  cases hf : List.findIdx? p l with
  | none =>
    rw [List.findIdx?_eq_none_iff] at hf
    rw [List.any_eq_true] at h
    obtain ⟨x, hx, hp⟩ := h
    rw [hf x hx] at hp; cases hp
  | some k =>
    rw [List.findIdx?_eq_some_iff_getElem] at hf
    obtain ⟨hk, hp, hj⟩ := hf
    exact ⟨k, hk, rfl, hp, fun j hjk => by simpa using hj j hjk⟩
/-- behind a walk along a list -/
theorem bind_first {β γ : Type} (o : Option β) (A : Unit → Option γ) (B : β → Option γ) :
    ((some (match o with | none => Sum.inl () | some r => Sum.inr r) : Option (Unit ⊕ β)).bind fun j => Sum.elim A B j) = match o with | none => A () | some r => B r := by
  cases o <;> rfl
theorem loop_idx {α : Type} (l : List α) (p : α → Bool) (f : Int → Option (Int ⊕ (Unit ⊕ Int)))
    (hs : ∀ (i : Nat) (h : i < l.length), f (i : Int) = some (if p l[i] then .inr (.inr (i : Int)) else .inl ((i + 1 : Nat) : Int))) (he : f (l.length : Int) = some (.inr (.inl ()))) :
    ((loopO f 0).bind fun j => Sum.elim (fun _ => some (-1)) (fun j => some j) j) = some (idxF p l) := by
  rw [loop_first l (fun i a => if p a then some (i : Int) else none) f (fun i h => by rw [hs i h]; cases p l[i] <;> rfl) he, bind_first]
  unfold idxF
  cases first (fun i a => if p a then some (i : Int) else none) 0 l <;> rfl
theorem loop_any {α : Type} (l : List α) (p : α → Bool) (f : Int → Option (Int ⊕ (Unit ⊕ Bool)))
    (hs : ∀ (i : Nat) (h : i < l.length), f (i : Int) = some (if p l[i] then .inr (.inr true) else .inl ((i + 1 : Nat) : Int))) (he : f (l.length : Int) = some (.inr (.inl ()))) :
    ((loopO f 0).bind fun j => Sum.elim (fun _ => some false) (fun j => some j) j) = some (l.any p) := by
  rw [loop_first l (fun i a => if p a then some true else none) f (fun i h => by rw [hs i h]; cases p l[i] <;> rfl) he, bind_first, first_any]
  cases l.any p <;> rfl
/-- a walk that carries something along -/
def along {α σ : Type} (g : σ → α → σ) : List α → σ → σ
  | [], t => t
  | a :: l, t => along g l (g t a)
theorem loop_fold {α σ S X : Type} (l : List α) (g : σ → α → σ) (enc : σ → Int → S) (D : σ → X) (Ok : σ → Nat → Prop) (f : S → Option (S ⊕ X))
    (hs : ∀ (i : Nat) (h : i < l.length) (t : σ), Ok t i → f (enc t (i : Int)) = some (.inl (enc (g t l[i]) ((i + 1 : Nat) : Int))) ∧ Ok (g t l[i]) (i + 1))
    (he : ∀ t, Ok t l.length → f (enc t (l.length : Int)) = some (.inr (D t))) (t : σ) (h0 : Ok t 0) : loopO f (enc t 0) = some (D (l.foldl g t)) := by
  have key : ∀ (k i : Nat) (t : σ), i + k = l.length → Ok t i → loopO f (enc t (i : Int)) = some (D ((l.drop i).foldl g t)) := by
    intro k
    induction k with
    | zero =>
      intro i t hi ht
      obtain rfl : i = l.length := by omega
      rw [loopO_out (he t ht), List.drop_length]; rfl
    | succ k ih =>
      intro i t hi ht
      have h1 : i < l.length := by omega
      obtain ⟨hs1, hs2⟩ := hs i h1 t ht
      rw [loopO_next hs1, List.drop_eq_getElem_cons h1, List.foldl_cons]
      exact ih (i + 1) _ (by omega) hs2
  have := key l.length 0 t (by omega) h0
  simpa using this
theorem foldl_filter {α : Type} (p : α → Bool) : ∀ (l acc : List α), l.foldl (fun acc a => if p a then acc ++ [a] else acc) acc = acc ++ l.filter p
  | [], acc => by simp
  | a :: l, acc => by
    rw [List.foldl_cons, foldl_filter p l]
    cases hp : p a <;> simp [hp]
theorem foldl_map {α β : Type} (q : α → β) : ∀ (l : List α) (acc : List β), l.foldl (fun acc a => acc ++ [q a]) acc = acc ++ l.map q
  | [], acc => by simp
  | a :: l, acc => by rw [List.foldl_cons, foldl_map q l]; simp
theorem foldl_filterMap {α β : Type} (p : α → Bool) (q : α → β) : ∀ (l : List α) (acc : List β), l.foldl (fun acc a => if p a then acc ++ [q a] else acc) acc = acc ++ (l.filter p).map q
  | [], acc => by simp
  | a :: l, acc => by
    rw [List.foldl_cons, foldl_filterMap p q l]
    cases hp : p a <;> simp [hp]
theorem foldl_count {α : Type} (p : α → Bool) : ∀ (l : List α) (n : Int), l.foldl (fun n a => if p a then n + 1 else n) n = n + (l.countP p : Int)
  | [], n => by simp
  | a :: l, n => by
    rw [List.foldl_cons, foldl_count p l]
    cases hp : p a
    · simp [hp]
    · simp only [if_true, List.countP_cons, hp]
      simp; omega
theorem append_one_lim {α : Type} (acc : List α) (a : α) (n : Nat) (h : acc.length ≤ n) (hn : n < LIM) : decide (List.length acc + List.length [a] ≤ LIM) = true := by
  simp; omega
/-- the first code that is not 0, on the way along a list -/
def code {α : Type} (c : Nat → α → Int) (l : List α) : Int := match first (fun i a => if c i a = 0 then none else some (c i a)) 0 l with | none => 0 | some r => r
theorem loop_code {α : Type} (l : List α) (c : Nat → α → Int) (f : Int → Option (Int ⊕ (Unit ⊕ Int)))
    (hs : ∀ (i : Nat) (h : i < l.length), f (i : Int) = some (if c i l[i] = 0 then .inl ((i + 1 : Nat) : Int) else .inr (.inr (c i l[i])))) (he : f (l.length : Int) = some (.inr (.inl ()))) :
    ((loopO f 0).bind fun j => Sum.elim (fun _ => some 0) (fun j => some j) j) = some (code c l) := by
  rw [loop_first l (fun i a => if c i a = 0 then none else some (c i a)) f (fun i h => by rw [hs i h]; by_cases hc : c i l[i] = 0 <;> simp [hc]) he, bind_first]
  unfold code
  cases first (fun i a => if c i a = 0 then none else some (c i a)) 0 l <;> rfl
theorem bif_code {β : Type} (y : Int) (a b : β) : (bif !decide (y = 0) then a else b) = if y = 0 then b else a := by
  by_cases h : y = 0 <;> simp [h]
theorem code_zero {α : Type} {c : Nat → α → Int} {l : List α} (h : code c l = 0) : ∀ i a, l[i]? = some a → c i a = 0 := by
  unfold code at h
  cases hf : first (fun i a => if c i a = 0 then none else some (c i a)) 0 l with
  | none =>
    intro i a ha
    have := (first_none l 0).1 hf i a ha
    simp only [Nat.zero_add] at this
    by_cases hc : c i a = 0
    · exact hc
    · rw [if_neg hc] at this; cases this
  | some r =>
    rw [hf] at h
    simp only at h; subst h
    exfalso
    have key : ∀ (l : List α) (i : Nat), first (fun i a => if c i a = 0 then none else some (c i a)) i l ≠ some 0 := by
      intro l
      induction l with
      | nil => intro i h; cases h
      | cons a l ih =>
        intro i h
        simp only [first] at h
        by_cases hc : c i a = 0
        · rw [if_pos hc] at h; exact ih (i + 1) h
        · rw [if_neg hc] at h; simp only [Option.some.injEq] at h; exact hc h
    exact key l 0 hf
theorem code_congr {α : Type} {c c' : Nat → α → Int} (l : List α) (h : ∀ j a, l[j]? = some a → c j a = c' j a) : code c l = code c' l := by
  unfold code
  rw [first_congr l 0 (fun j a _ ha => by rw [h j a (by simpa using ha)])]
theorem idxF_inB {α : Type} {p : α → Bool} {l : List α} (h : 0 ≤ idxF p l) : inB (idxF p l) l = true := by
  have hany : l.any p = true := by rw [← idxF_nonneg]; simpa using h
  obtain ⟨k, hk, he, _⟩ := idxF_found hany
  rw [he]; exact inB_nat l k hk
theorem idxF_ge {α : Type} (p : α → Bool) (l : List α) : idxF p l < 0 ↔ idxF p l = -1 := by
  rw [idxF_eq]
  cases List.findIdx? p l with
  | none => simp
  | some k => simp only; omega
theorem beqP2 (a b : Int × Int) : Sh.beq (.prod (.int .i64) (.int .i64)) a b = decide (a = b) := by
  obtain ⟨a1, a2⟩ := a; obtain ⟨b1, b2⟩ := b
  simp only [Sh.beq]
  by_cases h1 : a1 = b1 <;> by_cases h2 : a2 = b2 <;> simp [h1, h2]
theorem beqBool (a b : Bool) : Sh.beq .bool a b = decide (a = b) := rfl
end Go.Dx

namespace Go.Dx
/-! plain laws: rising marks put into lists, and looked for -/
def mkL {α : Type} (cnt : α → Nat) (mk : Int → α → α) : Int → List α → List α
  | _, [] => []
  | k, a :: l => mk k a :: mkL cnt mk (k + cnt a) l
def cntL {α : Type} (cnt : α → Nat) (l : List α) : Nat := (l.map cnt).sum
theorem cntL_cons {α : Type} (cnt : α → Nat) (a : α) (l : List α) : cntL cnt (a :: l) = cnt a + cntL cnt l := by simp [cntL]
theorem mkL_len {α : Type} (cnt : α → Nat) (mk : Int → α → α) : ∀ (k : Int) (l : List α), (mkL cnt mk k l).length = l.length
  | _, [] => rfl
  | k, a :: l => by simp [mkL, mkL_len cnt mk _ l]
theorem inB_set {α : Type} (i : Int) (l : List α) (j : Nat) (a : α) : inB i (List.set l j a) = inB i l := by simp [inB]
theorem getD_set_same {α : Type} (l : List α) (i : Nat) (a d : α) (h : i < l.length) : List.getD (List.set l i a) i d = a := by
  simp [List.getD_eq_getElem?_getD, h]
theorem getD_at {α : Type} (l : List α) (i : Nat) (d : α) (h : i < l.length) : List.getD l i d = l[i] := by simp [List.getD_eq_getElem?_getD, List.getElem?_eq_getElem h]
theorem mark_loop {α : Type} (cnt : α → Nat) (mk : Int → α → α) (l : List α) (k : Int) (h0 : 0 ≤ k) (hb : k + (cntL cnt l : Int) < (BIG : Int)) (f : List α × Int × Int → Option ((List α × Int × Int) ⊕ (List α × Int)))
    (hs : ∀ (acc : List α) (i : Nat) (k : Int) (h : i < acc.length), acc.length = l.length → acc[i] ∈ l → 0 ≤ k → k + (cnt acc[i] : Int) < (BIG : Int) → f (acc, k, (i : Int)) = some (.inl (acc.set i (mk k acc[i]), k + (cnt acc[i] : Int), ((i + 1 : Nat) : Int))))
    (he : ∀ (acc : List α) (k : Int), acc.length = l.length → f (acc, k, (l.length : Int)) = some (.inr (acc, k))) :
    loopO f (l, k, 0) = some (mkL cnt mk k l, k + (cntL cnt l : Int)) := by
  have key : ∀ (rest pre : List α) (k : Int), pre.length + rest.length = l.length → (∀ a, a ∈ rest → a ∈ l) → 0 ≤ k → k + (cntL cnt rest : Int) < (BIG : Int) → loopO f (pre ++ rest, k, (pre.length : Int)) = some (pre ++ mkL cnt mk k rest, k + (cntL cnt rest : Int)) := by
    intro rest
    induction rest with
    | nil =>
      intro pre k hl _ _ _
      simp only [List.length_nil, Nat.add_zero] at hl
      rw [hl, loopO_out (he (pre ++ []) k (by simpa using hl))]
      simp [mkL, cntL]
    | cons a r ih =>
      intro pre k hl hm h0 hb
      rw [cntL_cons] at hb
      have hi : pre.length < (pre ++ a :: r).length := by simp
      have ha : (pre ++ a :: r)[pre.length]'hi = a := by simp
      have hs := hs (pre ++ a :: r) pre.length k hi (by simpa using hl) (by rw [ha]; exact hm a (by simp)) h0 (by rw [ha]; omega)
      rw [ha] at hs
      have hset : (pre ++ a :: r).set pre.length (mk k a) = (pre ++ [mk k a]) ++ r := by simp
      rw [hset] at hs
      rw [loopO_next hs]
      have := ih (pre ++ [mk k a]) (k + (cnt a : Int)) (by simp at hl ⊢; omega) (fun b hb => hm b (by simp [hb])) (by omega) (by omega)
      simp only [List.length_append, List.length_cons, List.length_nil] at this
      rw [this, cntL_cons]
      simp [mkL]
      omega
  have := key l [] k (by simp) (fun _ h => h) h0 hb
  simpa using this
theorem held_loop {α : Type} (cnt : α → Nat) (mk : Int → α → α) (l : List α) (k0 : Int) (h0 : 0 ≤ k0) (hb : k0 + (cntL cnt l : Int) < (BIG : Int)) (f : Int × Int → Option ((Int × Int) ⊕ (Int ⊕ Int)))
    (hs : ∀ (i : Nat) (k : Int) (h : i < l.length) (h' : i < (mkL cnt mk k0 l).length), 0 ≤ k → k + (cnt l[i] : Int) < (BIG : Int) → (mkL cnt mk k0 l)[i] = mk k l[i] → f (k, (i : Int)) = some (.inl (k + (cnt l[i] : Int), ((i + 1 : Nat) : Int))))
    (he : ∀ (k : Int), f (k, (l.length : Int)) = some (.inr (.inl k))) :
    ((loopO f (k0, 0)).bind fun j => Sum.elim (fun a => some a) (fun b => some b) j) = some (k0 + (cntL cnt l : Int)) := by
  have key : ∀ (n i : Nat) (k : Int), i + n = l.length → 0 ≤ k → k + (cntL cnt (l.drop i) : Int) < (BIG : Int) → (mkL cnt mk k0 l).drop i = mkL cnt mk k (l.drop i) → loopO f (k, (i : Int)) = some (.inl (k + (cntL cnt (l.drop i) : Int))) := by
    intro n
    induction n with
    | zero =>
      intro i k hi _ _ _
      obtain rfl : i = l.length := by omega
      rw [loopO_out (he k), List.drop_length]
      simp [cntL]
    | succ n ih =>
      intro i k hi h0 hb hd
      have h : i < l.length := by omega
      have h' : i < (mkL cnt mk k0 l).length := by rw [mkL_len]; exact h
      rw [List.drop_eq_getElem_cons h, cntL_cons] at hb
      rw [List.drop_eq_getElem_cons h, List.drop_eq_getElem_cons h', mkL] at hd
      have hd1 := (List.cons.inj hd).1
      have hd2 := (List.cons.inj hd).2
      rw [loopO_next (hs i k h h' h0 (by omega) hd1), ih (i + 1) _ (by omega) (by omega) (by omega) hd2, List.drop_eq_getElem_cons h, cntL_cons]
      congr 2
      simp; omega
  have := key l.length 0 k0 (by omega) h0 (by simpa using hb) (by simp)
  rw [show ((0 : Nat) : Int) = 0 from rfl] at this
  rw [this]
  simp
theorem cntL_le {α : Type} (cnt : α → Nat) : ∀ (l : List α) (a : α), a ∈ l → cnt a ≤ cntL cnt l
  | x :: l, a, h => by
    rw [cntL_cons]
    rcases List.mem_cons.1 h with h | h
    · subst h; omega
    · have := cntL_le cnt l a h; omega
theorem cntL_const {α : Type} (n : Nat) : ∀ (l : List α), cntL (fun _ => n) l = n * l.length
  | [] => by simp [cntL]
  | a :: l => by rw [cntL_cons, cntL_const n l, List.length_cons, Nat.mul_add]; omega
end Go.Dx

set_option maxRecDepth 100000
namespace Go.Dx
open Go.Proofs Go.Sort
variable {P : Program}
/-- what turning a row of numbers comes to: the contract, out of the two walks -/
theorem reverse_contract {j : FuncId} (hE : Enters P j)
    (h1 : ∀ (blk off cap : Nat) (d : Array Int) (w : World), Holds (Value.int .i64) w blk off d → d.size ≤ 9223372036854775807 →
      Calls P j #[.slice (some ⟨blk, off, none⟩) d.size cap] w fun e w' => e = .returned (.tuple #[]) ∧ ∃ n, w' = putRow (Value.int .i64) (Sort.ahead w n) blk off d.reverse)
    (h2 : ∀ (a : Option Addr) (cap : Nat) (w : World), Calls P j #[.slice a 0 cap] w fun e w' => e = .returned (.tuple #[]) ∧ w' = w) :
    Contract P j { ins := [.mu (.list (.int .i64)) (.o .z) (.o .z)], outs := [], F := fun t => bif Nat.ble (List.length t.1) 9223372036854775807 then some (List.reverse t.1) else none } := by
  refine ⟨hE, fun w ow vs xs ys hlt hp hF => ?_⟩
  match vs, hp with
  | [], hp => exact hp.elim
  | _ :: _ :: _, hp => cases hp.2
  | [v], hp =>
    obtain ⟨⟨hform, A, n, cap, e1, e2, e3, e4⟩, _⟩ := hp
    obtain ⟨x, _⟩ := xs
    have e2 : List.length (α := Int) x = n := e2
    have hv1 : v.cells = #[v] := hform
    simp only [cellsV, hv1] at e1
    simp only [List.getElem?_toArray, List.getElem?_cons_zero, Option.some.injEq] at e1
    subst e1
    have hF : (bif Nat.ble (List.length (α := Int) x) 9223372036854775807 then some (List.reverse x) else none) = some ys := hF
    cases hb : Nat.ble (List.length (α := Int) x) 9223372036854775807 with
    | false => rw [hb] at hF; cases hF
    | true =>
    rw [hb, cond_true] at hF
    have hlen := Nat.le_of_ble_eq_true hb
    simp only [Option.some.injEq] at hF
    have hF : (List.reverse x : List Int) = ys := hF
    subst hF
    let ow' : Nat → Tag := fun j => if ow j = .fl 0 then .b 0 else ow j
    have kz : ∀ j, ow j ≠ .fl 0 → ow' j = ow j := fun j hj => by simp [ow', hj]
    have k0 : ∀ j, ow j = .fl 0 → ow' j = .b 0 := fun j hj => by simp [ow', hj]
    have hlt' : ∀ j, ow' j ≠ .none → j < w.heap.size := fun j hj => hlt j fun h0 => hj (by rw [kz j (by rw [h0]; simp)]; exact h0)
    rcases e4 with ⟨rfl, rfl, rfl⟩ | ⟨b, off, arr, ty, rfl, hS, hblk, hsz, t1, hr⟩
    · have hx : x = ([] : List Int) := List.eq_nil_of_length_eq_zero e2
      subst hx
      refine (h2 none 0 w).mono fun e w' h => ?_
      obtain ⟨rfl, rfl⟩ := h
      refine ⟨.tuple #[], ow', rfl, ⟨Streams.refl _, fun j hj h => ⟨rfl, kz j (by rcases h with h | h <;> rw [h] <;> simp)⟩, hlt', ⟨rfl, #[], rfl, rfl, fun k o y u hk => by simp at hk⟩, ?_⟩⟩
      exact ⟨⟨rfl, hform, none, 0, 0, rfl, rfl, Nat.le_refl _, .inl ⟨rfl, rfl, rfl⟩⟩, rfl, rfl⟩
    · have hSb : ow b = .fl 0 := hS
      have hH : Holds (Value.int .i64) w b off (List.toArray x) := by
        intro k hk
        have hk' : k < List.length (α := Int) x := by simpa using hk
        have hr := hr k hk'
        have hr : cellsAt w b (off + k * 1) 0 = some (.int .i64 (x[k]'hk')) := hr (by simp)
        constructor
        · rw [getElem!_pos _ k hk]
          simpa [cellsAt] using hr
        · simp [World.frozen?, hblk]
      have hw1 := h1 b off cap (List.toArray x) w hH (by simpa using hlen)
      rw [show (List.toArray x : Array Int).size = n by simpa using e2] at hw1
      refine hw1.mono fun e w' h => ?_
      obtain ⟨rfl, m, rfl⟩ := h
      have hw' : Holds (Value.int .i64) (putRow (Value.int .i64) (Sort.ahead w m) b off (List.toArray x : Array Int).reverse) b off (List.toArray x : Array Int).reverse :=
        holds_putRow _ _ _ _ (List.toArray x) _ (holds_ahead _ _ _ _ _ _ hH) (by simp)
      have hheap : (putRow (Value.int .i64) (Sort.ahead w m) b off (List.toArray x : Array Int).reverse).heap = w.heap.modify b (onCells (putCells (Value.int .i64) off (List.toArray x : Array Int).reverse)) := rfl
      have hother : ∀ j, j ≠ b → (putRow (Value.int .i64) (Sort.ahead w m) b off (List.toArray x : Array Int).reverse).heap[j]? = w.heap[j]? := fun j hj => by
        rw [hheap, Array.getElem?_modify, if_neg (Ne.symm hj)]
      have hblk' : (putRow (Value.int .i64) (Sort.ahead w m) b off (List.toArray x : Array Int).reverse).heap[b]? = some (.cells (putCells (Value.int .i64) off (List.toArray x : Array Int).reverse arr) ty (0, 0)) := by
        rw [hheap, Array.getElem?_modify, if_pos rfl, hblk]; rfl
      have hst : Streams w (putRow (Value.int .i64) (Sort.ahead w m) b off (List.toArray x : Array Int).reverse) := ⟨rfl, rfl, rfl, by simp⟩
      have hsz2 : (putRow (Value.int .i64) (Sort.ahead w m) b off (List.toArray x : Array Int).reverse).heap.size = w.heap.size := by simp
      have hcs : (putCells (Value.int .i64) off (List.toArray x : Array Int).reverse arr).size = arr.size := by simp [putCells]
      generalize putRow (Value.int .i64) (Sort.ahead w m) b off (List.toArray x : Array Int).reverse = w2 at *
      generalize putCells (Value.int .i64) off (List.toArray x : Array Int).reverse arr = arr2 at *
      refine ⟨.tuple #[], ow', rfl, ⟨hst, fun j hj h => ⟨hother j (fun hjb => ?_), kz j (by rcases h with h | h <;> rw [h] <;> simp)⟩, fun j hj => by rw [hsz2]; exact hlt' j hj, ⟨rfl, #[], rfl, rfl, fun k o y u hk => by simp at hk⟩, ?_⟩⟩
      · subst hjb; rw [hSb] at h; rcases h with h | h <;> cases h
      · refine ⟨⟨rfl, hform, some ⟨b, off, none⟩, n, cap, rfl, by show (List.reverse x).length = n; simpa using e2, e3, .inr ⟨b, off, arr2, ty, rfl, k0 b hSb, hblk', by rw [hcs]; exact hsz, t1, fun k hk => ?_⟩⟩, rfl, rfl⟩
        intro _
        have hk' : k < (List.toArray x : Array Int).reverse.size := by simpa using hk
        have := (hw' k hk').1
        rw [getElem!_pos _ k hk'] at this
        simp only [cellsAt, Sh.size, Nat.mul_one, Nat.add_zero]
        rw [this]
        simp
end Go.Dx
