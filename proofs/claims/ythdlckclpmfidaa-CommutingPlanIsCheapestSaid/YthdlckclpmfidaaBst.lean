/- Plans, the states that they reach, and least costs: no program in sight. -/
import Derived.Test.YthdlckclpmfidaaComr
namespace Go.Proofs.Ythdlckclpmfidaa
open Go.Ab
open Go
set_option linter.unusedSimpArgs false
set_option linter.unusedVariables false
/-! sets as lists -/
theorem sorted_ext : ∀ {a b : List Int}, a.Pairwise (· < ·) → b.Pairwise (· < ·) → (∀ p, p ∈ a ↔ p ∈ b) → a = b
  | [], [], _, _, _ => rfl
  | [], y :: b, _, _, h => by have := (h y).2 (by simp); simp at this
  | x :: a, [], _, _, h => by have := (h x).1 (by simp); simp at this
  | x :: a, y :: b, ha, hb, h => by
    have hxa := List.pairwise_cons.1 ha
    have hyb := List.pairwise_cons.1 hb
    have hxy : x = y := by
      have h1 : x ∈ y :: b := (h x).1 (by simp)
      have h2 : y ∈ x :: a := (h y).2 (by simp)
      rw [List.mem_cons] at h1 h2
      rcases h1 with h1 | h1
      · exact h1
      · rcases h2 with h2 | h2
        · exact h2.symm
        · have := hyb.1 _ h1; have := hxa.1 _ h2; omega
    subst hxy
    rw [sorted_ext hxa.2 hyb.2 fun p => ?_]
    have hp := h p
    rw [List.mem_cons, List.mem_cons] at hp
    constructor
    · intro h1
      rcases hp.1 (.inr h1) with h2 | h2
      · have := hxa.1 _ h1; omega
      · exact h2
    · intro h1
      rcases hp.2 (.inr h1) with h2 | h2
      · have := hyb.1 _ h1; omega
      · exact h2
theorem set_ext {a b : List Int} {n : Int} (ha : isSet a n = true) (hb : isSet b n = true) (h : ∀ p, p ∈ a ↔ p ∈ b) : a = b := sorted_ext (isSet_iff.1 ha).2 (isSet_iff.1 hb).2 h
def upTo (n : Nat) : List Int := (List.range n).map fun (k : Nat) => (k : Int)
theorem upTo_mem {n : Nat} {p : Int} : p ∈ upTo n ↔ 0 ≤ p ∧ p < n := by
  simp only [upTo, List.mem_map, List.mem_range]
  constructor
  · rintro ⟨k, hk, rfl⟩; omega
  · rintro ⟨h1, h2⟩; exact ⟨p.toNat, by omega, by omega⟩
theorem upTo_succ (n : Nat) : upTo (n + 1) = upTo n ++ [(n : Int)] := by simp [upTo, List.range_succ]
theorem upTo_sorted : ∀ n : Nat, (upTo n).Pairwise (· < ·)
  | 0 => by simp [upTo]
  | n+1 => by
    rw [upTo_succ, List.pairwise_append]
    refine ⟨upTo_sorted n, by simp, fun a ha b hb => ?_⟩
    have := (upTo_mem.1 ha).2
    simp only [List.mem_singleton] at hb
    omega
theorem filter_set {n : Nat} (f : Int → Bool) : isSet ((upTo n).filter f) n = true := by
  rw [isSet_iff]
  refine ⟨fun x hx => ?_, (upTo_sorted n).filter _⟩
  have := upTo_mem.1 (List.mem_filter.1 hx).1
  omega
/-! the state after an operator -/
def aftB (o : Op) (s : List Int) (p : Int) : Bool := hasB o.add p || (hasB s p && !hasB o.del p)
def aftK (o : Op) (s : List Int) (k : Nat) : List Int := (upTo k).filter (aftB o s)
def aft (n : Int) (s : List Int) (o : Op) : List Int := aftK o s n.toNat
theorem aftK_zero (o : Op) (s : List Int) : aftK o s 0 = [] := by simp [aftK, upTo]
theorem aftK_yes {o : Op} {s : List Int} {k : Nat} (h : aftB o s k = true) : aftK o s (k + 1) = aftK o s k ++ [(k : Int)] := by
  rw [aftK, upTo_succ, List.filter_append, List.filter_cons_of_pos h]; rfl
theorem aftK_no {o : Op} {s : List Int} {k : Nat} (h : aftB o s k = false) : aftK o s (k + 1) = aftK o s k := by
  rw [aftK, upTo_succ, List.filter_append, List.filter_cons_of_neg (by simp [h])]; simp [aftK]
theorem aft_mem {n : Int} {s : List Int} {o : Op} {p : Int} : p ∈ aft n s o ↔ (0 ≤ p ∧ p < n) ∧ (p ∈ o.add ∨ p ∈ s ∧ ¬ p ∈ o.del) := by
  unfold aft aftK
  rw [List.mem_filter, upTo_mem]
  simp only [aftB, Bool.or_eq_true, Bool.and_eq_true, Bool.not_eq_true', hasB_t, hasB_f]
  constructor
  · rintro ⟨h1, h2⟩; exact ⟨by omega, h2⟩
  · rintro ⟨h1, h2⟩; exact ⟨by omega, h2⟩
theorem aft_set {n : Int} (hn : 0 ≤ n) (s : List Int) (o : Op) : isSet (aft n s o) n = true := by
  have := filter_set (n := n.toNat) (aftB o s)
  rw [Int.toNat_of_nonneg hn] at this
  exact this
/-! a set as a number -/
def wsum : List Int → Nat
  | [] => 0
  | x :: r => 2 ^ x.toNat + wsum r
theorem wsum_dvd {m : Nat} : ∀ {l : List Int}, (∀ x ∈ l, (m : Int) ≤ x) → 2 ^ m ∣ wsum l
  | [], _ => ⟨0, rfl⟩
  | x :: r, h => by
    refine Nat.dvd_add (Nat.pow_dvd_pow 2 ?_) (wsum_dvd fun y hy => h y (by simp [hy]))
    have := h x (by simp)
    omega
theorem wsum_pos {x : Int} {r : List Int} : 0 < wsum (x :: r) := by
  have : 0 < 2 ^ x.toNat := Nat.pow_pos (by omega)
  rw [wsum]; omega
theorem wsum_ne {x : Int} {a b : List Int} (hx : 0 ≤ x) (ha : ∀ y ∈ a, x < y) (hb : ∀ y ∈ b, x < y) : wsum (x :: a) ≠ wsum b := by
  intro h
  obtain ⟨q, hq⟩ := wsum_dvd (m := x.toNat + 1) (l := a) fun y hy => by have := ha y hy; omega
  obtain ⟨q', hq'⟩ := wsum_dvd (m := x.toNat + 1) (l := b) fun y hy => by have := hb y hy; omega
  rw [wsum, hq, hq', Nat.pow_succ] at h
  have h2 : 2 ^ x.toNat * (1 + 2 * q) = 2 ^ x.toNat * (2 * q') := by
    rw [Nat.mul_add, Nat.mul_one, ← Nat.mul_assoc, ← Nat.mul_assoc]; exact h
  have := Nat.eq_of_mul_eq_mul_left (Nat.pow_pos (by omega)) h2
  omega
theorem wsum_inj : ∀ {a b : List Int}, a.Pairwise (· < ·) → b.Pairwise (· < ·) → (∀ x ∈ a, 0 ≤ x) → (∀ x ∈ b, 0 ≤ x) → wsum a = wsum b → a = b
  | [], [], _, _, _, _, _ => rfl
  | [], y :: b, _, _, _, _, h => by have := wsum_pos (x := y) (r := b); rw [← h] at this; simp [wsum] at this
  | x :: a, [], _, _, _, _, h => by have := wsum_pos (x := x) (r := a); rw [h] at this; simp [wsum] at this
  | x :: a, y :: b, ha, hb, pa, pb, h => by
    have hxa := List.pairwise_cons.1 ha
    have hyb := List.pairwise_cons.1 hb
    have hx := pa x (by simp)
    have hy := pb y (by simp)
    rcases Int.lt_trichotomy x y with hlt | rfl | hlt
    · refine absurd h (wsum_ne hx hxa.1 fun z hz => ?_)
      rw [List.mem_cons] at hz
      rcases hz with rfl | hz
      · exact hlt
      · have := hyb.1 z hz; omega
    · rw [wsum, wsum] at h
      rw [wsum_inj hxa.2 hyb.2 (fun z hz => pa z (by simp [hz])) (fun z hz => pb z (by simp [hz])) (by omega)]
    · refine absurd h.symm (wsum_ne hy hyb.1 fun z hz => ?_)
      rw [List.mem_cons] at hz
      rcases hz with rfl | hz
      · exact hlt
      · have := hxa.1 z hz; omega
theorem set_inj {a b : List Int} {n : Int} (ha : isSet a n = true) (hb : isSet b n = true) (h : wsum a = wsum b) : a = b := by
  have ha := isSet_iff.1 ha
  have hb := isSet_iff.1 hb
  exact wsum_inj ha.2 hb.2 (fun x hx => (ha.1 x hx).1) (fun x hx => (hb.1 x hx).1) h
theorem wsum_app : ∀ (a b : List Int), wsum (a ++ b) = wsum a + wsum b
  | [], b => by simp [wsum]
  | x :: a, b => by rw [List.cons_append, wsum, wsum, wsum_app a b]; omega
theorem wsum_lt {n : Nat} : ∀ {l : List Int}, l.Pairwise (· < ·) → (∀ x ∈ l, 0 ≤ x ∧ x < n) → wsum l < 2 ^ n := by
  induction n with
  | zero =>
    intro l _ h
    cases l with
    | nil => simp [wsum]
    | cons x r => have := h x (by simp); omega
  | succ n ih =>
    intro l hs h
    rcases List.eq_nil_or_concat l with rfl | ⟨r, x, rfl⟩
    · simp only [wsum]; exact Nat.pow_pos (by omega)
    · rw [List.concat_eq_append] at *
      rw [List.pairwise_append] at hs
      have hx := h x (by simp)
      have h1 : wsum r < 2 ^ n := ih hs.1 fun y hy => by
        have h1 := hs.2.2 y hy x (by simp)
        have := h y (by simp [hy])
        omega
      have h2 : 2 ^ x.toNat ≤ 2 ^ n := Nat.pow_le_pow_right (by omega) (by omega)
      rw [wsum_app, wsum, wsum, Nat.pow_succ]
      omega
/-! plans -/
def endsT (t : Task) : List Int → List Nat → Option (List Int)
  | s, [] => some s
  | s, i :: r => match t.ops[i]? with
    | some o => if subB o.pre s then endsT t (aft t.facts s o) r else none
    | none => none
def costT (t : Task) : List Nat → Int
  | [] => 0
  | i :: r => (match t.ops[i]? with | some o => o.cost | none => 0) + costT t r
theorem ends_cons {t : Task} {s e : List Int} {i : Nat} {r : List Nat} : endsT t s (i :: r) = some e ↔ ∃ o, t.ops[i]? = some o ∧ subB o.pre s = true ∧ endsT t (aft t.facts s o) r = some e := by
  rw [endsT]
  cases h : t.ops[i]? with
  | none => simp
  | some o =>
    simp only [Option.some.injEq, exists_eq_left']
    split
    · rename_i h2; simp [h2]
    · rename_i h2; simp [h2]
theorem ends_app {t : Task} {e : List Int} {b : List Nat} : ∀ {a : List Nat} {s : List Int}, endsT t s (a ++ b) = some e ↔ ∃ m, endsT t s a = some m ∧ endsT t m b = some e
  | [], s => by simp [endsT]
  | i :: a, s => by
    rw [List.cons_append, ends_cons]
    constructor
    · rintro ⟨o, h1, h2, h3⟩
      obtain ⟨m, h4, h5⟩ := ends_app.1 h3
      exact ⟨m, ends_cons.2 ⟨o, h1, h2, h4⟩, h5⟩
    · rintro ⟨m, h4, h5⟩
      obtain ⟨o, h1, h2, h3⟩ := ends_cons.1 h4
      exact ⟨o, h1, h2, ends_app.2 ⟨m, h3, h5⟩⟩
theorem cost_app {t : Task} {b : List Nat} : ∀ {a : List Nat}, costT t (a ++ b) = costT t a + costT t b
  | [] => by simp [costT]
  | i :: a => by rw [List.cons_append, costT, costT, cost_app]; omega
def WorksT (t : Task) (s : List Int) (plan : List Nat) : Prop := ∃ e, endsT t s plan = some e ∧ subB t.goal e = true
theorem works_cons {t : Task} {s : List Int} {i : Nat} {r : List Nat} : WorksT t s (i :: r) ↔ ∃ o, t.ops[i]? = some o ∧ subB o.pre s = true ∧ WorksT t (aft t.facts s o) r := by
  constructor
  · rintro ⟨e, h, hg⟩
    obtain ⟨o, h1, h2, h3⟩ := ends_cons.1 h
    exact ⟨o, h1, h2, e, h3, hg⟩
  · rintro ⟨o, h1, h2, e, h3, hg⟩
    exact ⟨e, ends_cons.2 ⟨o, h1, h2, h3⟩, hg⟩
abbrev Inf : Int := 1000000000
/-- The least cost of all plans from s, or Inf. -/
structure LeastC (t : Task) (s : List Int) (z : Int) : Prop where
  z0 : 0 ≤ z
  z1 : z ≤ Inf
  le : ∀ plan, WorksT t s plan → z ≤ costT t plan
  has : z < Inf → ∃ plan, WorksT t s plan ∧ costT t plan = z
theorem LeastC.uniq {t : Task} {s : List Int} {x y : Int} (hx : LeastC t s x) (hy : LeastC t s y) : x = y := by
  have := hx.z1; have := hy.z1
  rcases Int.lt_trichotomy x y with h | h | h
  · obtain ⟨p, h1, h2⟩ := hx.has (by omega)
    have := hy.le p h1; omega
  · exact h
  · obtain ⟨p, h1, h2⟩ := hy.has (by omega)
    have := hx.le p h1; omega
def ReachT (t : Task) (s x : List Int) : Prop := ∃ plan, endsT t s plan = some x
theorem ReachT.step {t : Task} {s x : List Int} (h : ReachT t s x) {o : Op} (ho : o ∈ t.ops) (hp : subB o.pre x = true) : ReachT t s (aft t.facts x o) := by
  obtain ⟨plan, h⟩ := h
  obtain ⟨i, hi, rfl⟩ := List.getElem_of_mem ho
  exact ⟨plan ++ [i], ends_app.2 ⟨x, h, ends_cons.2 ⟨_, List.getElem?_eq_getElem hi, hp, rfl⟩⟩⟩
/-- All reachable states are within l. -/
structure ReachL (t : Task) (s : List Int) (l : List (List Int)) : Prop where
  head : l[0]? = some s
  set : ∀ x ∈ l, isSet x t.facts = true
  reach : ∀ x ∈ l, ReachT t s x
  closed : ∀ x ∈ l, ∀ o ∈ t.ops, subB o.pre x = true → aft t.facts x o ∈ l
  len : l.length ≤ 2000
theorem ReachL.all {t : Task} {s : List Int} {l : List (List Int)} (h : ReachL t s l) : ∀ {plan : List Nat} {x e : List Int}, x ∈ l → endsT t x plan = some e → e ∈ l
  | [], x, e, hx, he => by simp only [endsT, Option.some.injEq] at he; rw [← he]; exact hx
  | i :: r, x, e, hx, he => by
    obtain ⟨o, h1, h2, h3⟩ := ends_cons.1 he
    exact h.all (h.closed x hx o (List.mem_of_getElem? h1) h2) h3
/-- More than 2000 states can be reached. -/
def ManyT (t : Task) (s : List Int) : Prop := ∃ l : List (List Int), l.Nodup ∧ 2000 < l.length ∧ ∀ x ∈ l, ReachT t s x
/-! the arcs between the states of a list -/
def arcK (l : List (List Int)) (w : Nat) (i : Nat) (c : Int) (k : Nat) : List (Nat × Nat × Int) := ((List.range k).filter fun j => decide (wsum l[j]! = w)).map fun j => (i, j, c)
def arcQ (t : Task) (l : List (List Int)) (i q : Nat) : List (Nat × Nat × Int) := if subB (t.ops[q]!).pre l[i]! then arcK l (wsum (aft t.facts l[i]! t.ops[q]!)) i (t.ops[q]!).cost l.length else []
def arcO (t : Task) (l : List (List Int)) (i q : Nat) : List (Nat × Nat × Int) := (List.range q).flatMap (arcQ t l i)
def arcI (t : Task) (l : List (List Int)) (i : Nat) : List (Nat × Nat × Int) := (List.range i).flatMap fun i => arcO t l i t.ops.length
theorem arcK_zero {l : List (List Int)} {w i : Nat} {c : Int} : arcK l w i c 0 = [] := by simp [arcK]
theorem arcK_yes {l : List (List Int)} {w i : Nat} {c : Int} {k : Nat} (h : wsum l[k]! = w) : arcK l w i c (k + 1) = arcK l w i c k ++ [(i, k, c)] := by
  unfold arcK; rw [List.range_succ, List.filter_append, List.filter_cons_of_pos (by rw [decide_eq_true_eq]; exact h)]; simp
theorem arcK_no {l : List (List Int)} {w i : Nat} {c : Int} {k : Nat} (h : ¬ wsum l[k]! = w) : arcK l w i c (k + 1) = arcK l w i c k := by
  unfold arcK; rw [List.range_succ, List.filter_append, List.filter_cons_of_neg (by rw [decide_eq_true_eq]; exact h)]; simp
theorem arcO_zero {t : Task} {l : List (List Int)} {i : Nat} : arcO t l i 0 = [] := rfl
theorem arcO_succ {t : Task} {l : List (List Int)} {i q : Nat} : arcO t l i (q + 1) = arcO t l i q ++ arcQ t l i q := by simp [arcO, List.range_succ, List.flatMap_append]
theorem arcI_zero {t : Task} {l : List (List Int)} : arcI t l 0 = [] := rfl
theorem arcI_succ {t : Task} {l : List (List Int)} {i : Nat} : arcI t l (i + 1) = arcI t l i ++ arcO t l i t.ops.length := by simp [arcI, List.range_succ, List.flatMap_append]
theorem arcK_len {l : List (List Int)} {w i : Nat} {c : Int} {k : Nat} : (arcK l w i c k).length ≤ k := by
  unfold arcK
  rw [List.length_map]
  have := List.length_filter_le (fun j => decide (wsum l[j]! = w)) (List.range k)
  rw [List.length_range] at this
  exact this
theorem arcQ_len {t : Task} {l : List (List Int)} {i q : Nat} : (arcQ t l i q).length ≤ l.length := by
  unfold arcQ
  split
  · exact arcK_len
  · simp
theorem arcO_len {t : Task} {l : List (List Int)} {i : Nat} : ∀ {q : Nat}, (arcO t l i q).length ≤ q * l.length
  | 0 => by simp [arcO]
  | q+1 => by
    rw [arcO_succ, List.length_append, Nat.succ_mul]
    have := arcO_len (t := t) (l := l) (i := i) (q := q)
    have := arcQ_len (t := t) (l := l) (i := i) (q := q)
    omega
theorem arcI_len {t : Task} {l : List (List Int)} : ∀ {i : Nat}, (arcI t l i).length ≤ i * (t.ops.length * l.length)
  | 0 => by simp [arcI]
  | i+1 => by
    rw [arcI_succ, List.length_append, Nat.succ_mul]
    have := arcI_len (t := t) (l := l) (i := i)
    have := arcO_len (t := t) (l := l) (i := i) (q := t.ops.length)
    omega
theorem arc_mem {t : Task} {l : List (List Int)} {n i k : Nat} {c : Int} : (i, k, c) ∈ arcI t l n ↔ i < n ∧ k < l.length ∧ ∃ q, q < t.ops.length ∧ subB (t.ops[q]!).pre l[i]! = true ∧ wsum l[k]! = wsum (aft t.facts l[i]! t.ops[q]!) ∧ c = (t.ops[q]!).cost := by
  simp only [arcI, arcO, List.mem_flatMap, List.mem_range]
  constructor
  · rintro ⟨i', hi, q, hq, h⟩
    unfold arcQ at h
    split at h
    · rename_i hs
      simp only [arcK, List.mem_map, List.mem_filter, List.mem_range, decide_eq_true_eq, Prod.mk.injEq] at h
      obtain ⟨j, ⟨hj, hw⟩, rfl, rfl, rfl⟩ := h
      exact ⟨hi, hj, q, hq, hs, hw, rfl⟩
    · simp at h
  · rintro ⟨hi, hk, q, hq, hs, hw, rfl⟩
    refine ⟨i, hi, q, hq, ?_⟩
    unfold arcQ
    rw [if_pos hs]
    simp only [arcK, List.mem_map, List.mem_filter, List.mem_range, decide_eq_true_eq]
    exact ⟨k, ⟨hk, hw⟩, rfl⟩
/-- What the costs of the states of a list are while arcs are relaxed. -/
structure CostOk (t : Task) (l : List (List Int)) (D : List Int) : Prop where
  len : D.length = l.length
  bd : ∀ i (hi : i < D.length), 0 ≤ D[i] ∧ D[i] ≤ Inf
  goal : ∀ i (hi : i < D.length), subB t.goal l[i]! = true → D[i] = 0
  has : ∀ i (hi : i < D.length), D[i] < Inf → ∃ plan, WorksT t l[i]! plan ∧ costT t plan = D[i]
def costI (t : Task) (l : List (List Int)) (k : Nat) : List Int := (List.range k).map fun i => if subB t.goal l[i]! then 0 else Inf
theorem costI_zero {t : Task} {l : List (List Int)} : costI t l 0 = [] := rfl
theorem costI_yes {t : Task} {l : List (List Int)} {k : Nat} (h : subB t.goal l[k]! = true) : costI t l (k + 1) = costI t l k ++ [0] := by
  unfold costI; rw [List.range_succ, List.map_append, List.map_singleton, if_pos h]
theorem costI_no {t : Task} {l : List (List Int)} {k : Nat} (h : subB t.goal l[k]! = false) : costI t l (k + 1) = costI t l k ++ [Inf] := by
  unfold costI; rw [List.range_succ, List.map_append, List.map_singleton, if_neg (by rw [h]; simp)]
theorem costI_len {t : Task} {l : List (List Int)} {k : Nat} : (costI t l k).length = k := by simp [costI]
theorem costI_ok {t : Task} {l : List (List Int)} : CostOk t l (costI t l l.length) := by
  refine ⟨costI_len, fun i hi => ?_, fun i hi hg => ?_, fun i hi h => ?_⟩
  · simp only [costI, List.getElem_map, List.getElem_range]
    split <;> simp
  · simp only [costI, List.getElem_map, List.getElem_range]; exact if_pos hg
  · simp only [costI, List.getElem_map, List.getElem_range] at h ⊢
    cases hg : subB t.goal l[i]!
    · rw [hg] at h; simp at h
    · exact ⟨[], ⟨_, rfl, hg⟩, by simp [costT]⟩
/-- One arc that is relaxed. -/
theorem CostOk.relax {t : Task} {s : List Int} {l : List (List Int)} {D : List Int} (h : CostOk t l D) (hl : ReachL t s l) (h0 : 0 ≤ t.facts) (hc : ∀ o ∈ t.ops, 0 ≤ o.cost) {n i k : Nat} {c : Int} (ha : (i, k, c) ∈ arcI t l n) (hi : i < D.length) (hk : k < D.length) (h1 : D[k] < Inf) (h2 : D[k] + c < D[i]) :
    CostOk t l (D.set i (D[k] + c)) := by
  obtain ⟨_, hkl, q, hq, hs, hw, rfl⟩ := arc_mem.1 ha
  have hl1 := h.len
  have hil : i < l.length := by omega
  have e : l[k]! = aft t.facts l[i]! t.ops[q]! := by
    rw [getBang hkl, getBang hil] at *
    exact set_inj (hl.set _ (List.getElem_mem hkl)) (aft_set h0 _ _) hw
  have hq0 : 0 ≤ (t.ops[q]!).cost := by rw [getBang hq]; exact hc _ (List.getElem_mem hq)
  have hk0 := h.bd k hk
  have hi0 := h.bd i hi
  refine ⟨by simp [hl1], fun j hj => ?_, fun j hj hg => ?_, fun j hj hb => ?_⟩
  · simp only [List.length_set] at hj
    have := h.bd j hj
    rw [List.getElem_set]
    split <;> omega
  · simp only [List.length_set] at hj
    rw [List.getElem_set]
    split
    · rename_i hij
      subst hij
      have := h.goal i hi hg
      omega
    · exact h.goal j hj hg
  · simp only [List.length_set] at hj
    by_cases hij : i = j
    · subst hij
      simp only [List.getElem_set_self]
      obtain ⟨plan, hp, hpc⟩ := h.has k hk h1
      refine ⟨q :: plan, works_cons.2 ⟨t.ops[q], List.getElem?_eq_getElem hq, ?_, ?_⟩, ?_⟩
      · rw [getBang hq] at hs; exact hs
      · rw [getBang hq] at e; rw [← e]; exact hp
      · rw [costT, hpc, List.getElem?_eq_getElem hq, getBang hq]; simp only; omega
    · simp only [List.getElem_set_ne hij] at hb ⊢
      exact h.has j hj hb
def lsum : List Int → Int
  | [] => 0
  | x :: r => x + lsum r
theorem lsum_set : ∀ {D : List Int} {i : Nat} {x : Int} (hi : i < D.length), lsum (D.set i x) = lsum D - D[i] + x
  | d :: D, 0, x, hi => by simp only [List.set_cons_zero, lsum, List.getElem_cons_zero]; omega
  | d :: D, i+1, x, hi => by
    simp only [List.set_cons_succ, lsum, List.getElem_cons_succ]
    rw [lsum_set (by simpa using hi)]; omega
theorem lsum_nonneg : ∀ {D : List Int}, (∀ i (hi : i < D.length), 0 ≤ D[i]) → 0 ≤ lsum D
  | [], _ => by simp [lsum]
  | d :: D, h => by
    have h1 := h 0 (by simp)
    have h2 := lsum_nonneg (D := D) fun i hi => h (i + 1) (by simpa using hi)
    simp only [lsum, List.getElem_cons_zero] at *
    omega
/-- No arc can be relaxed. -/
def Flat (A : List (Nat × Nat × Int)) (D : List Int) (a : Nat) : Prop := ∀ j (hj : j < A.length), j < a → ∀ x y, D[A[j].2.1]? = some x → D[A[j].1]? = some y → x < Inf → y ≤ x + A[j].2.2
theorem CostOk.least {t : Task} {s : List Int} {l : List (List Int)} {D : List Int} (h : CostOk t l D) (hl : ReachL t s l) (h0 : 0 ≤ t.facts) (hc : ∀ o ∈ t.ops, 0 ≤ o.cost) (hf : Flat (arcI t l l.length) D (arcI t l l.length).length) :
    ∀ (plan : List Nat) (i : Nat) (hi : i < D.length), WorksT t l[i]! plan → D[i] ≤ costT t plan
  | [], i, hi, ⟨e, he, hg⟩ => by
    simp only [endsT, Option.some.injEq] at he
    rw [h.goal i hi (by rw [he]; exact hg)]
    simp [costT]
  | q :: r, i, hi, hw => by
    obtain ⟨o, ho, hp, hr⟩ := works_cons.1 hw
    have hq : q < t.ops.length := (List.getElem?_eq_some_iff.1 ho).1
    have hoe : t.ops[q]! = o := by rw [getBang hq]; exact (List.getElem?_eq_some_iff.1 ho).2
    have hl1 := h.len
    have hil : i < l.length := by omega
    have hmem : l[i]! ∈ l := by rw [getBang hil]; exact List.getElem_mem hil
    obtain ⟨k, hk, hke⟩ := List.getElem_of_mem (hl.closed _ hmem o (List.mem_of_getElem? ho) hp)
    have hkD : k < D.length := by omega
    have ih := CostOk.least h hl h0 hc hf r k hkD (by rw [getBang hk, hke]; exact hr)
    have ha : (i, k, o.cost) ∈ arcI t l l.length := arc_mem.2 ⟨hil, hk, q, hq, by rw [hoe]; exact hp, by rw [getBang hk, hke, hoe], by rw [hoe]⟩
    obtain ⟨j, hj, hje⟩ := List.getElem_of_mem ha
    have hfj := hf j hj hj
    rw [hje] at hfj
    have h1 := hfj D[k] D[i] (List.getElem?_eq_getElem hkD) (List.getElem?_eq_getElem hi)
    have h2 := h.bd i hi
    have h3 := hc o (List.mem_of_getElem? ho)
    rw [costT, ho]
    simp only
    by_cases hlt : D[k] < Inf
    · have := h1 hlt; simp only at this; omega
    · omega
theorem CostOk.at0 {t : Task} {s : List Int} {l : List (List Int)} {D : List Int} (h : CostOk t l D) (hl : ReachL t s l) (h0 : 0 ≤ t.facts) (hc : ∀ o ∈ t.ops, 0 ≤ o.cost) (hf : Flat (arcI t l l.length) D (arcI t l l.length).length) (hD : 0 < D.length) : LeastC t s D[0] := by
  have h1 := h.bd 0 hD
  have hls : l[0]! = s := by
    have := hl.head
    have hl1 := h.len
    rw [List.getElem?_eq_getElem (by omega), Option.some.injEq] at this
    rw [getBang (by omega)]; exact this
  refine ⟨h1.1, h1.2, fun plan hp => h.least hl h0 hc hf plan 0 hD (by rw [hls]; exact hp), fun hlt => ?_⟩
  have := h.has 0 hD hlt
  rw [hls] at this
  exact this
end Go.Proofs.Ythdlckclpmfidaa
