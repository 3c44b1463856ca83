/- Plans of two tasks side by side, and how long a cheapest plan is: no program in sight. -/
import Derived.Test.YthndlimdehfneaaPrl
namespace Go.Proofs.Ythndlimdehfneaa
open Go.Ab
open Go
set_option linter.unusedSimpArgs false
set_option linter.unusedVariables false
theorem pigeon : ∀ (M : Nat) (f : Nat → Nat), (∀ i, i ≤ M → f i < M) → ∃ i j, i < j ∧ j ≤ M ∧ f i = f j
  | 0, f, h => absurd (h 0 (Nat.le_refl _)) (Nat.not_lt_zero _)
  | M+1, f, h => by
    by_cases hd : ∃ i, i ≤ M ∧ f i = f (M + 1)
    · obtain ⟨i, hi, he⟩ := hd
      exact ⟨i, M + 1, by omega, Nat.le_refl _, he⟩
    · have hd' : ∀ i, i ≤ M → f i ≠ f (M + 1) := fun i hi he => hd ⟨i, hi, he⟩
      obtain ⟨i, j, hij, hj, he⟩ := pigeon M (fun i => if f i = M then f (M + 1) else f i) (fun i hi => by
        have h1 := h i (by omega)
        have h2 := h (M + 1) (Nat.le_refl _)
        have h3 := hd' i hi
        split <;> omega)
      have h1 := hd' i (by omega)
      have h2 := hd' j hj
      refine ⟨i, j, hij, by omega, ?_⟩
      split at he <;> split at he <;> omega
/-- Sets of few facts: there are not many of them. -/
theorem few_sets {n : Int} {k : Nat} {l : List (List Int)} (hn : n ≤ k) (h : ∀ x ∈ l, isSet x n = true) (hd : l.Nodup) : l.length ≤ 2 ^ k := by
  apply Decidable.byContradiction
  intro hl
  obtain ⟨i, j, hij, hj, he⟩ := pigeon (2 ^ k) (fun i => wsum l[i]!) (fun i hi => by
    have hil : i < l.length := by omega
    rw [getBang hil]
    have hs := isSet_iff.1 (h _ (List.getElem_mem hil))
    exact wsum_lt hs.2 fun x hx => by have := hs.1 x hx; omega)
  have hil : i < l.length := by omega
  have hjl : j < l.length := by omega
  rw [getBang hil, getBang hjl] at he
  have := set_inj (h _ (List.getElem_mem hil)) (h _ (List.getElem_mem hjl)) he
  have h2 := List.pairwise_iff_getElem.1 hd i j hil hjl hij
  exact h2 this
theorem not_many {t : Task} {s : List Int} (h0 : 0 ≤ t.facts) (h9 : t.facts ≤ 10) (hs : isSet s t.facts = true) : ¬ ManyT t s := by
  rintro ⟨l, hd, hl, hr⟩
  have := few_sets (k := 10) (by omega) (fun x hx => by obtain ⟨p, hp⟩ := hr x hx; exact ends_set h0 hs hp) hd
  omega
/-- A plan need not be longer than there are states. -/
theorem short_plan {t : Task} (hw : WfT t) {k : Nat} (hk : t.facts ≤ k) {s : List Int} (hs : isSet s t.facts = true) : ∀ (N : Nat) (plan : List Nat), plan.length ≤ N → WorksT t s plan → ∃ p, WorksT t s p ∧ p.length < 2 ^ k ∧ costT t p ≤ costT t plan
  | 0, plan, hl, h => ⟨plan, h, by have : 0 < 2 ^ k := Nat.pow_pos (by omega); omega, Int.le_refl _⟩
  | N+1, plan, hl, h => by
    by_cases hlt : plan.length < 2 ^ k
    · exact ⟨plan, h, hlt, Int.le_refl _⟩
    · obtain ⟨e, he, hg⟩ := h
      have hpre : ∀ i, ∃ m, endsT t s (plan.take i) = some m ∧ endsT t m (plan.drop i) = some e := fun i => by
        rw [← List.take_append_drop i plan] at he
        exact ends_app.1 he
      obtain ⟨i, j, hij, hj, hw2⟩ := pigeon (2 ^ k) (fun i => wsum ((endsT t s (plan.take i)).getD [])) (fun i hi => by
        obtain ⟨m, hm, _⟩ := hpre i
        simp only [hm, Option.getD_some]
        have := isSet_iff.1 (ends_set hw.f0 hs hm)
        exact wsum_lt this.2 fun x hx => by have := this.1 x hx; omega)
      obtain ⟨m1, h1, h2⟩ := hpre i
      obtain ⟨m2, h3, h4⟩ := hpre j
      simp only [h1, h3, Option.getD_some] at hw2
      have hm := set_inj (ends_set hw.f0 hs h1) (ends_set hw.f0 hs h3) hw2
      subst hm
      obtain ⟨p, p1, p2, p3⟩ := short_plan hw hk hs N (plan.take i ++ plan.drop j) (by rw [List.length_append, List.length_take, List.length_drop]; omega) ⟨e, ends_app.2 ⟨m1, h1, h4⟩, hg⟩
      refine ⟨p, p1, p2, Int.le_trans p3 ?_⟩
      have c1 : costT t plan = costT t (plan.take i) + costT t (plan.drop i) := by rw [← cost_app, List.take_append_drop]
      have c2 : costT t (plan.drop i) = costT t ((plan.drop i).take (j - i)) + costT t (plan.drop j) := by
        rw [← cost_app]
        congr 1
        have : plan.drop j = (plan.drop i).drop (j - i) := by rw [List.drop_drop]; congr 1; omega
        rw [this, List.take_append_drop]
      have c3 := (cost_bound hw ((plan.drop i).take (j - i))).1
      rw [cost_app]
      omega
theorem LeastC.small {t : Task} {s : List Int} {z : Int} (h : LeastC t s z) (hw : WfT t) (hs : isSet s t.facts = true) (hk : t.facts ≤ 5) (hz : z ≠ Inf) : z ≤ 3200 := by
  have hz1 := h.z1
  obtain ⟨plan, h1, h2⟩ := h.has (by omega)
  obtain ⟨p, p1, p2, p3⟩ := short_plan hw (k := 5) hk hs plan.length plan (Nat.le_refl _) h1
  have := h.le p p1
  have := (cost_bound hw p).2
  omega
/-! two tasks side by side -/
def plA (n : Nat) (plan : List Nat) : List Nat := plan.filter fun j => decide (j < n)
def plB (n : Nat) (plan : List Nat) : List Nat := (plan.filter fun j => decide (n ≤ j)).map fun j => j - n
theorem prod_getA {a b : Task} {j : Nat} (h : j < a.ops.length) : (prodT a b).ops[j]? = a.ops[j]? := by
  simp only [prodT, prodL]
  rw [List.getElem?_append_left h]
theorem prod_getB {a b : Task} {j : Nat} (h : a.ops.length ≤ j) : (prodT a b).ops[j]? = (b.ops[j - a.ops.length]?).map (shiftO a.facts) := by
  simp only [prodT, prodL]
  rw [List.getElem?_append_right h, List.getElem?_map, List.take_length]
theorem shift_mem {u : List Int} {n p : Int} : p ∈ shift u n ↔ p - n ∈ u := by
  simp only [shift, List.mem_map]
  constructor
  · rintro ⟨x, hx, rfl⟩; rwa [Int.add_sub_cancel]
  · exact fun h => ⟨p - n, h, by omega⟩
theorem shift_set {u : List Int} {n m : Int} (hn : 0 ≤ n) (h : isSet u m = true) : isSet (shift u n) (n + m) = true := by
  rw [isSet_iff] at h ⊢
  refine ⟨fun x hx => ?_, ?_⟩
  · have := h.1 _ (shift_mem.1 hx); omega
  · unfold shift
    rw [List.pairwise_map]
    exact h.2.imp fun h => by omega
theorem appS_set {s u : List Int} {n m : Int} (hn : 0 ≤ n) (hm : 0 ≤ m) (hs : isSet s n = true) (hu : isSet u m = true) : isSet (appS s u n) (n + m) = true := by
  have h1 := shift_set hn hu
  have h2 := isSet_iff.1 hs
  have h3 := isSet_iff.1 hu
  rw [isSet_iff] at h1 ⊢
  unfold appS
  refine ⟨fun x hx => ?_, ?_⟩
  · rcases List.mem_append.1 hx with hx | hx
    · have := h2.1 x hx; omega
    · exact h1.1 x hx
  · rw [List.pairwise_append]
    refine ⟨h2.2, h1.2, fun x hx y hy => ?_⟩
    have := h2.1 x hx
    have := h3.1 _ (shift_mem.1 hy)
    omega
theorem prod_subA {s u p : List Int} {n m : Int} (hp : isSet p n = true) (hu : isSet u m = true) : subB p (appS s u n) = subB p s := by
  have h1 := (isSet_iff.1 hp).1
  have h2 := (isSet_iff.1 hu).1
  rw [Bool.eq_iff_iff, subB_iff, subB_iff]
  unfold appS
  constructor
  · intro h x hx
    rcases List.mem_append.1 (h x hx) with h3 | h3
    · exact h3
    · have := h1 x hx
      have := h2 _ (shift_mem.1 h3)
      omega
  · exact fun h x hx => List.mem_append_left _ (h x hx)
theorem prod_subB {s u p : List Int} {n m : Int} (hs : isSet s n = true) (hp : isSet p m = true) : subB (shift p n) (appS s u n) = subB p u := by
  have h1 := (isSet_iff.1 hs).1
  have h2 := (isSet_iff.1 hp).1
  rw [Bool.eq_iff_iff, subB_iff, subB_iff]
  unfold appS
  constructor
  · intro h x hx
    have h3 := h (x + n) (shift_mem.2 (by rwa [Int.add_sub_cancel]))
    rcases List.mem_append.1 h3 with h4 | h4
    · have := h1 _ h4
      have := h2 x hx
      omega
    · have := shift_mem.1 h4
      rwa [Int.add_sub_cancel] at this
  · intro h x hx
    exact List.mem_append_right _ (shift_mem.2 (h _ (shift_mem.1 hx)))
theorem prod_aftA {s u : List Int} {o : Op} {n m : Int} (hn : 0 ≤ n) (hm : 0 ≤ m) (hs : isSet s n = true) (hu : isSet u m = true) (ha : isSet o.add n = true) (hd : isSet o.del n = true) : aft (n + m) (appS s u n) o = appS (aft n s o) u n := by
  refine set_ext (aft_set (by omega) _ _) (appS_set hn hm (aft_set hn _ _) hu) fun p => ?_
  have h1 := (isSet_iff.1 hu).1
  have h2 := (isSet_iff.1 ha).1
  have h3 := (isSet_iff.1 hd).1
  unfold appS
  rw [aft_mem, List.mem_append, List.mem_append, aft_mem, shift_mem]
  constructor
  · rintro ⟨hp, h | ⟨h | h, h4⟩⟩
    · exact .inl ⟨by have := h2 p h; omega, .inl h⟩
    · exact .inl ⟨(isSet_iff.1 hs).1 p h, .inr ⟨h, h4⟩⟩
    · exact .inr h
  · rintro (⟨hp, h⟩ | h)
    · refine ⟨by omega, ?_⟩
      rcases h with h | ⟨h, h4⟩
      · exact .inl h
      · exact .inr ⟨.inl h, h4⟩
    · have := h1 _ h
      exact ⟨by omega, .inr ⟨.inr h, fun h5 => by have := h3 p h5; omega⟩⟩
theorem prod_aftB {s u : List Int} {o : Op} {n m : Int} (hn : 0 ≤ n) (hm : 0 ≤ m) (hs : isSet s n = true) (hu : isSet u m = true) (ha : isSet o.add m = true) (hd : isSet o.del m = true) : aft (n + m) (appS s u n) (shiftO n o) = appS s (aft m u o) n := by
  refine set_ext (aft_set (by omega) _ _) (appS_set hn hm hs (aft_set hm _ _)) fun p => ?_
  have h1 := (isSet_iff.1 hs).1
  have h2 := (isSet_iff.1 ha).1
  have h3 := (isSet_iff.1 hd).1
  have h0 := (isSet_iff.1 hu).1
  unfold appS
  rw [aft_mem, List.mem_append, List.mem_append, shift_mem, shift_mem, aft_mem]
  simp only [shiftO, shift_mem]
  constructor
  · rintro ⟨hp, h | ⟨h | h, h4⟩⟩
    · exact .inr ⟨h2 _ h, .inl h⟩
    · exact .inl h
    · exact .inr ⟨h0 _ h, .inr ⟨h, h4⟩⟩
  · rintro (h | ⟨hp, h⟩)
    · have := h1 p h
      exact ⟨by omega, .inr ⟨.inl h, fun h5 => by have := h3 _ h5; omega⟩⟩
    · refine ⟨by omega, ?_⟩
      rcases h with h | ⟨h, h4⟩
      · exact .inl h
      · exact .inr ⟨.inr h, h4⟩
theorem plA_lt {n j : Nat} {r : List Nat} (h : j < n) : plA n (j :: r) = j :: plA n r := by simp [plA, h]
theorem plA_ge {n j : Nat} {r : List Nat} (h : n ≤ j) : plA n (j :: r) = plA n r := by
  unfold plA; rw [List.filter_cons_of_neg (by simp; omega)]
theorem plB_lt {n j : Nat} {r : List Nat} (h : j < n) : plB n (j :: r) = plB n r := by
  unfold plB; rw [List.filter_cons_of_neg (by simp; omega)]
theorem plB_ge {n j : Nat} {r : List Nat} (h : n ≤ j) : plB n (j :: r) = (j - n) :: plB n r := by simp [plB, h]
theorem prod_ends {a b : Task} (ha : WfT a) (hb : WfT b) : ∀ (plan : List Nat) (s u : List Int), isSet s a.facts = true → isSet u b.facts = true → ∀ e, endsT (prodT a b) (appS s u a.facts) plan = some e ↔
    ∃ c d, endsT a s (plA a.ops.length plan) = some c ∧ endsT b u (plB a.ops.length plan) = some d ∧ e = appS c d a.facts
  | [], s, u, hs, hu, e => by simp [endsT, plA, plB, eq_comm]
  | j :: r, s, u, hs, hu, e => by
    have hf : (prodT a b).facts = a.facts + b.facts := rfl
    rcases Nat.lt_or_ge j a.ops.length with hj | hj
    · rw [plA_lt hj, plB_lt hj, ends_cons]
      constructor
      · rintro ⟨o, h1, h2, h3⟩
        rw [prod_getA hj] at h1
        obtain ⟨p1, p2, p3, _⟩ := op_sets ha (List.mem_of_getElem? h1)
        rw [prod_subA p1 hu] at h2
        rw [hf, prod_aftA ha.f0 hb.f0 hs hu p2 p3] at h3
        obtain ⟨c, d, h4, h5, h6⟩ := (prod_ends ha hb r _ _ (aft_set ha.f0 _ _) hu e).1 h3
        exact ⟨c, d, ends_cons.2 ⟨o, h1, h2, h4⟩, h5, h6⟩
      · rintro ⟨c, d, h1, h2, h3⟩
        obtain ⟨o, h4, h5, h6⟩ := ends_cons.1 h1
        obtain ⟨p1, p2, p3, _⟩ := op_sets ha (List.mem_of_getElem? h4)
        refine ⟨o, by rw [prod_getA hj]; exact h4, by rw [prod_subA p1 hu]; exact h5, ?_⟩
        rw [hf, prod_aftA ha.f0 hb.f0 hs hu p2 p3]
        exact (prod_ends ha hb r _ _ (aft_set ha.f0 _ _) hu e).2 ⟨c, d, h6, h2, h3⟩
    · rw [plA_ge hj, plB_ge hj, ends_cons]
      constructor
      · rintro ⟨o', h1, h2, h3⟩
        rw [prod_getB hj] at h1
        cases ho : b.ops[j - a.ops.length]? with
        | none => rw [ho] at h1; cases h1
        | some o =>
          rw [ho, Option.map_some, Option.some.injEq] at h1
          subst h1
          obtain ⟨p1, p2, p3, _⟩ := op_sets hb (List.mem_of_getElem? ho)
          have h2 : subB (shift o.pre a.facts) (appS s u a.facts) = true := h2
          rw [prod_subB hs p1] at h2
          rw [hf, prod_aftB ha.f0 hb.f0 hs hu p2 p3] at h3
          obtain ⟨c, d, h4, h5, h6⟩ := (prod_ends ha hb r _ _ hs (aft_set hb.f0 _ _) e).1 h3
          exact ⟨c, d, h4, ends_cons.2 ⟨o, ho, h2, h5⟩, h6⟩
      · rintro ⟨c, d, h1, h2, h3⟩
        obtain ⟨o, h4, h5, h6⟩ := ends_cons.1 h2
        obtain ⟨p1, p2, p3, _⟩ := op_sets hb (List.mem_of_getElem? h4)
        refine ⟨shiftO a.facts o, by rw [prod_getB hj, h4]; rfl, ?_, ?_⟩
        · show subB (shift o.pre a.facts) (appS s u a.facts) = true
          rw [prod_subB hs p1]; exact h5
        · rw [hf, prod_aftB ha.f0 hb.f0 hs hu p2 p3]
          exact (prod_ends ha hb r _ _ hs (aft_set hb.f0 _ _) e).2 ⟨c, d, h1, h6, h3⟩
theorem prod_cost {a b : Task} : ∀ (plan : List Nat), costT (prodT a b) plan = costT a (plA a.ops.length plan) + costT b (plB a.ops.length plan)
  | [] => rfl
  | j :: r => by
    rcases Nat.lt_or_ge j a.ops.length with hj | hj
    · rw [plA_lt hj, plB_lt hj, costT, costT, prod_getA hj, prod_cost r]; omega
    · rw [plA_ge hj, plB_ge hj, costT, costT, prod_getB hj, prod_cost r]
      cases b.ops[j - a.ops.length]? with
      | none => simp only [Option.map_none]; omega
      | some o => simp only [Option.map_some, shiftO]; omega
theorem prod_goal {p q s u : List Int} {n m : Int} (hp : isSet p n = true) (hq : isSet q m = true) (hs : isSet s n = true) (hu : isSet u m = true) : subB (appS p q n) (appS s u n) = (subB p s && subB q u) := by
  rw [← prod_subA hp hu, ← prod_subB (n := n) hs hq, Bool.eq_iff_iff, Bool.and_eq_true, subB_iff, subB_iff, subB_iff]
  have e : ∀ x, x ∈ appS p q n ↔ x ∈ p ∨ x ∈ shift q n := fun x => by unfold appS; rw [List.mem_append]
  constructor
  · exact fun h => ⟨fun x hx => h x ((e x).2 (.inl hx)), fun x hx => h x ((e x).2 (.inr hx))⟩
  · rintro ⟨h1, h2⟩ x hx
    rcases (e x).1 hx with h | h
    · exact h1 x h
    · exact h2 x h
theorem prod_works {a b : Task} (ha : WfT a) (hb : WfT b) {plan : List Nat} : WorksT (prodT a b) (prodT a b).init plan ↔ WorksT a a.init (plA a.ops.length plan) ∧ WorksT b b.init (plB a.ops.length plan) := by
  have h := prod_ends ha hb plan a.init b.init ha.init hb.init
  constructor
  · rintro ⟨e, he, hg⟩
    obtain ⟨c, d, h1, h2, rfl⟩ := (h e).1 he
    have hg : subB (appS a.goal b.goal a.facts) (appS c d a.facts) = true := hg
    rw [prod_goal ha.goal hb.goal (ends_set ha.f0 ha.init h1) (ends_set hb.f0 hb.init h2), Bool.and_eq_true] at hg
    exact ⟨⟨c, h1, hg.1⟩, ⟨d, h2, hg.2⟩⟩
  · rintro ⟨⟨c, h1, g1⟩, ⟨d, h2, g2⟩⟩
    refine ⟨_, (h _).2 ⟨c, d, h1, h2, rfl⟩, ?_⟩
    show subB (appS a.goal b.goal a.facts) (appS c d a.facts) = true
    rw [prod_goal ha.goal hb.goal (ends_set ha.f0 ha.init h1) (ends_set hb.f0 hb.init h2), g1, g2]
    rfl
theorem plA_join {n : Nat} {x y : List Nat} (hx : ∀ j ∈ x, j < n) : plA n (x ++ y.map (· + n)) = x := by
  unfold plA
  rw [List.filter_append, List.filter_eq_self.2 (fun j hj => by simpa using hx j hj), List.filter_eq_nil_iff.2 (fun j hj => by
    obtain ⟨k, _, rfl⟩ := List.mem_map.1 hj
    simp), List.append_nil]
theorem plB_join {n : Nat} {x y : List Nat} (hx : ∀ j ∈ x, j < n) : plB n (x ++ y.map (· + n)) = y := by
  unfold plB
  rw [List.filter_append, List.filter_eq_nil_iff.2 (fun j hj => by have := hx j hj; simp; omega), List.nil_append, List.filter_eq_self.2 (fun j hj => by
    obtain ⟨k, _, rfl⟩ := List.mem_map.1 hj
    simp), List.map_map]
  have : ((fun j => j - n) ∘ fun x => x + n) = id := by funext k; simp
  rw [this, List.map_id]
theorem works_lt {t : Task} : ∀ {plan : List Nat} {s : List Int}, WorksT t s plan → ∀ j ∈ plan, j < t.ops.length
  | [], s, _, j, hj => by cases hj
  | i :: r, s, h, j, hj => by
    obtain ⟨o, h1, h2, h3⟩ := works_cons.1 h
    rcases List.mem_cons.1 hj with rfl | hj
    · exact (List.getElem?_eq_some_iff.1 h1).1
    · exact works_lt h3 j hj
theorem prod_wf {a b : Task} (ha : WfT a) (hb : WfT b) (h : a.facts + b.facts ≤ 24) (h40 : a.ops.length + b.ops.length ≤ 40) : WfT (prodT a b) := by
  have a0 := ha.f0
  have b0 := hb.f0
  refine ⟨by show 0 ≤ a.facts + b.facts; omega, h, appS_set a0 b0 ha.init hb.init, appS_set a0 b0 ha.goal hb.goal, by simp only [prodT, prodL, List.length_append, List.length_map, List.take_length]; exact h40, fun o ho => ?_⟩
  have ho : o ∈ a.ops ++ (b.ops.take b.ops.length).map (shiftO a.facts) := ho
  have hle : a.facts ≤ (prodT a b).facts := by show a.facts ≤ a.facts + b.facts; omega
  rw [List.take_length] at ho
  rcases List.mem_append.1 ho with ho | ho
  · obtain ⟨p1, p2, p3, p4⟩ := op_sets ha ho
    refine ⟨?_, (ha.ops o ho).2⟩
    simp only [opOk, Bool.and_eq_true]
    exact ⟨⟨⟨isSet_mono p1 hle, isSet_mono p2 hle⟩, isSet_mono p3 hle⟩, p4⟩
  · obtain ⟨q, hq, rfl⟩ := List.mem_map.1 ho
    obtain ⟨p1, p2, p3, p4⟩ := op_sets hb hq
    refine ⟨?_, (hb.ops q hq).2⟩
    simp only [opOk, shiftO, Bool.and_eq_true]
    refine ⟨⟨⟨shift_set a0 p1, shift_set a0 p2⟩, shift_set a0 p3⟩, ?_⟩
    rw [disB_iff] at p4 ⊢
    exact fun x hx hy => p4 _ (shift_mem.1 hx) (shift_mem.1 hy)
theorem prod_least {a b : Task} (ha : WfT a) (hb : WfT b) (h5 : a.facts ≤ 5) (h4 : b.facts ≤ 4) {k m z : Int} (hk : LeastC a a.init k) (hm : LeastC b b.init m) (hz : LeastC (prodT a b) (prodT a b).init z) :
    ((k = Inf ∨ m = Inf) → z = Inf) ∧ (k ≠ Inf → m ≠ Inf → z = k + m) := by
  have k1 := hk.z1
  have m1 := hm.z1
  have z1 := hz.z1
  have hge : z < Inf → k + m ≤ z := fun hlt => by
    obtain ⟨p, p1, p2⟩ := hz.has hlt
    obtain ⟨q1, q2⟩ := (prod_works ha hb).1 p1
    have := hk.le _ q1
    have := hm.le _ q2
    rw [prod_cost] at p2
    omega
  have k0 := hk.z0
  have m0 := hm.z0
  refine ⟨fun h => ?_, fun h1 h2 => ?_⟩
  · rcases Int.lt_or_le z Inf with hlt | hlt
    · have := hge hlt
      rcases h with h | h <;> omega
    · omega
  · have s1 := hk.small ha ha.init h5 h1
    have s2 := hm.small hb hb.init (by omega) h2
    obtain ⟨p, p1, p2⟩ := hk.has (by omega)
    obtain ⟨q, q1, q2⟩ := hm.has (by omega)
    have hlt := works_lt p1
    have := hz.le (p ++ q.map (· + a.ops.length)) ((prod_works ha hb).2 (by rw [plA_join hlt, plB_join hlt]; exact ⟨p1, q1⟩))
    rw [prod_cost, plA_join hlt, plB_join hlt] at this
    have hi : (Inf : Int) = 1000000000 := rfl
    have := hge (by omega)
    omega
end Go.Proofs.Ythndlimdehfneaa
