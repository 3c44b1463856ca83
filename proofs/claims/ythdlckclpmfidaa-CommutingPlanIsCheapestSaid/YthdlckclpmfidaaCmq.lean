import Derived.Test.YthdlckclpmfidaaCms

namespace Go.Proofs.Ythdlckclpmfidaa
open Go.Ab
open Go
set_option linter.unusedSimpArgs false
set_option linter.unusedVariables false
set_option maxRecDepth 10000
set_option maxHeartbeats 4000000
/-! operators whose order does not matter -/
theorem indB_iff {a b : Op} : indB a b = true ↔ (∀ x ∈ a.add, ¬ x ∈ b.pre) ∧ (∀ x ∈ a.del, ¬ x ∈ b.pre) ∧ (∀ x ∈ a.add, ¬ x ∈ b.del) ∧ (∀ x ∈ b.add, ¬ x ∈ a.pre) ∧ (∀ x ∈ b.del, ¬ x ∈ a.pre) ∧ (∀ x ∈ b.add, ¬ x ∈ a.del) := by
  simp only [indB, freeB, Bool.and_eq_true, disB_iff, and_assoc]
theorem ind_pre {n : Int} {a b : Op} {s : List Int} (h : indB a b = true) (hs : isSet s n = true) : subB b.pre (aft n s a) = subB b.pre s := by
  obtain ⟨h1, h2, _⟩ := indB_iff.1 h
  have hr := (isSet_iff.1 hs).1
  rw [Bool.eq_iff_iff, subB_iff, subB_iff]
  constructor
  · intro hp x hx
    rcases (aft_mem.1 (hp x hx)).2 with h3 | h3
    · exact absurd hx (h1 x h3)
    · exact h3.1
  · intro hp x hx
    exact aft_mem.2 ⟨hr x (hp x hx), .inr ⟨hp x hx, fun hd => h2 x hd hx⟩⟩
theorem ind_comm {n : Int} (h0 : 0 ≤ n) {a b : Op} (s : List Int) (h : indB a b = true) : aft n (aft n s a) b = aft n (aft n s b) a := by
  obtain ⟨_, _, h1, _, _, h2⟩ := indB_iff.1 h
  refine set_ext (aft_set h0 _ _) (aft_set h0 _ _) fun p => ?_
  simp only [aft_mem]
  have g1 := h1 p
  have g2 := h2 p
  constructor
  · rintro ⟨hr, h3⟩
    refine ⟨hr, ?_⟩
    rcases h3 with h3 | ⟨⟨_, h3⟩, h4⟩
    · exact .inr ⟨⟨hr, .inl h3⟩, g2 h3⟩
    · rcases h3 with h3 | ⟨h3, h5⟩
      · exact .inl h3
      · exact .inr ⟨⟨hr, .inr ⟨h3, h4⟩⟩, h5⟩
  · rintro ⟨hr, h3⟩
    refine ⟨hr, ?_⟩
    rcases h3 with h3 | ⟨⟨_, h3⟩, h4⟩
    · exact .inr ⟨⟨hr, .inl h3⟩, g1 h3⟩
    · rcases h3 with h3 | ⟨h3, h5⟩
      · exact .inl h3
      · exact .inr ⟨⟨hr, .inr ⟨h3, h4⟩⟩, h5⟩
theorem ind_front {t : Task} (h0 : 0 ≤ t.facts) {o : Op} {j : Nat} (hj : t.ops[j]? = some o) {r : List Nat} {e : List Int} : ∀ (a : List Nat) (s : List Int), (∀ i ∈ a, ∀ q, t.ops[i]? = some q → indB o q = true) → isSet s t.facts = true → subB o.pre s = true → endsT t s (a ++ j :: r) = some e → endsT t s (j :: (a ++ r)) = some e
  | [], s, _, _, _, he => he
  | i :: a, s, hi, hs, hp, he => by
    rw [List.cons_append, ends_cons] at he
    obtain ⟨q, h1, h2, h3⟩ := he
    have hin := hi i (by simp) q h1
    have h4 := ind_front h0 hj a (aft t.facts s q) (fun i hi' => hi i (by simp [hi'])) (aft_set h0 _ _) (by rw [ind_pre (by rw [indB_symm]; exact hin) hs]; exact hp) h3
    rw [ends_cons] at h4 ⊢
    obtain ⟨o', g1, g2, g3⟩ := h4
    obtain rfl : o' = o := by rw [hj] at g1; injection g1 with g1; exact g1.symm
    refine ⟨o', hj, hp, ?_⟩
    rw [List.cons_append, ends_cons]
    exact ⟨q, h1, by rw [ind_pre hin hs]; exact h2, by rw [ind_comm h0 s hin]; exact g3⟩
/-- What a plan makes true, one of its operators adds. -/
theorem ends_adds {t : Task} {p : Int} {e : List Int} : ∀ (a : List Nat) (s : List Int), endsT t s a = some e → p ∈ e → ¬ p ∈ s → ∃ i ∈ a, ∃ o, t.ops[i]? = some o ∧ p ∈ o.add
  | [], s, he, hp, hn => by simp only [endsT, Option.some.injEq] at he; subst he; exact absurd hp hn
  | i :: a, s, he, hp, hn => by
    obtain ⟨o, h1, h2, h3⟩ := ends_cons.1 he
    by_cases h4 : p ∈ aft t.facts s o
    · rcases (aft_mem.1 h4).2 with h5 | h5
      · exact ⟨i, by simp, o, h1, h5⟩
      · exact absurd h5.1 hn
    · obtain ⟨k, hk, q, h5⟩ := ends_adds a _ h3 hp h4
      exact ⟨k, by simp [hk], q, h5⟩
theorem first_of {P : Nat → Prop} : ∀ {l : List Nat}, (∃ i ∈ l, P i) → ∃ a j b, l = a ++ j :: b ∧ P j ∧ ∀ i ∈ a, ¬ P i
  | [], h => by obtain ⟨i, hi, _⟩ := h; cases hi
  | x :: l, h => by
    by_cases hx : P x
    · exact ⟨[], x, l, rfl, hx, fun i hi => by cases hi⟩
    · obtain ⟨i, hi, hp⟩ := h
      rcases List.mem_cons.1 hi with rfl | hi
      · exact absurd hp hx
      · obtain ⟨a, j, b, h1, h2, h3⟩ := first_of ⟨i, hi, hp⟩
        refine ⟨x :: a, j, b, by rw [h1]; rfl, h2, fun k hk => ?_⟩
        rcases List.mem_cons.1 hk with rfl | hk
        · exact hx
        · exact h3 k hk
open Classical in
theorem stub_mem {t : Task} {s : List Int} {j : Nat} (hg : ¬ missF s t.goal < 0) (h1 : InS t s (missF s t.goal) j) (h2 : subB (t.ops[j]!).pre s = true) : (j : Int) ∈ stubT t s := by
  have := h1.lt
  unfold stubT
  rw [if_neg hg, List.mem_filter]
  refine ⟨upTo_mem.2 (by omega), ?_⟩
  rw [Int.toNat_natCast, h2, Bool.and_true, decide_eq_true_eq]
  exact h1
open Classical in
theorem stub_sub {t : Task} {s : List Int} {x : Int} (h : x ∈ stubT t s) : 0 ≤ x ∧ x < t.ops.length ∧ subB (t.ops[x.toNat]!).pre s = true := by
  unfold stubT at h
  split at h
  · cases h
  · have h1 := List.mem_filter.1 h
    have h2 := upTo_mem.1 h1.1
    rw [Bool.and_eq_true] at h1
    exact ⟨h2.1, h2.2, h1.2.2⟩
/-- Of a plan from a state that is no goal state, an operator that suffices can be taken first. -/
theorem stub_step {t : Task} (hw : WfT t) {s : List Int} (hs : isSet s t.facts = true) (hg : subB t.goal s = false) {plan : List Nat} (h : WorksT t s plan) :
    ∃ (j : Nat) (r : List Nat), j < t.ops.length ∧ (j : Int) ∈ stubT t s ∧ WorksT t (aft t.facts s t.ops[j]!) r ∧ r.length + 1 = plan.length ∧ (t.ops[j]!).cost + costT t r = costT t plan := by
  obtain ⟨e, he, hge⟩ := h
  have hm : ¬ missF s t.goal < 0 := fun hn => by
    have := (missF_neg fun x hx => ((isSet_iff.1 hw.goal).1 x hx).1).1 hn
    rw [hg] at this
    cases this
  obtain ⟨g1, g2⟩ := missF_pos (s := s) (want := t.goal) (by omega)
  obtain ⟨i, hi, o, ho, hadd⟩ := ends_adds plan s he (subB_iff.1 hge _ g1) g2
  have hlt : ∀ {i : Nat} {o : Op}, t.ops[i]? = some o → i < t.ops.length ∧ t.ops[i]! = o := fun {i o} h => by
    obtain ⟨h1, h2⟩ := List.getElem?_eq_some_iff.1 h
    exact ⟨h1, by rw [getBang h1]; exact h2⟩
  obtain ⟨a, j, b, rfl, hj, hn⟩ := first_of (P := InS t s (missF s t.goal)) ⟨i, hi, .seed (hlt ho).1 (by rw [(hlt ho).2, hasB_t]; exact hadd)⟩
  obtain ⟨m, hm1, hm2⟩ := ends_app.1 he
  obtain ⟨q, hq, hqp, _⟩ := ends_cons.1 hm2
  obtain ⟨hjl, hjq⟩ := hlt hq
  have hpos : ∀ x ∈ q.pre, 0 ≤ x := fun x hx => by
    have := (hw.ops q (List.mem_of_getElem? hq)).1
    simp only [opOk, Bool.and_eq_true] at this
    exact ((isSet_iff.1 this.1.1.1).1 x hx).1
  have hap : subB q.pre s = true := by
    cases hc : subB q.pre s with
    | true => rfl
    | false =>
      have hneg : 0 ≤ missF s q.pre := by
        apply Classical.byContradiction
        intro hx
        have := (missF_neg hpos).1 (show missF s q.pre < 0 by omega)
        rw [hc] at this
        cases this
      obtain ⟨k1, k2⟩ := missF_pos hneg
      obtain ⟨i, hi, o, ho, hadd⟩ := ends_adds a s hm1 (subB_iff.1 hqp _ k1) k2
      refine absurd (InS.step hj (hlt ho).1 ?_) (hn i hi)
      unfold dueB
      rw [hjq, if_pos hneg, (hlt ho).2, hasB_t]
      exact hadd
  have hind : ∀ i ∈ a, ∀ u, t.ops[i]? = some u → indB q u = true := fun i hi u hu => by
    cases hc : indB q u with
    | true => rfl
    | false =>
      refine absurd (InS.step hj (hlt hu).1 ?_) (hn i hi)
      have := (missF_neg hpos).2 hap
      unfold dueB
      rw [hjq, if_neg (by omega), (hlt hu).2, hc]
      rfl
  have hfr := ind_front hw.f0 hq a s hind hs hap he
  obtain ⟨q', c1, _, c3⟩ := ends_cons.1 hfr
  obtain rfl : q' = q := by rw [hq] at c1; injection c1 with c1; exact c1.symm
  refine ⟨j, a ++ b, hjl, stub_mem hm hj (by rw [hjq]; exact hap), ⟨e, by rw [hjq]; exact c3, hge⟩, by simp; omega, ?_⟩
  rw [cost_app, cost_app, hjq]
  show _ = costT t a + ((match t.ops[j]? with | some o => o.cost | none => 0) + costT t b)
  rw [hq]
  simp only
  omega
end Go.Proofs.Ythdlckclpmfidaa
