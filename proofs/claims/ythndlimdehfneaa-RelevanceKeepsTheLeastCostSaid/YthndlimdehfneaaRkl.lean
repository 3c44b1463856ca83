import Derived.Test.YthndlimdehfneaaRsk



namespace Go.Proofs.Ythndlimdehfneaa
open Go.Ab
open Go
set_option linter.unusedSimpArgs false
set_option linter.unusedVariables false
set_option maxRecDepth 10000
attribute [local irreducible] PV AOp AOps AW PCall OCall MCall WCall Ab.Fin OFin OFin2 MFin RV RV1 Le AStk AGrd ADr ADx ADo AOpX AAny
set_option maxHeartbeats 4000000
attribute [local go_sem] cast_0R
/-! the pruned task's plans are the task's plans of relevant operators -/
def Corr (t : Task) (s v : List Int) : Prop := ∀ k (hk : k < (relF t).length), (k : Int) ∈ v ↔ (relF t)[k] ∈ s
theorem corr_pos (t : Task) (s : List Int) : Corr t s (posL (relF t) s) := fun k hk => by
  rw [posL_mem]
  constructor
  · rintro ⟨j, hj, he, h⟩
    obtain rfl : k = j := by omega
    exact h
  · exact fun h => ⟨k, hk, rfl, h⟩
theorem corr_sub {t : Task} {s v : List Int} (h : Corr t s v) {a : List Int} (ha : ∀ p ∈ a, p ∈ relF t) : subB (posL (relF t) a) v = true ↔ subB a s = true := by
  rw [subB_iff, subB_iff]
  constructor
  · intro g p hp
    obtain ⟨k, hk, rfl⟩ := List.getElem_of_mem (ha p hp)
    exact (h k hk).1 (g k (posL_mem.2 ⟨k, hk, rfl, hp⟩))
  · intro g i hi
    obtain ⟨k, hk, rfl, hp⟩ := posL_mem.1 hi
    exact (h k hk).2 (g _ hp)
theorem corr_aft {t : Task} (hw : WfT t) {s v : List Int} (h : Corr t s v) (o : Op) : Corr t (aft t.facts s o) (aft (pruneT t).facts v (pruneO (relF t) o)) := fun k hk => by
  have hb := (isSet_iff.1 (relF_set hw)).1 _ (List.getElem_mem hk)
  have h1 := corr_pos t o.add k hk
  have h2 := corr_pos t o.del k hk
  have h3 := h k hk
  rw [aft_mem, aft_mem]
  show ((0 : Int) ≤ k ∧ (k : Int) < (relF t).length) ∧ ((k : Int) ∈ posL (relF t) o.add ∨ (k : Int) ∈ v ∧ ¬ (k : Int) ∈ posL (relF t) o.del) ↔ _
  rw [h1, h2, h3]
  constructor
  · exact fun g => ⟨hb, g.2⟩
  · exact fun g => ⟨⟨by omega, by omega⟩, g.2⟩
noncomputable def mapN (t : Task) (plan : List Nat) : List Nat := plan.map fun x => ((relO t)[x]!).toNat
theorem prune_at {t : Task} {x : Nat} (h : x < (relO t).length) : (pruneT t).ops[x]? = some (pruneO (relF t) (t.ops[((relO t)[x]!).toNat]!)) := by
  rw [prune_ops, List.getElem?_map, List.getElem?_eq_getElem h, getBang h]; rfl
theorem relO_at {t : Task} {x : Nat} (h : x < (relO t).length) : (0 ≤ (relO t)[x]! ∧ (relO t)[x]! < t.ops.length) ∧ meetB (relF t) (t.ops[((relO t)[x]!).toNat]!) = true := by
  rw [getBang h]; exact relO_mem.1 (List.getElem_mem h)
theorem prune_n {t : Task} : (pruneT t).ops.length = (relO t).length := by rw [prune_ops, List.length_map]
theorem rel_pre {t : Task} (hw : WfT t) {o : Op} (ho : o ∈ t.ops) (hm : meetB (relF t) o = true) : ∀ p ∈ o.pre, p ∈ relF t := fun p hp => by
  obtain ⟨y, h1, h2⟩ := meetB_iff.1 hm
  exact (relF_mem hw).2 (.pre ho h1 ((relF_mem hw).1 h2) hp)
theorem map_works {t : Task} (hw : WfT t) : ∀ (plan : List Nat) (s v : List Int), (∀ x ∈ plan, x < (relO t).length) → Corr t s v → (WorksT (pruneT t) v plan ↔ WorksT t s (mapN t plan))
  | [], s, v, hin, h => by
    have hg := corr_sub h (a := t.goal) fun p hp => (relF_mem hw).2 (.goal hp)
    constructor
    · rintro ⟨e, h1, h2⟩
      obtain rfl : v = e := by simpa [endsT] using h1
      exact ⟨s, rfl, hg.1 h2⟩
    · rintro ⟨e, h1, h2⟩
      obtain rfl : s = e := by simpa [mapN, endsT] using h1
      exact ⟨v, rfl, hg.2 h2⟩
  | x :: r, s, v, hin, h => by
    have hx := hin x (by simp)
    obtain ⟨hb, hm⟩ := relO_at hx
    have hlt : ((relO t)[x]!).toNat < t.ops.length := by omega
    have ih := map_works hw r _ _ (fun y hy => hin y (by simp [hy])) (corr_aft hw h (t.ops[((relO t)[x]!).toNat]!))
    have hp := corr_sub h (rel_pre hw (o := t.ops[((relO t)[x]!).toNat]!) (by rw [getBang hlt]; exact List.getElem_mem hlt) hm)
    have hq : t.ops[((relO t)[x]!).toNat]? = some (t.ops[((relO t)[x]!).toNat]!) := by rw [getBang hlt]; exact List.getElem?_eq_getElem hlt
    rw [show mapN t (x :: r) = ((relO t)[x]!).toNat :: mapN t r from rfl, works_cons, works_cons, prune_at hx, hq]
    constructor
    · rintro ⟨o, h1, h2, h3⟩
      obtain rfl := Option.some.inj h1
      exact ⟨_, rfl, hp.1 h2, ih.1 h3⟩
    · rintro ⟨o, h1, h2, h3⟩
      obtain rfl := Option.some.inj h1
      exact ⟨_, rfl, hp.2 h2, ih.2 h3⟩
theorem map_cost {t : Task} : ∀ (plan : List Nat), (∀ x ∈ plan, x < (relO t).length) → costT (pruneT t) plan = costT t (mapN t plan)
  | [], _ => rfl
  | x :: r, hin => by
    have hx := hin x (by simp)
    obtain ⟨hb, hm⟩ := relO_at hx
    have hlt : ((relO t)[x]!).toNat < t.ops.length := by omega
    have hq : t.ops[((relO t)[x]!).toNat]? = some (t.ops[((relO t)[x]!).toNat]!) := by rw [getBang hlt]; exact List.getElem?_eq_getElem hlt
    rw [show mapN t (x :: r) = ((relO t)[x]!).toNat :: mapN t r from rfl, costT, costT, map_cost r fun y hy => hin y (by simp [hy]), prune_at hx, hq]
    rfl
theorem works_in {t : Task} : ∀ {plan : List Nat} {s : List Int}, WorksT t s plan → ∀ x ∈ plan, x < t.ops.length
  | [], _, _, x, hx => by simp at hx
  | i :: r, s, h, x, hx => by
    obtain ⟨o, h1, h2, h3⟩ := works_cons.1 h
    rcases List.mem_cons.1 hx with rfl | hx
    · exact (List.getElem?_eq_some_iff.1 h1).1
    · exact works_in h3 x hx
theorem map_of {t : Task} : ∀ (q : List Nat), (∀ x ∈ q, (x : Int) ∈ relO t) → ∃ plan : List Nat, (∀ x ∈ plan, x < (relO t).length) ∧ mapN t plan = q
  | [], _ => ⟨[], by simp, rfl⟩
  | x :: r, h => by
    obtain ⟨plan, h1, h2⟩ := map_of r fun y hy => h y (by simp [hy])
    obtain ⟨k, hk, he⟩ := List.getElem_of_mem (h x (by simp))
    refine ⟨k :: plan, fun y hy => ?_, ?_⟩
    · rcases List.mem_cons.1 hy with rfl | hy
      · exact hk
      · exact h1 y hy
    · rw [show mapN t (k :: plan) = ((relO t)[k]!).toNat :: mapN t plan from rfl, h2, getBang hk, he]; rfl
theorem cost_filter {t : Task} (hc : ∀ o ∈ t.ops, 0 ≤ o.cost) (f : Nat → Bool) : ∀ (q : List Nat), costT t (q.filter f) ≤ costT t q
  | [] => Int.le_refl _
  | x :: r => by
    have ih := cost_filter hc f r
    have h0 : 0 ≤ costT t [x] := by
      rw [costT, costT]
      split
      · rename_i o ho; have := hc o (List.mem_of_getElem? ho); omega
      · omega
    have e1 : ∀ l, costT t (x :: l) = costT t [x] + costT t l := fun l => cost_app (a := [x])
    cases hx : f x with
    | true => rw [List.filter_cons_of_pos hx, e1, e1 r]; omega
    | false => rw [List.filter_cons_of_neg (by rw [hx]; simp), e1]; omega
theorem corr_init (t : Task) : Corr t t.init (pruneT t).init := corr_pos t t.init
theorem least_le {t : Task} (hw : WfT t) {z y : Int} (h1 : LeastC t t.init z) (h2 : LeastC (pruneT t) (pruneT t).init y) : z = y := by
  have hc : ∀ o ∈ t.ops, 0 ≤ o.cost := fun o ho => (hw.ops o ho).2.1
  have g1 := h1.z1
  have g2 := h2.z1
  have a1 : z ≤ y := by
    by_cases hy : y < Inf
    · obtain ⟨plan, h3, h4⟩ := h2.has hy
      have hin : ∀ x ∈ plan, x < (relO t).length := fun x hx => by have := works_in h3 x hx; rwa [prune_n] at this
      have := h1.le _ ((map_works hw plan _ _ hin (corr_init t)).1 h3)
      rw [← map_cost plan hin] at this
      omega
    · omega
  have a2 : y ≤ z := by
    by_cases hz : z < Inf
    · obtain ⟨plan, h3, h4⟩ := h1.has hz
      have hi := works_in h3
      have hn : natP (plan.map Int.ofNat) = plan := by simp [natP, List.map_map, Function.comp_def]
      have h5 := skip_works hw (plan.map Int.ofNat) t.init t.init (fun x hx => by
        obtain ⟨k, hk, rfl⟩ := List.mem_map.1 hx
        have := hi k hk
        show (0 : Int) ≤ (k : Int) ∧ (k : Int) < _
        omega) (fun _ _ h => h) (by rw [hn]; exact h3)
      have he : natP ((plan.map Int.ofNat).filter (hasB (relO t))) = plan.filter fun x : Nat => hasB (relO t) (x : Int) := by
        rw [List.filter_map, natP, List.map_map]; simp [Function.comp_def]
      rw [he] at h5
      obtain ⟨q, hq, hqe⟩ := map_of (t := t) (plan.filter fun x : Nat => hasB (relO t) (x : Int)) fun x hx => by
        have := (List.mem_filter.1 hx).2
        rwa [hasB_t] at this
      rw [← hqe] at h5
      have h6 := h2.le q ((map_works hw q _ _ hq (corr_init t)).2 h5)
      rw [map_cost q hq, hqe] at h6
      have := cost_filter hc (fun x : Nat => hasB (relO t) (x : Int)) plan
      omega
    · omega
  omega
end Go.Proofs.Ythndlimdehfneaa
