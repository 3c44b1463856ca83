/- What becomes of plans where tasks are changed: no program in sight. -/
import Derived.Test.YthndlimdehfneaaBsl
import Derived.Test.YthndlimdehfneaaBsk
namespace Go.Proofs.Ythndlimdehfneaa
open Go.Ab
open Go
set_option linter.unusedSimpArgs false
set_option linter.unusedVariables false
/-! nothing deleted -/
theorem relax_get (t : Task) (j : Nat) : (relaxT t).ops[j]? = t.ops[j]?.map relaxO := by simp [relaxT]
theorem relax_wf {t : Task} (hw : WfT t) : WfT (relaxT t) := by
  refine ⟨hw.f0, hw.f1, hw.init, hw.goal, by have := hw.n40; simpa [relaxT] using this, fun o ho => ?_⟩
  simp only [relaxT, List.mem_map] at ho
  obtain ⟨q, hq, rfl⟩ := ho
  obtain ⟨p1, p2, p3, p4⟩ := op_sets hw hq
  refine ⟨?_, (hw.ops q hq).2⟩
  simp only [opOk, relaxO, Bool.and_eq_true]
  exact ⟨⟨⟨p1, p2⟩, by rw [isSet_iff]; simp⟩, by rw [disB_iff]; simp⟩
theorem relax_ends {t : Task} (h0 : 0 ≤ t.facts) : ∀ (plan : List Nat) (s s' e : List Int), (∀ p ∈ s, p ∈ s') → endsT t s plan = some e → ∃ e', endsT (relaxT t) s' plan = some e' ∧ ∀ p ∈ e, p ∈ e'
  | [], s, s', e, hs, he => by simp only [endsT, Option.some.injEq] at he; subst he; exact ⟨s', rfl, hs⟩
  | j :: r, s, s', e, hs, he => by
    obtain ⟨o, h1, h2, h3⟩ := ends_cons.1 he
    rw [subB_iff] at h2
    obtain ⟨e', h4, h5⟩ := relax_ends h0 r (aft t.facts s o) (aft t.facts s' (relaxO o)) e (fun p hp => by
      rw [aft_mem] at hp ⊢
      refine ⟨hp.1, ?_⟩
      rcases hp.2 with h | ⟨h, _⟩
      · exact .inl h
      · exact .inr ⟨hs p h, by simp [relaxO]⟩) h3
    exact ⟨e', ends_cons.2 ⟨relaxO o, by rw [relax_get, h1]; rfl, by rw [subB_iff]; exact fun x hx => hs x (h2 x hx), h4⟩, h5⟩
theorem relax_works {t : Task} (h0 : 0 ≤ t.facts) {s : List Int} {plan : List Nat} (h : WorksT t s plan) : WorksT (relaxT t) s plan := by
  obtain ⟨e, he, hg⟩ := h
  obtain ⟨e', h1, h2⟩ := relax_ends h0 plan s s e (fun _ h => h) he
  refine ⟨e', h1, ?_⟩
  rw [subB_iff] at hg
  show subB t.goal e' = true
  rw [subB_iff]
  exact fun x hx => h2 x (hg x hx)
/-! other costs -/
theorem scale_get (t : Task) (b : Int) (j : Nat) : (scaleT t b).ops[j]? = t.ops[j]?.map (scaleO b) := by simp [scaleT]
theorem scale_ends (t : Task) (b : Int) : ∀ (plan : List Nat) (s : List Int), endsT (scaleT t b) s plan = endsT t s plan
  | [], s => rfl
  | j :: r, s => by
    rw [endsT, endsT, scale_get]
    cases t.ops[j]? with
    | none => rfl
    | some o =>
      simp only [Option.map_some]
      rw [scale_ends t b r]
      rfl
theorem scale_works (t : Task) (b : Int) (s : List Int) (plan : List Nat) : WorksT (scaleT t b) s plan ↔ WorksT t s plan := by
  unfold WorksT; rw [scale_ends]; rfl
theorem scale_cost (t : Task) (b : Int) : ∀ (plan : List Nat), costT (scaleT t b) plan = b * costT t plan
  | [] => by simp [costT]
  | j :: r => by
    rw [costT, costT, scale_get, scale_cost t b r, Int.mul_add]
    cases t.ops[j]? with
    | none => simp
    | some o => simp [scaleO, Int.mul_comm]
theorem scale_wf {t : Task} (hw : WfT t) {b : Int} (hb : 0 ≤ b) (hc : ∀ o ∈ t.ops, o.cost * b ≤ 100) : WfT (scaleT t b) := by
  refine ⟨hw.f0, hw.f1, hw.init, hw.goal, by have := hw.n40; simpa [scaleT] using this, fun o ho => ?_⟩
  simp only [scaleT, List.mem_map] at ho
  obtain ⟨q, hq, rfl⟩ := ho
  have h := hw.ops q hq
  exact ⟨h.1, Int.mul_nonneg h.2.1 hb, hc q hq⟩
/-! two tasks side by side -/
end Go.Proofs.Ythndlimdehfneaa
