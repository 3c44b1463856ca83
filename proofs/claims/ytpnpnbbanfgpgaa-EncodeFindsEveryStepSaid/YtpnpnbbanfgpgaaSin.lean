import Derived.Test.YtpnpnbbanfgpgaaSim



namespace Go.Proofs.Ytpnpnbbanfgpgaa
open Go.Ab
open Go
set_option linter.unusedSimpArgs false
set_option linter.unusedVariables false
set_option maxRecDepth 10000
/-! one operator of the multi-valued task -/
theorem simStep_flat {p : List (List Int) × List Int} {l : List Int} (h : p.1.flatten = p.2) : (covStep p l).1.flatten = (covStep p l).2 := by
  unfold covStep
  split
  · exact h
  · simp [h]
theorem simFold_flat : ∀ (m : List (List Int)) (p : List (List Int) × List Int), p.1.flatten = p.2 → (m.foldl covStep p).1.flatten = (m.foldl covStep p).2
  | [], _, h => h
  | l :: r, p, h => by rw [List.foldl_cons]; exact simFold_flat r _ (simStep_flat h)
theorem simFold_mem : ∀ (m : List (List Int)) (p : List (List Int) × List Int) (x : Int), x ∈ (m.foldl covStep p).2 ↔ x ∈ p.2 ∨ ∃ l ∈ m, x ∈ l
  | [], p, x => by simp
  | l :: r, p, x => by
    rw [List.foldl_cons, simFold_mem r _ x]
    have hs : x ∈ (covStep p l).2 ↔ x ∈ p.2 ∨ x ∈ l := by
      unfold covStep
      split
      · rename_i h0
        constructor
        · exact .inl
        · rintro (h | h)
          · exact h
          · by_cases hx : x ∈ p.2
            · exact hx
            · have : x ∈ notIn p.2 l := List.mem_filter.2 ⟨h, by simp [hasB, hx]⟩
              rw [h0] at this; cases this
      · rw [List.mem_append]
        unfold notIn
        rw [List.mem_filter]
        constructor
        · rintro (h | h)
          · exact .inl h
          · exact .inr h.1
        · rintro (h | h)
          · exact .inl h
          · by_cases hx : x ∈ p.2
            · exact .inl hx
            · exact .inr ⟨h, by simp [hasB, hx]⟩
    rw [hs]
    simp only [List.mem_cons, exists_eq_or_imp, or_assoc]
theorem cover_all {n : Nat} {ls : List (List Int)} {q : Int} (h0 : 0 ≤ q) (h1 : q < n) : ∃ c ∈ coverT n ls, q ∈ c := by
  have hf := simFold_flat (ls ++ singles n) ([], []) rfl
  have hm := (simFold_mem (ls ++ singles n) ([], []) q).2 (.inr ⟨[q], by
    rw [List.mem_append]
    refine .inr ?_
    unfold singles
    exact List.mem_map.2 ⟨q.toNat, by rw [List.mem_range]; omega, by simp; omega⟩, by simp⟩)
  rw [← hf, List.mem_flatten] at hm
  rw [coverT_app]
  obtain ⟨c, hc, hq⟩ := hm
  exact ⟨c, hc, hq⟩
theorem cover_isSet {t : Task} {ls : List (List Int)} (h : groupsFault t ls = (0, 0)) {c : List Int} (hc : c ∈ coverT t.facts.toNat ls) : isSet c t.facts = true := by
  obtain ⟨hw, _, hl⟩ := gf_ok h
  obtain ⟨x, hx, hsub⟩ := cover_sub c hc
  have hx' : isSet x t.facts = true := by
    rw [List.mem_append] at hx
    rcases hx with hx | hx
    · exact (hl x hx).1
    · unfold singles at hx
      rw [List.mem_map] at hx
      obtain ⟨p, hp, rfl⟩ := hx
      rw [List.mem_range] at hp
      rw [isSet_iff]
      exact ⟨fun y hy => by simp at hy; omega, List.pairwise_singleton _ _⟩
  rw [isSet_iff] at hx' ⊢
  exact ⟨fun y hy => hx'.1 y (hsub.subset hy), hx'.2.sublist hsub⟩
theorem valsF_get {cs : List (List Int)} {s : List Int} {i : Nat} (h : i < cs.length) : (valsF cs s)[i]! = (valF cs[i] s : Int) := by
  rw [getElem!_pos _ i (by rw [valsF_len]; exact h)]
  simp [valsF]
theorem op_step {t : Task} {ls : List (List Int)} {s xs : List Int} {o : Op} (h : groupsFault t ls = (0, 0)) (ho : o ∈ t.ops) (hi : InvG t ls s) (hok : opsOk (coverT t.facts.toNat ls) o = true) (hc : Choice (guesses o) (coverT t.facts.toNat ls) xs)
    (hh : holdsM (valsF (coverT t.facts.toNat ls) s) (stepsM (postF o) (coverT t.facts.toNat ls) 0 xs ⟨[], [], o.cost⟩).pre = true) :
    (∀ q ∈ o.pre, q ∈ s) ∧ applyM (valsF (coverT t.facts.toNat ls) s) (stepsM (postF o) (coverT t.facts.toNat ls) 0 xs ⟨[], [], o.cost⟩).post = valsF (coverT t.facts.toNat ls) (aft t.facts s o) := by
  obtain ⟨hw, _, _⟩ := gf_ok h
  have hset := fun c hc => cover_isSet h (c := c) hc
  have hall := fun q h0 h1 => cover_all (n := t.facts.toNat) (ls := ls) (q := q) h0 h1
  have hfree := inv_free hi
  have hnext := fun hpre => inv_free (inv_next h ho hi hpre)
  have h0 := hw.f0
  obtain ⟨s1, s2, s3, _⟩ := opOk_sets (hw.ops o ho).1
  generalize coverT t.facts.toNat ls = cs at *
  unfold opsOk at hok
  rw [Bool.and_eq_true, Bool.not_eq_true', Bool.not_eq_true'] at hok
  obtain ⟨hp, ha⟩ := hok
  have hxl := choice_len hc
  have hat := choice_at hc
  rw [steps_pre hxl] at hh
  have hv : ∀ i (hi : i < cs.length), 0 ≤ xs[i]'(by omega) → (valF cs[i] s : Int) = xs[i]'(by omega) := fun i hi h0 => by
    have := hh.2 i (by omega) h0
    rw [Nat.zero_add, valsF_get hi] at this
    exact this
  have hpre : ∀ q ∈ o.pre, q ∈ s := fun q hq => by
    obtain ⟨q0, q1⟩ := (isSet_iff.1 s1).1 q hq
    obtain ⟨c, hcm, hqc⟩ := hall q q0 (by omega)
    obtain ⟨i, hil, rfl⟩ := List.getElem_of_mem hcm
    exact class_pre (set_nodup (isSet_iff.1 (hset _ hcm)).2) (crowd_f.1 hp _ hcm) (hat i hil (by omega)) (hv i hil) hqc hq
  refine ⟨hpre, ?_⟩
  rw [steps_post]
  refine List.ext_getElem (by rw [List.nil_append, applyM_len, valsF_len, valsF_len]) fun i h1 h2 => ?_
  have hil : i < cs.length := by rw [valsF_len] at h2; exact h2
  have hcm := List.getElem_mem hil
  have e1 := apply_get (y := postF o) (cs := cs) (v := 0) (xs := xs) (σ := valsF cs s) (j := i) hxl (by rw [valsF_len]; exact hil)
  have e2 := class_step (x := xs[i]'(by omega)) (hset _ hcm) (crowd_f.1 ha _ hcm) (crowd_f.1 hp _ hcm) (crowd_f.1 hfree _ hcm) (crowd_f.1 (hnext hpre) _ hcm) hpre (hat i hil (by omega)) (hv i hil)
  rw [if_pos (show 0 ≤ i ∧ i - 0 < cs.length by omega), Nat.sub_zero, valsF_get hil, getElem!_pos cs i hil, getElem!_pos xs i (by omega), ← e2] at e1
  rw [← getElem!_pos _ i h1, ← getElem!_pos _ i h2, valsF_get hil, List.nil_append]
  exact e1
end Go.Proofs.Ytpnpnbbanfgpgaa
