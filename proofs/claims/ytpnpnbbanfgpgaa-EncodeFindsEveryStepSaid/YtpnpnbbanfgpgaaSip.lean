import Derived.Test.YtpnpnbbanfgpgaaSio



namespace Go.Proofs.Ytpnpnbbanfgpgaa
open Go.Ab
open Go
set_option linter.unusedSimpArgs false
set_option linter.unusedVariables false
set_option maxRecDepth 10000
/-! the multi-valued task is valid -/
def AscL (m : MTask) : Nat → List (Int × Int) → Prop
  | _, [] => True
  | lo, a :: r => (lo : Int) ≤ a.1 ∧ a.1 < m.sizes.length ∧ 0 ≤ a.2 ∧ a.2 < m.sizes[a.1.toNat]! ∧ AscL m (a.1.toNat + 1) r
theorem asc_mono {m : MTask} {lo lo' : Nat} (h : lo' ≤ lo) : ∀ {l : List (Int × Int)}, AscL m lo l → AscL m lo' l
  | [], _ => trivial
  | a :: r, ⟨h1, h2⟩ => ⟨by omega, h2⟩
theorem asc_at {m : MTask} : ∀ {l : List (Int × Int)} {lo : Nat}, AscL m lo l → (∀ i, i < l.length → asAt m l i) ∧ (0 < l.length → (lo : Int) ≤ l[0]!.1)
  | [], lo, _ => ⟨fun i hi => by simp at hi, by simp⟩
  | a :: r, lo, ⟨h1, h2, h3, h4, h5⟩ => by
    obtain ⟨h6, h7⟩ := asc_at h5
    refine ⟨fun i hi => ?_, fun _ => by simpa using h1⟩
    cases i with
    | zero =>
      unfold asAt
      simp only [List.getElem!_cons_zero]
      exact ⟨by omega, h2, h3, h4, by omega⟩
    | succ i =>
      have h8 := h6 i (by simpa using hi)
      unfold asAt at h8 ⊢
      simp only [List.getElem!_cons_succ]
      refine ⟨h8.1, h8.2.1, h8.2.2.1, h8.2.2.2.1, fun _ => ?_⟩
      cases i with
      | zero =>
        have := h7 (by simpa using hi)
        simp only [Nat.zero_add, Nat.sub_self, List.getElem!_cons_zero]
        omega
      | succ i =>
        have := h8.2.2.2.2 (by omega)
        rw [show i + 1 + 1 - 1 = i + 1 from rfl, List.getElem!_cons_succ]
        exact this
theorem asc_asB {m : MTask} {lo : Nat} {l : List (Int × Int)} (h : AscL m lo l) : asB m l = true := asB_iff.2 (asc_at h).1
/-- The preconditions of a choice, as a list. -/
def preT : Nat → List Int → List (Int × Int)
  | v, x :: xs => (if 0 ≤ x then [((v : Int), x)] else []) ++ preT (v + 1) xs
  | _, [] => []
theorem steps_preL {y} : ∀ {cs : List (List Int)} {v : Nat} {xs : List Int} {p : MOp}, xs.length = cs.length → (stepsM y cs v xs p).pre = p.pre ++ preT v xs
  | [], _, xs, p, h => by
    have : xs = [] := by simpa using h
    subst this
    simp [stepsM, preT]
  | c :: r, v, [], p, h => by simp at h
  | c :: r, v, x :: xs, p, h => by
    rw [stepsM, steps_preL (cs := r) (by simpa using h), preT]
    unfold stepM
    rw [List.append_assoc]
theorem pre_asc {m : MTask} : ∀ {xs : List Int} {v : Nat}, v + xs.length ≤ m.sizes.length → (∀ i (hi : i < xs.length), 0 ≤ xs[i] → xs[i] < m.sizes[v + i]!) → AscL m v (preT v xs)
  | [], _, _, _ => trivial
  | x :: xs, v, hl, h => by
    have ih := pre_asc (m := m) (xs := xs) (v := v + 1) (by simp at hl; omega) fun i hi h0 => by
      have := h (i + 1) (by simpa using hi) (by simpa using h0)
      rw [show v + 1 + i = v + (i + 1) by omega]
      simpa using this
    rw [preT]
    by_cases h0 : 0 ≤ x
    · rw [if_pos h0]
      have hx := h 0 (by simp) (by simpa using h0)
      simp only [List.getElem_cons_zero, Nat.add_zero] at hx
      exact ⟨Int.le_refl _, by simp at hl; show (v : Int) < _; omega, h0, by simpa using hx, by simpa using ih⟩
    · rw [if_neg h0]
      exact asc_mono (by omega) ih
theorem post_asc {m : MTask} {y : List Int → Int → Int} : ∀ {cs : List (List Int)} {xs : List Int} {v : Nat}, xs.length = cs.length → v + xs.length ≤ m.sizes.length → (∀ i (hi : i < cs.length) (hx : i < xs.length), y cs[i] xs[i] ≠ xs[i] → 0 ≤ y cs[i] xs[i] ∧ y cs[i] xs[i] < m.sizes[v + i]!) → AscL m v (postT y cs v xs)
  | [], xs, _, _, _, _ => by simp [postT, AscL]
  | c :: r, [], v, h, _, _ => by simp at h
  | c :: r, x :: xs, v, hl, hs, h => by
    have ih := post_asc (m := m) (y := y) (cs := r) (xs := xs) (v := v + 1) (by simpa using hl) (by simp at hs; omega) fun i hi hx hne => by
      have := h (i + 1) (by simpa using hi) (by simpa using hx) (by simpa using hne)
      rw [show v + 1 + i = v + (i + 1) by omega]
      simpa using this
    rw [postT]
    by_cases h0 : y c x = x
    · rw [if_pos h0]
      exact asc_mono (by omega) ih
    · rw [if_neg h0]
      have hx := h 0 (by simp) (by simp) (by simpa using h0)
      simp only [List.getElem_cons_zero, Nat.add_zero] at hx
      exact ⟨Int.le_refl _, by simp at hs; show (v : Int) < _; omega, hx.1, by simpa using hx.2, by simpa using ih⟩
theorem goal_asc {m : MTask} {cs : List (List Int)} {g : List Int} (hs : m.sizes = sizesM cs) : ∀ {k : Nat}, k ≤ cs.length → asB m (goalK cs g k) = true ∧ ∀ a ∈ goalK cs g k, a.1 < k
  | 0, _ => ⟨by rw [goalK]; exact asB_iff.2 (by simp), by simp [goalK]⟩
  | k + 1, hk => by
    obtain ⟨ih, ih2⟩ := goal_asc (g := g) hs (k := k) (by omega)
    by_cases h : 0 < cntIn cs[k]! g
    · have e : goalK cs g (k + 1) = goalK cs g k ++ [((k : Int), (valF cs[k]! g : Int))] := by rw [goalK, if_pos h]
      rw [e]
      refine ⟨asB_iff.2 fun i hi => ?_, fun a ha => ?_⟩
      · rw [List.length_append] at hi
        rcases Nat.lt_or_ge i (goalK cs g k).length with hlt | hge
        · have := asB_iff.1 ih i hlt
          unfold asAt at this ⊢
          have g1 : ∀ j, j < (goalK cs g k).length → (goalK cs g k ++ [((k : Int), (valF cs[k]! g : Int))])[j]! = (goalK cs g k)[j]! := fun j hj => by
            rw [getElem!_pos _ j (by rw [List.length_append]; omega), getElem!_pos _ j hj, List.getElem_append_left hj]
          rw [g1 i hlt]
          refine ⟨this.1, this.2.1, this.2.2.1, this.2.2.2.1, fun h0 => ?_⟩
          rw [g1 (i - 1) (by omega)]
          exact this.2.2.2.2 h0
        · obtain rfl : i = (goalK cs g k).length := by simp at hi; omega
          have hv := valF_le cs[k]! g
          have hsz : m.sizes[k]! = (cs[k]!.length : Int) + 1 := by
            rw [hs, getElem!_pos _ k (by rw [sizesM_len]; omega), getElem!_pos cs k (by omega)]
            simp [sizesM]
          unfold asAt
          rw [getElem!_pos _ _ (by rw [List.length_append]; simp), List.getElem_append_right (Nat.le_refl _)]
          simp only [Nat.sub_self, List.getElem_cons_zero, Int.toNat_natCast]
          refine ⟨by omega, by rw [hs, sizesM_len]; omega, by omega, by rw [hsz]; omega, fun h0 => ?_⟩
          rw [getElem!_pos _ _ (by rw [List.length_append]; omega), List.getElem_append_left (by omega)]
          exact ih2 _ (List.getElem_mem _)
      · rw [List.mem_append] at ha
        rcases ha with ha | ha
        · have := ih2 a ha; omega
        · simp only [List.mem_singleton] at ha
          subst ha
          show (k : Int) < _
          omega
    · have e : goalK cs g (k + 1) = goalK cs g k := by rw [goalK, if_neg h, List.append_nil]
      rw [e]
      exact ⟨ih, fun a ha => by have := ih2 a ha; omega⟩
theorem guess_bd {o : Op} {c : List Int} {x : Int} (h : x ∈ guesses o c) : x ≤ c.length := by
  unfold guesses at h
  have hv := valF_le c o.pre
  split at h
  · simp at h; omega
  · split at h
    · simp at h; omega
    · unfold rangeL at h
      rw [List.mem_map] at h
      obtain ⟨k, hk, rfl⟩ := h
      rw [List.mem_range] at hk
      omega
theorem postF_bd {o : Op} {c : List Int} {x : Int} (h : postF o c x ≠ x) : 0 ≤ postF o c x ∧ postF o c x ≤ c.length := by
  unfold postF at h ⊢
  have hv := valF_le c o.add
  split
  · omega
  · rename_i hn
    rw [if_neg hn] at h
    unfold goneK at h ⊢
    split
    · omega
    · rename_i h2
      rw [if_neg h2] at h
      exact absurd rfl h
theorem task_valid {t : Task} {ls : List (List Int)} (h : groupsFault t ls = (0, 0)) (hb : ¬ badC (coverT t.facts.toNat ls)) (h40 : (pairsK t (coverT t.facts.toNat ls) t.ops.length).length ≤ 40) : MValid (taskM t (coverT t.facts.toNat ls)) := by
  obtain ⟨hw, _, _⟩ := gf_ok h
  generalize coverT t.facts.toNat ls = cs at *
  have h5 : ∀ c ∈ cs, c.length ≤ 5 := fun c hc => by
    rcases Nat.lt_or_ge 5 c.length with h' | h'
    · exact absurd (.inr (.inr ⟨c, hc, by omega⟩)) hb
    · exact h'
  have hl8 : cs.length ≤ 8 := by
    rcases Nat.lt_or_ge 8 cs.length with h' | h'
    · exact absurd (.inr (.inl h')) hb
    · exact h'
  have hl0 : cs.length ≠ 0 := fun h' => hb (.inl h')
  have hsz : ∀ i (hi : i < cs.length), (taskM t cs).sizes[i]! = (cs[i].length : Int) + 1 := fun i hi => by
    show (sizesM cs)[i]! = _
    rw [getElem!_pos _ i (by rw [sizesM_len]; exact hi)]
    simp [sizesM]
  have hsl : (taskM t cs).sizes.length = cs.length := sizesM_len cs
  refine ⟨by rw [hsl]; exact hl0, by rw [hsl]; exact hl8, fun n hn => ?_, stB_iff.2 ⟨by rw [hsl]; exact valsF_len cs _, fun i hi => ?_⟩, (goal_asc rfl (Nat.le_refl _)).1, by simp [taskM]; exact h40, fun o ho => ?_⟩
  · have hn2 : n ∈ sizesM cs := hn
    unfold sizesM at hn2
    rw [List.mem_map] at hn2
    obtain ⟨c, hc, rfl⟩ := hn2
    have := h5 c hc
    omega
  · have hi2 : i < cs.length := by rw [show (taskM t cs).init.length = cs.length from valsF_len cs _] at hi; exact hi
    rw [hsz i hi2, show (taskM t cs).init[i]! = (valF cs[i] t.init : Int) from valsF_get hi2]
    have := valF_le cs[i] t.init
    omega
  · have ho2 : o ∈ (pairsK t cs t.ops.length).map Prod.fst := ho
    rw [List.mem_map] at ho2
    obtain ⟨pr, hpr, rfl⟩ := ho2
    obtain ⟨i, hi, h2, h3, xs, h4, h6⟩ := pair_spec h40 pr hpr
    rw [getElem!_pos t.ops i hi] at h3 h4 h6
    have hxl := choice_len h4
    have hat := choice_at h4
    have hcost := (hw.ops _ (List.getElem_mem hi)).2
    rw [h6]
    refine ⟨?_, ?_, by rw [steps_cost]; exact hcost.1, by rw [steps_cost]; exact hcost.2⟩
    · rw [steps_preL hxl, List.nil_append]
      refine asc_asB (pre_asc (by rw [hsl]; omega) fun j hj h0 => ?_)
      rw [Nat.zero_add, hsz j (by omega)]
      have := guess_bd (hat j (by omega) hj)
      omega
    · rw [steps_post, List.nil_append]
      refine asc_asB (post_asc hxl (by rw [hsl]; omega) fun j hj hx hne => ?_)
      rw [Nat.zero_add, hsz j hj]
      have := postF_bd hne
      omega
end Go.Proofs.Ytpnpnbbanfgpgaa
