import Derived.Test.YtpnpnbbanfgpgaaEnc
import Derived.Test.YtpnpnbbanfgpgaaMvn
import Derived.Test.YtpnpnbbanfgpgaaKep




namespace Go.Proofs.Ytpnpnbbanfgpgaa
open Go.Ab
open Go
set_option linter.unusedSimpArgs false
set_option linter.unusedVariables false
set_option maxRecDepth 10000
/-- What holds in all states that are reached. -/
def InvG (t : Task) (ls : List (List Int)) (s : List Int) : Prop := isSet s t.facts = true ∧ ∀ l ∈ ls, cntIn l s ≤ 1
theorem inv_init {t : Task} {ls : List (List Int)} (h : groupsFault t ls = (0, 0)) : InvG t ls t.init := by
  obtain ⟨hw, _, hl⟩ := gf_ok h
  refine ⟨hw.init, fun l hm => ?_⟩
  obtain ⟨h1, h2⟩ := hl l hm
  unfold groupB at h2
  have h3 : (capB t.init l).length ≤ 1 := by simp_all
  rw [cnt_comm (set_nodup (isSet_iff.1 hw.init).2) (set_nodup (isSet_iff.1 h1).2)] at h3
  unfold cntIn; omega
theorem inv_next {t : Task} {ls : List (List Int)} {s : List Int} {o : Op} (h : groupsFault t ls = (0, 0)) (ho : o ∈ t.ops) (hi : InvG t ls s) (hpre : ∀ x ∈ o.pre, x ∈ s) : InvG t ls (aft t.facts s o) := by
  obtain ⟨hw, _, hl⟩ := gf_ok h
  refine ⟨aft_set hw.f0 s o, fun l hm => ?_⟩
  obtain ⟨h1, h2⟩ := hl l hm
  unfold groupB at h2
  rw [Bool.and_eq_true, List.all_eq_true] at h2
  obtain ⟨_, s2, _, _⟩ := opOk_sets (hw.ops o ho).1
  exact keep_one (h2.2 o ho) h1 (set_nodup (isSet_iff.1 s2).2) hpre (hi.2 l hm)
theorem inv_free {t : Task} {ls : List (List Int)} {s : List Int} (hi : InvG t ls s) : crowdB (coverT t.facts.toNat ls) s = false := cover_cnt hi.2
/-! all versions, without a cut -/
def fullM (vs : List Int → List Int) (y : List Int → Int → Int) : List (List Int) → Nat → List MOp → List MOp
  | [], _, out => out
  | c :: r, v, out => fullM vs y r (v + 1) (nextM (vs c) (y c) v out)
theorem verM_full {vs y} : ∀ {cs : List (List Int)} {v : Nat} {out : List MOp}, (verM vs y cs v out).length ≤ 40 → verM vs y cs v out = fullM vs y cs v out
  | [], _, _, _ => rfl
  | c :: r, v, out, h => by
    rw [verM] at h ⊢
    by_cases h40 : 40 < out.length
    · rw [if_pos h40] at h; omega
    · rw [if_neg h40] at h ⊢
      rw [fullM]
      exact verM_full h
/-- A choice of values, one for each class. -/
def Choice (vs : List Int → List Int) : List (List Int) → List Int → Prop
  | [], [] => True
  | c :: r, x :: xs => x ∈ vs c ∧ Choice vs r xs
  | _, _ => False
def stepsM (y : List Int → Int → Int) : List (List Int) → Nat → List Int → MOp → MOp
  | c :: r, v, x :: xs, p => stepsM y r (v + 1) xs (stepM v (y c) p x)
  | _, _, _, p => p
theorem mem_full {vs y} {q : MOp} : ∀ {cs : List (List Int)} {v : Nat} {out : List MOp}, q ∈ fullM vs y cs v out ↔ ∃ p ∈ out, ∃ xs, Choice vs cs xs ∧ q = stepsM y cs v xs p
  | [], v, out => by
    rw [fullM]
    constructor
    · intro h; exact ⟨q, h, [], trivial, rfl⟩
    · rintro ⟨p, hp, xs, hc, rfl⟩
      cases xs with
      | nil => exact hp
      | cons => exact hc.elim
  | c :: r, v, out => by
    rw [fullM, mem_full (cs := r)]
    constructor
    · rintro ⟨p, hp, xs, hc, rfl⟩
      unfold nextM at hp
      rw [List.mem_flatMap] at hp
      obtain ⟨p0, hp0, hp⟩ := hp
      rw [List.mem_map] at hp
      obtain ⟨x, hx, rfl⟩ := hp
      exact ⟨p0, hp0, x :: xs, ⟨hx, hc⟩, rfl⟩
    · rintro ⟨p, hp, xs, hc, rfl⟩
      cases xs with
      | nil => exact hc.elim
      | cons x xs =>
        refine ⟨stepM v (y c) p x, ?_, xs, hc.2, rfl⟩
        unfold nextM
        rw [List.mem_flatMap]
        exact ⟨p, hp, List.mem_map.2 ⟨x, hc.1, rfl⟩⟩
theorem choice_len {vs} : ∀ {cs : List (List Int)} {xs : List Int}, Choice vs cs xs → xs.length = cs.length
  | [], [], _ => rfl
  | _ :: _, _ :: _, h => by rw [List.length_cons, List.length_cons, choice_len h.2]
  | [], _ :: _, h => h.elim
  | _ :: _, [], h => h.elim
theorem choice_at {vs} : ∀ {cs : List (List Int)} {xs : List Int}, Choice vs cs xs → ∀ i (hi : i < cs.length) (hx : i < xs.length), xs[i] ∈ vs cs[i]
  | c :: r, x :: xs, h, 0, _, _ => h.1
  | c :: r, x :: xs, h, i + 1, hi, hx => choice_at h.2 i (by simpa using hi) (by simpa using hx)
  | [], _, _, i, hi, _ => by simp at hi
theorem steps_cost {y} : ∀ {cs : List (List Int)} {v : Nat} {xs : List Int} {p : MOp}, (stepsM y cs v xs p).cost = p.cost
  | [], _, _, _ => by simp [stepsM]
  | _ :: _, _, [], _ => by simp [stepsM]
  | c :: r, v, x :: xs, p => by rw [stepsM, steps_cost]; rfl
/-- The preconditions of a choice. -/
theorem steps_pre {y} {σ : List Int} : ∀ {cs : List (List Int)} {v : Nat} {xs : List Int} {p : MOp}, xs.length = cs.length → (holdsM σ (stepsM y cs v xs p).pre = true ↔ holdsM σ p.pre = true ∧ ∀ i (hi : i < xs.length), 0 ≤ xs[i] → σ[v + i]! = xs[i])
  | [], _, xs, p, h => by
    have : xs = [] := by simpa using h
    subst this
    simp [stepsM]
  | c :: r, v, [], p, h => by simp at h
  | c :: r, v, x :: xs, p, h => by
    rw [stepsM, steps_pre (cs := r) (by simpa using h)]
    have hs : holdsM σ (stepM v (y c) p x).pre = true ↔ holdsM σ p.pre = true ∧ (0 ≤ x → σ[v]! = x) := by
      unfold stepM holdsM
      rw [List.all_append, Bool.and_eq_true]
      by_cases h0 : 0 ≤ x
      · simp [h0]
      · simp [h0]
    rw [hs]
    constructor
    · rintro ⟨⟨h1, h2⟩, h3⟩
      refine ⟨h1, fun i hi => ?_⟩
      cases i with
      | zero => simpa using h2
      | succ i => 
        have := h3 i (by simpa using hi)
        rw [show v + (i + 1) = v + 1 + i by omega]
        simpa using this
    · rintro ⟨h1, h2⟩
      refine ⟨⟨h1, fun hx => by have := h2 0 (by simp) hx; simpa using this⟩, fun i hi => ?_⟩
      have := h2 (i + 1) (by simpa using hi)
      rw [show v + (i + 1) = v + 1 + i by omega] at this
      simpa using this
/-- The effects of a choice. -/
def postT (y : List Int → Int → Int) : List (List Int) → Nat → List Int → List (Int × Int)
  | c :: r, v, x :: xs => (if y c x = x then [] else [((v : Int), y c x)]) ++ postT y r (v + 1) xs
  | _, _, _ => []
theorem steps_post {y} : ∀ {cs : List (List Int)} {v : Nat} {xs : List Int} {p : MOp}, (stepsM y cs v xs p).post = p.post ++ postT y cs v xs
  | [], _, _, _ => by simp [stepsM, postT]
  | _ :: _, _, [], _ => by simp [stepsM, postT]
  | c :: r, v, x :: xs, p => by
    rw [stepsM, steps_post, postT]
    unfold stepM
    rw [List.append_assoc]
theorem applyM_app (σ : List Int) (a b : List (Int × Int)) : applyM σ (a ++ b) = applyM (applyM σ a) b := by unfold applyM; rw [List.foldl_append]
theorem get_set (σ : List Int) (i j : Nat) (x : Int) (hj : j < σ.length) : (σ.set i x)[j]! = if i = j then x else σ[j]! := by
  rw [getElem!_pos _ j (by simpa using hj), getElem!_pos σ j hj, List.getElem_set]
theorem apply_get {y} : ∀ {cs : List (List Int)} {v : Nat} {xs : List Int} {σ : List Int} {j : Nat}, xs.length = cs.length → j < σ.length → (applyM σ (postT y cs v xs))[j]! = if v ≤ j ∧ j - v < cs.length then (if y cs[j - v]! xs[j - v]! = xs[j - v]! then σ[j]! else y cs[j - v]! xs[j - v]!) else σ[j]!
  | [], v, xs, σ, j, _, _ => by simp [postT, applyM]
  | c :: r, v, [], σ, j, h, _ => by simp at h
  | c :: r, v, x :: xs, σ, j, h, hj => by
    have hl : xs.length = r.length := by simpa using h
    rw [postT, applyM_app, apply_get (cs := r) hl (by rw [applyM_len]; exact hj)]
    have h1 : (applyM σ (if y c x = x then [] else [((v : Int), y c x)]))[j]! = if v = j ∧ ¬ y c x = x then y c x else σ[j]! := by
      by_cases hy : y c x = x
      · simp [hy, applyM]
      · rw [if_neg hy]
        show (σ.set ((v : Int).toNat) (y c x))[j]! = _
        rw [get_set _ _ _ _ hj]
        simp [hy]
    rw [h1]
    by_cases hv : v = j
    · subst hv
      rw [if_neg (by omega), if_pos (show v ≤ v ∧ v - v < (c :: r).length from ⟨by omega, by simp⟩)]
      simp only [Nat.sub_self, List.getElem!_cons_zero]
      by_cases hy : y c x = x
      · simp [hy]
      · simp [hy]
    · rw [if_neg (show ¬ (v = j ∧ ¬ y c x = x) by omega)]
      by_cases hlt : v < j
      · obtain ⟨d, rfl⟩ : ∃ d, j = v + 1 + d := ⟨j - (v + 1), by omega⟩
        rw [show v + 1 + d - (v + 1) = d by omega, show v + 1 + d - v = d + 1 by omega]
        simp only [List.getElem!_cons_succ, List.length_cons]
        by_cases hd : d < r.length
        · rw [if_pos (show v + 1 ≤ v + 1 + d ∧ d < r.length by omega), if_pos (show v ≤ v + 1 + d ∧ d + 1 < r.length + 1 by omega)]
        · rw [if_neg (show ¬ (v + 1 ≤ v + 1 + d ∧ d < r.length) by omega), if_neg (show ¬ (v ≤ v + 1 + d ∧ d + 1 < r.length + 1) by omega)]
      · rw [if_neg (show ¬ (v + 1 ≤ j ∧ j - (v + 1) < r.length) by omega), if_neg (show ¬ (v ≤ j ∧ j - v < (c :: r).length) by omega)]
/-! the value of a class -/
theorem hasB_m {s : List Int} {q : Int} : hasB s q = true ↔ q ∈ s := by rw [hasB_t]
theorem valF_at {c s : List Int} (h : valF c s < c.length) : c[valF c s] ∈ s := by
  have := List.findIdx_getElem (xs := c) (p := hasB s) (w := h)
  exact hasB_m.1 this
theorem valF_none {c s : List Int} (h : ∀ q ∈ c, ¬ q ∈ s) : valF c s = c.length := by
  unfold valF
  rw [List.findIdx_eq_length]
  intro q hq
  have := h q hq
  rw [Bool.eq_false_iff]
  intro hb
  exact this (hasB_m.1 hb)
theorem valF_le (c s : List Int) : valF c s ≤ c.length := List.findIdx_le_length
theorem valF_of {c s : List Int} (hc : c.Nodup) (h1 : cntIn c s ≤ 1) {i : Nat} (hi : i < c.length) (hm : c[i] ∈ s) : valF c s = i := by
  have hlt : valF c s < c.length := by
    unfold valF
    rw [List.findIdx_lt_length]
    exact ⟨c[i], List.getElem_mem hi, hasB_m.2 hm⟩
  have he := (cnt_one hc).1 h1 _ (List.getElem_mem hlt) (valF_at hlt) _ (List.getElem_mem hi) hm
  exact (List.getElem_inj hc).1 he
theorem valF_congr {c s s' : List Int} (h : ∀ q ∈ c, q ∈ s ↔ q ∈ s') : valF c s = valF c s' := by
  by_cases hlt : valF c s < c.length
  · unfold valF at hlt ⊢
    symm
    rw [List.findIdx_eq (by exact hlt)]
    refine ⟨?_, fun j hj => ?_⟩
    · have := List.findIdx_getElem (xs := c) (p := hasB s) (w := hlt)
      exact hasB_m.2 ((h _ (List.getElem_mem hlt)).1 (hasB_m.1 this))
    · have := List.not_of_lt_findIdx hj
      rw [Bool.eq_false_iff] at this ⊢
      intro hb
      exact this (hasB_m.2 ((h _ (List.getElem_mem (by omega))).2 (hasB_m.1 hb)))
  · have hl : valF c s = c.length := by have := valF_le c s; omega
    have hno : ∀ q ∈ c, ¬ q ∈ s := fun q hq hs => by
      unfold valF at hl
      rw [List.findIdx_eq_length] at hl
      have := hl q hq
      rw [hasB_m.2 hs] at this; cases this
    rw [hl, valF_none fun q hq hs => hno q hq ((h q hq).2 hs)]
theorem cnt_pos {c s : List Int} : 0 < cntIn c s ↔ ∃ q ∈ c, q ∈ s := by
  unfold cntIn
  constructor
  · intro h
    obtain ⟨q, hq⟩ := List.exists_mem_of_length_pos (l := capB c s) (by omega)
    exact ⟨q, (mem_capB.1 hq).1, (mem_capB.1 hq).2⟩
  · rintro ⟨q, h1, h2⟩
    have := List.length_pos_of_mem (mem_capB.2 ⟨h1, h2⟩)
    omega
theorem cnt_zero {c s : List Int} (h : ¬ 0 < cntIn c s) : ∀ q ∈ c, ¬ q ∈ s := fun q h1 h2 => h (cnt_pos.2 ⟨q, h1, h2⟩)
/-- What an operator does to a class, told by the choice. -/
theorem class_step {n : Int} {c s : List Int} {o : Op} {x : Int} (hc : isSet c n = true) (ha : cntIn c o.add ≤ 1) (hp : cntIn c o.pre ≤ 1) (h1 : cntIn c s ≤ 1) (h1' : cntIn c (aft n s o) ≤ 1) (hpre : ∀ q ∈ o.pre, q ∈ s)
    (hx : x ∈ guesses o c) (hv : 0 ≤ x → (valF c s : Int) = x) : (valF c (aft n s o) : Int) = if postF o c x = x then (valF c s : Int) else postF o c x := by
  obtain ⟨hr, hpw⟩ := isSet_iff.1 hc
  have hcn := set_nodup hpw
  have hm := fun q (hq : q ∈ c) => mem_aft (n := n) (s := s) (o := o) (hr q hq).1 (hr q hq).2
  unfold postF
  by_cases hadd : 0 < cntIn c o.add
  · obtain ⟨q, hq, hqa⟩ := cnt_pos.1 hadd
    obtain ⟨i, hi, rfl⟩ := List.getElem_of_mem hq
    have e1 := valF_of hcn ha hi hqa
    have e2 := valF_of hcn h1' hi ((hm _ hq).2 (.inl hqa))
    rw [if_pos hadd, e1, e2]
    split
    · rename_i he
      rw [hv (by omega), he]
    · rfl
  · rw [if_neg hadd]
    have hna := cnt_zero hadd
    have hm2 : ∀ q ∈ c, q ∈ aft n s o ↔ q ∈ s ∧ ¬ q ∈ o.del := fun q hq => by
      rw [hm q hq]
      constructor
      · rintro (h | h)
        · exact absurd h (hna q hq)
        · exact h
      · exact .inr
    by_cases hg : goneK o c x = x
    · rw [if_pos hg]
      congr 1
      refine valF_congr fun q hq => ?_
      rw [hm2 q hq]
      constructor
      · exact fun h => h.1
      · intro hqs
        refine ⟨hqs, fun hqd => ?_⟩
        have hdel : 0 < cntIn c o.del := cnt_pos.2 ⟨q, hq, hqd⟩
        obtain ⟨i, hi, rfl⟩ := List.getElem_of_mem hq
        have e1 := valF_of hcn h1 hi hqs
        have hx0 : 0 ≤ x := by
          unfold guesses at hx
          split at hx
          · simp at hx; omega
          · split at hx
            · rename_i h2; rcases h2 with h2 | h2 <;> omega
            · unfold rangeL at hx
              rw [List.mem_map] at hx
              obtain ⟨k, _, rfl⟩ := hx
              omega
        have e2 := hv hx0
        have hxi : x = (i : Int) := by rw [← e2, e1]
        unfold goneK at hg
        rw [if_pos ⟨hx0, by omega, by rw [hxi, Int.toNat_natCast, getElem!_pos c i hi]; exact hasB_m.2 hqd⟩] at hg
        omega
    · rw [if_neg hg]
      unfold goneK at hg ⊢
      by_cases hcond : 0 ≤ x ∧ x < c.length ∧ hasB o.del c[x.toNat]! = true
      · rw [if_pos hcond]
        have e2 := hv hcond.1
        have hxl : x.toNat < c.length := by omega
        have hxv : valF c s = x.toNat := by omega
        rw [getElem!_pos c _ hxl] at hcond
        have hno : ∀ q ∈ c, ¬ q ∈ aft n s o := fun q hq hqs => by
          rw [hm2 q hq] at hqs
          obtain ⟨i, hi, rfl⟩ := List.getElem_of_mem hq
          have e3 := valF_of hcn h1 hi hqs.1
          have hix : i = x.toNat := by omega
          subst hix
          exact hqs.2 (hasB_m.1 hcond.2.2)
        rw [valF_none hno]
      · rw [if_neg hcond] at hg
        exact absurd rfl hg
/-- A choice that holds shows the preconditions. -/
theorem class_pre {c s : List Int} {o : Op} {x q : Int} (hc : c.Nodup) (hp : cntIn c o.pre ≤ 1) (hx : x ∈ guesses o c) (hv : 0 ≤ x → (valF c s : Int) = x) (hq : q ∈ c) (hqp : q ∈ o.pre) : q ∈ s := by
  have hpos : 0 < cntIn c o.pre := cnt_pos.2 ⟨q, hq, hqp⟩
  unfold guesses at hx
  rw [if_pos hpos] at hx
  simp at hx
  obtain ⟨i, hi, rfl⟩ := List.getElem_of_mem hq
  have e1 := valF_of hc hp hi hqp
  have e2 := hv (by omega)
  have e3 : valF c s = i := by omega
  have hlt : valF c s < c.length := by omega
  have := valF_at hlt
  simp only [e3] at this
  exact this
end Go.Proofs.Ytpnpnbbanfgpgaa
