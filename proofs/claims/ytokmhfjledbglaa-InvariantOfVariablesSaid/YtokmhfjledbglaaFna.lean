import Derived.Test.YtokmhfjledbglaaKep
import Derived.Test.YtokmhfjledbglaaAbi



namespace Go.Proofs.Ytokmhfjledbglaa
open Go.Ab
open Go
set_option linter.unusedSimpArgs false
set_option linter.unusedVariables false
set_option maxRecDepth 10000
/-! the largest groups, plain -/
theorem pw_ext {α : Type} {r : α → α → Prop} (has : ∀ a b, r a b → ¬ r b a) : ∀ {l m : List α}, l.Pairwise r → m.Pairwise r → (∀ x, x ∈ l ↔ x ∈ m) → l = m
  | [], [], _, _, _ => rfl
  | [], b :: m, _, _, h => by have := (h b).2 (by simp); cases this
  | a :: l, [], _, _, h => by have := (h a).1 (by simp); cases this
  | a :: l, b :: m, h1, h2, h => by
    rw [List.pairwise_cons] at h1 h2
    have irr : ∀ x, ¬ r x x := fun x hx => has x x hx hx
    have hab : a = b := by
      rcases List.mem_cons.1 ((h a).1 (by simp)) with e | e
      · exact e
      · rcases List.mem_cons.1 ((h b).2 (by simp)) with e' | e'
        · exact e'.symm
        · exact absurd (h1.1 b e') (has _ _ (h2.1 a e))
    subst hab
    rw [pw_ext has h1.2 h2.2 fun x => ⟨fun hx => ?_, fun hx => ?_⟩]
    · rcases List.mem_cons.1 ((h x).1 (by simp [hx])) with e | e
      · subst e; exact absurd (h1.1 _ hx) (irr _)
      · exact e
    · rcases List.mem_cons.1 ((h x).2 (by simp [hx])) with e | e
      · subst e; exact absurd (h2.1 _ hx) (irr _)
      · exact e
/-! words as sets -/
def setW (n w : Nat) : List Int := ((List.range n).filter fun p => w.testBit p).map fun (p : Nat) => (p : Int)
theorem mem_setW {n w : Nat} {x : Int} : x ∈ setW n w ↔ 0 ≤ x ∧ x < n ∧ w.testBit x.toNat = true := by
  unfold setW
  simp only [List.mem_map, List.mem_filter, List.mem_range]
  constructor
  · rintro ⟨p, ⟨h1, h2⟩, rfl⟩
    exact ⟨by omega, by omega, by simpa using h2⟩
  · rintro ⟨h1, h2, h3⟩
    exact ⟨x.toNat, ⟨by omega, h3⟩, by omega⟩
theorem setW_succ {n w : Nat} : setW (n + 1) w = setW n w ++ if w.testBit n then [(n : Int)] else [] := by
  unfold setW
  rw [List.range_succ, List.filter_append, List.map_append]
  congr 1
  cases h : w.testBit n <;> simp [h]
theorem setW_sorted {n w : Nat} : (setW n w).Pairwise (· < ·) := by
  unfold setW
  rw [List.pairwise_map]
  exact (List.Pairwise.filter _ List.pairwise_lt_range).imp fun h => by omega
theorem setW_len {n w : Nat} : (setW n w).length ≤ n := by
  unfold setW
  rw [List.length_map]
  have := List.length_filter_le (fun p => w.testBit p) (List.range n)
  simpa using this
theorem lt_asym (a b : Int) (h : a < b) : ¬ b < a := by omega
theorem setW_sub {n v w : Nat} (hw : w < 2 ^ n) : (∀ x ∈ setW n w, x ∈ setW n v) ↔ v &&& w = w := by
  constructor
  · intro h
    apply Nat.eq_of_testBit_eq
    intro i
    rw [Nat.testBit_and]
    cases hq : w.testBit i with
    | false => simp
    | true =>
      have hi : i < n := by
        rcases Nat.lt_or_ge i n with h | h
        · exact h
        · rw [Nat.testBit_lt_two_pow (Nat.lt_of_lt_of_le hw (Nat.pow_le_pow_right (by omega) h))] at hq; cases hq
      have := (mem_setW.1 (h i (mem_setW.2 ⟨by omega, by omega, by simpa using hq⟩))).2.2
      simpa using this
  · intro h x hx
    rw [mem_setW] at hx ⊢
    refine ⟨hx.1, hx.2.1, ?_⟩
    have h3 := hx.2.2
    rw [← h, Nat.testBit_and] at h3
    simp at h3
    exact h3.1
theorem setW_inj {n v w : Nat} (hv : v < 2 ^ n) (hw : w < 2 ^ n) (h : setW n v = setW n w) : v = w := by
  have h1 := (setW_sub (v := v) hw).1 fun x hx => by rw [h]; exact hx
  have h2 := (setW_sub (v := w) hv).1 fun x hx => by rw [← h]; exact hx
  rw [Nat.and_comm] at h2
  omega
def wordOf (p : Nat → Bool) : Nat → Nat
  | 0 => 0
  | n + 1 => 2 ^ n * (if p n then 1 else 0) + wordOf p n
theorem wordOf_lt {p : Nat → Bool} : ∀ n, wordOf p n < 2 ^ n
  | 0 => by simp [wordOf]
  | n + 1 => by
    have := wordOf_lt (p := p) n
    unfold wordOf
    rw [Nat.pow_succ]
    split <;> omega
theorem wordOf_bit {p : Nat → Bool} : ∀ {n i : Nat}, i < n → (wordOf p n).testBit i = p i
  | n + 1, i, hi => by
    unfold wordOf
    have hl := wordOf_lt (p := p) n
    cases hq : p n with
    | false =>
      simp only [Bool.false_eq_true, if_false, Nat.mul_zero, Nat.zero_add]
      by_cases h : i < n
      · exact wordOf_bit h
      · obtain rfl : i = n := by omega
        rw [hq, Nat.testBit_lt_two_pow hl]
    | true =>
      simp only [if_true, Nat.mul_one]
      by_cases h : i < n
      · rw [Nat.testBit_two_pow_add_gt h]; exact wordOf_bit h
      · obtain rfl : i = n := by omega
        rw [Nat.testBit_two_pow_add_eq, Nat.testBit_lt_two_pow hl, hq]; rfl
theorem setW_surj {n : Nat} {a : List Int} (hs : a.Pairwise (· < ·)) (hr : ∀ x ∈ a, 0 ≤ x ∧ x < n) : ∃ w, w < 2 ^ n ∧ setW n w = a := by
  refine ⟨wordOf (fun p => decide ((p : Int) ∈ a)) n, wordOf_lt n, pw_ext lt_asym setW_sorted hs fun x => ?_⟩
  rw [mem_setW]
  constructor
  · rintro ⟨h1, h2, h3⟩
    rw [wordOf_bit (by omega), decide_eq_true_eq] at h3
    rwa [show ((x.toNat : Nat) : Int) = x by omega] at h3
  · intro hx
    obtain ⟨h1, h2⟩ := hr x hx
    refine ⟨h1, h2, ?_⟩
    rw [wordOf_bit (by omega), decide_eq_true_eq]
    rwa [show ((x.toNat : Nat) : Int) = x by omega]
/-! the search over words -/
def foundK (good : Nat → Bool) (n : Nat) : Nat → List Nat
  | 0 => []
  | k + 1 => if good (2 ^ n - 1 - k) && !(foundK good n k).any (fun v => decide (v &&& (2 ^ n - 1 - k) = 2 ^ n - 1 - k)) then foundK good n k ++ [2 ^ n - 1 - k] else foundK good n k
def Best (good : Nat → Bool) (n w : Nat) : Prop := w < 2 ^ n ∧ good w = true ∧ ∀ v, w < v → v < 2 ^ n → good v = true → v &&& w ≠ w
theorem best_above {good : Nat → Bool} {n : Nat} : ∀ (d w : Nat), 2 ^ n - w ≤ d → w < 2 ^ n → good w = true → ∃ v, w ≤ v ∧ v &&& w = w ∧ Best good n v
  | 0, w, hd, hw, _ => by omega
  | d + 1, w, hd, hw, hg => by
    by_cases h : ∃ v, w < v ∧ v < 2 ^ n ∧ good v = true ∧ v &&& w = w
    · obtain ⟨v, h1, h2, h3, h4⟩ := h
      obtain ⟨u, k1, k2, k3⟩ := best_above d v (by omega) h2 h3
      refine ⟨u, by omega, ?_, k3⟩
      apply Nat.eq_of_testBit_eq
      intro i
      have e1 := congrArg (fun z => z.testBit i) h4
      have e2 := congrArg (fun z => z.testBit i) k2
      simp only [Nat.testBit_and] at e1 e2 ⊢
      cases hu : u.testBit i <;> cases hv : v.testBit i <;> cases hw : w.testBit i <;> simp_all
    · exact ⟨w, Nat.le_refl _, Nat.and_self _, hw, hg, fun v h1 h2 h3 h4 => h ⟨v, h1, h2, h3, h4⟩⟩
theorem mem_foundK {good : Nat → Bool} {n w : Nat} : ∀ {k}, k ≤ 2 ^ n → (w ∈ foundK good n k ↔ 2 ^ n ≤ w + k ∧ Best good n w)
  | 0, _ => by
    simp only [foundK, List.not_mem_nil, false_iff]
    rintro ⟨h1, h2, _⟩
    omega
  | k + 1, hk => by
    have ih := fun w => mem_foundK (good := good) (n := n) (w := w) (k := k) (by omega)
    generalize he : 2 ^ n - 1 - k = u
    have hb : (good u && !(foundK good n k).any (fun v => decide (v &&& u = u))) = true ↔ Best good n u := by
      rw [Bool.and_eq_true, Bool.not_eq_true', List.any_eq_false]
      constructor
      · rintro ⟨h1, h2⟩
        refine ⟨by omega, h1, fun v hv1 hv2 hv3 hv4 => ?_⟩
        obtain ⟨b, k1, k2, k3⟩ := best_above (good := good) (n := n) _ v (Nat.le_refl _) hv2 hv3
        have := h2 b ((ih b).2 ⟨by omega, k3⟩)
        apply this
        rw [decide_eq_true_eq]
        apply Nat.eq_of_testBit_eq
        intro i
        have e1 := congrArg (fun z => z.testBit i) hv4
        have e2 := congrArg (fun z => z.testBit i) k2
        simp only [Nat.testBit_and] at e1 e2 ⊢
        cases hu : b.testBit i <;> cases hv : v.testBit i <;> cases hw : u.testBit i <;> simp_all
      · rintro ⟨h1, h2, h3⟩
        refine ⟨h2, fun v hv => ?_⟩
        obtain ⟨hv1, hv2, hv3, _⟩ := (ih v).1 hv
        rw [decide_eq_true_eq]
        exact h3 v (by omega) hv2 hv3
    rw [foundK]
    simp only [he]
    by_cases hB : Best good n u
    · rw [if_pos (hb.2 hB), List.mem_append, ih, List.mem_singleton]
      constructor
      · rintro (⟨h1, h2⟩ | rfl)
        · exact ⟨by omega, h2⟩
        · exact ⟨by omega, hB⟩
      · rintro ⟨h1, h2⟩
        by_cases h : w = u
        · exact .inr h
        · exact .inl ⟨by omega, h2⟩
    · rw [if_neg (by rw [hb]; exact hB), ih]
      constructor
      · rintro ⟨h1, h2⟩; exact ⟨by omega, h2⟩
      · rintro ⟨h1, h2⟩
        refine ⟨?_, h2⟩
        rcases Nat.lt_or_ge (w + k) (2 ^ n) with h | h
        · obtain rfl : w = u := by omega
          exact absurd h2 hB
        · exact h
theorem foundK_pw {good : Nat → Bool} {n : Nat} : ∀ {k}, k ≤ 2 ^ n → (foundK good n k).Pairwise (· > ·)
  | 0, _ => List.Pairwise.nil
  | k + 1, hk => by
    have ih := foundK_pw (good := good) (n := n) (k := k) (by omega)
    rw [foundK]
    split
    · rw [List.pairwise_append]
      refine ⟨ih, by simp, fun a ha b hb => ?_⟩
      have := ((mem_foundK (by omega)).1 ha).1
      simp at hb
      omega
    · exact ih
theorem foundK_len {good : Nat → Bool} {n : Nat} : ∀ {k}, (foundK good n k).length ≤ k
  | 0 => by simp [foundK]
  | k + 1 => by
    have ih := foundK_len (good := good) (n := n) (k := k)
    rw [foundK]
    split
    · simp; omega
    · omega
/-! the order of lists -/
theorem cmpL_app : ∀ (h x y : List Int), cmpL (h ++ x) (h ++ y) = cmpL x y
  | [], _, _ => rfl
  | a :: h, x, y => by rw [List.cons_append, List.cons_append, cmpL, if_neg (by omega), if_neg (by omega), cmpL_app h]
/-! the subsets, in the reference's order -/
def subsL (head : List Int) (p : Nat) : Nat → List (List Int)
  | 0 => [head]
  | m + 1 => subsL (head ++ [(p : Int)]) (p + 1) m ++ subsL head (p + 1) m
theorem mem_subsL {a : List Int} : ∀ {m p : Nat} {head : List Int}, a ∈ subsL head p m ↔ ∃ b, a = head ++ b ∧ b.Pairwise (· < ·) ∧ ∀ x ∈ b, (p : Int) ≤ x ∧ x < p + m
  | 0, p, head => by
    rw [subsL, List.mem_singleton]
    constructor
    · rintro rfl; exact ⟨[], by simp⟩
    · rintro ⟨b, rfl, _, h⟩
      match b, h with
      | [], _ => simp
      | x :: r, h => have := h x (by simp); omega
  | m + 1, p, head => by
    rw [subsL, List.mem_append, mem_subsL, mem_subsL]
    constructor
    · rintro (⟨b, rfl, h1, h2⟩ | ⟨b, rfl, h1, h2⟩)
      · refine ⟨(p : Int) :: b, by simp, ?_, fun x hx => ?_⟩
        · rw [List.pairwise_cons]; exact ⟨fun x hx => by have := h2 x hx; omega, h1⟩
        · rcases List.mem_cons.1 hx with rfl | hx
          · omega
          · have := h2 x hx; omega
      · exact ⟨b, rfl, h1, fun x hx => by have := h2 x hx; omega⟩
    · rintro ⟨b, rfl, h1, h2⟩
      match b, h1, h2 with
      | [], _, _ => exact .inr ⟨[], by simp⟩
      | q :: r, h1, h2 =>
        have hq := h2 q (by simp)
        rw [List.pairwise_cons] at h1
        by_cases he : q = p
        · subst he
          refine .inl ⟨r, by simp, h1.2, fun x hx => ?_⟩
          have := h1.1 x hx
          have := h2 x (by simp [hx])
          omega
        · refine .inr ⟨q :: r, rfl, by rw [List.pairwise_cons]; exact h1, fun x hx => ?_⟩
          have := h2 x hx
          rcases List.mem_cons.1 hx with rfl | hx'
          · omega
          · have := h1.1 x hx'; omega
def Bef (a b : List Int) : Prop := cmpL a b < 0 ∨ ∃ c, a = b ++ c
theorem subsL_pw : ∀ {m p : Nat} {head : List Int}, (subsL head p m).Pairwise Bef
  | 0, _, _ => by simp [subsL]
  | m + 1, p, head => by
    rw [subsL, List.pairwise_append]
    refine ⟨subsL_pw, subsL_pw, fun a ha b hb => ?_⟩
    obtain ⟨x, rfl, _, _⟩ := mem_subsL.1 ha
    obtain ⟨y, rfl, _, h2⟩ := mem_subsL.1 hb
    match y, h2 with
    | [], _ => exact .inr ⟨(p : Int) :: x, by simp⟩
    | q :: r, h2 =>
      left
      rw [List.append_assoc, cmpL_app]
      have := h2 q (by simp)
      rw [List.singleton_append, cmpL, if_pos (by omega)]
      omega
theorem subsL_len : ∀ {m p : Nat} {head : List Int}, (subsL head p m).length = 2 ^ m
  | 0, _, _ => rfl
  | m + 1, p, head => by rw [subsL, List.length_append, subsL_len, subsL_len, Nat.pow_succ]; omega
/-! the largest ones -/
variable (G : List Int → Bool)
def goodW (n w : Nat) : Bool := decide (2 ≤ (setW n w).length) && G (setW n w)
def candL (n : Nat) : List (List Int) := (subsL [] 0 n).filter fun a => decide (2 ≤ a.length) && G a
def largeB (l : List (List Int)) (a : List Int) : Bool := !l.any fun b => decide (a.length < b.length) && decide (∀ x ∈ a, x ∈ b)
def groupsL (n : Nat) : List (List Int) := (candL G n).filter (largeB (candL G n))
def foundL (n : Nat) : List (List Int) := (foundK (goodW G n) n (2 ^ n - 1)).map (setW n)
variable {G}
theorem mem_cand {n : Nat} {a : List Int} : a ∈ candL G n ↔ a.Pairwise (· < ·) ∧ (∀ x ∈ a, 0 ≤ x ∧ x < n) ∧ 2 ≤ a.length ∧ G a = true := by
  unfold candL
  rw [List.mem_filter, mem_subsL, Bool.and_eq_true, decide_eq_true_eq]
  constructor
  · rintro ⟨⟨b, rfl, h1, h2⟩, h3, h4⟩
    exact ⟨h1, fun x hx => by have := h2 x (by simpa using hx); omega, h3, h4⟩
  · rintro ⟨h1, h2, h3, h4⟩
    exact ⟨⟨a, by simp, h1, fun x hx => by have := h2 x hx; omega⟩, h3, h4⟩
theorem mem_cand_w {n w : Nat} : setW n w ∈ candL G n ↔ goodW G n w = true := by
  rw [mem_cand, goodW, Bool.and_eq_true, decide_eq_true_eq]
  exact ⟨fun h => h.2.2, fun h => ⟨setW_sorted, fun x hx => ⟨(mem_setW.1 hx).1, (mem_setW.1 hx).2.1⟩, h⟩⟩
theorem cand_w {n : Nat} {a : List Int} (h : a ∈ candL G n) : ∃ w, w < 2 ^ n ∧ setW n w = a := by
  rw [mem_cand] at h
  exact setW_surj h.1 h.2.1
theorem sub_list : ∀ {a b : List Int}, a.Pairwise (· < ·) → b.Pairwise (· < ·) → (∀ x ∈ a, x ∈ b) → a.Sublist b
  | [], b, _, _, _ => List.nil_sublist b
  | x :: a, [], _, _, h => by have := h x (by simp); cases this
  | x :: a, y :: b, ha, hb, h => by
    have hb' := hb
    rw [List.pairwise_cons] at hb
    by_cases he : x = y
    · subst he
      rw [List.pairwise_cons] at ha
      refine List.Sublist.cons_cons _ (sub_list ha.2 hb.2 fun z hz => ?_)
      rcases List.mem_cons.1 (h z (by simp [hz])) with e | e
      · have := ha.1 z hz; omega
      · exact e
    · refine List.Sublist.cons _ (sub_list ha hb.2 fun z hz => ?_)
      rcases List.mem_cons.1 (h z hz) with e | e
      · exfalso
        subst e
        rcases List.mem_cons.1 (h x (by simp)) with e | e
        · exact he e
        · have h1 := hb.1 x e
          rw [List.pairwise_cons] at ha
          rcases List.mem_cons.1 hz with e' | e'
          · omega
          · have := ha.1 z e'; omega
      · exact e
theorem sub_len_eq {a b : List Int} (ha : a.Pairwise (· < ·)) (hb : b.Pairwise (· < ·)) (h : ∀ x ∈ a, x ∈ b) (hl : b.length ≤ a.length) : a = b :=
  (sub_list ha hb h).eq_of_length_le hl
theorem mem_found {n : Nat} {a : List Int} : a ∈ foundL G n ↔ a ∈ candL G n ∧ ∀ b ∈ candL G n, (∀ x ∈ a, x ∈ b) → b = a := by
  have hp : 0 < 2 ^ n := Nat.pow_pos (by omega)
  unfold foundL
  rw [List.mem_map]
  constructor
  · rintro ⟨w, hw, rfl⟩
    obtain ⟨_, h1, h2, h3⟩ := (mem_foundK (by omega)).1 hw
    refine ⟨mem_cand_w.2 h2, fun b hb hs => ?_⟩
    obtain ⟨v, hv, rfl⟩ := cand_w hb
    have hs := (setW_sub h1).1 hs
    have hle : w ≤ v := by rw [← hs]; exact Nat.and_le_left
    rcases Nat.lt_or_ge w v with h | h
    · exact absurd hs (h3 v h hv (mem_cand_w.1 hb))
    · rw [show v = w by omega]
  · rintro ⟨h1, h2⟩
    obtain ⟨w, hw, rfl⟩ := cand_w h1
    have hg := mem_cand_w.1 h1
    have hw0 : w ≠ 0 := fun h => by
      subst h
      have h0 : setW n 0 = [] := by
        rw [List.eq_nil_iff_forall_not_mem]
        intro x hx
        have := (mem_setW.1 hx).2.2
        simp at this
      rw [goodW, h0] at hg
      simp at hg
    refine ⟨w, (mem_foundK (by omega)).2 ⟨by omega, hw, hg, fun v h3 h4 h5 h6 => ?_⟩, rfl⟩
    have := h2 _ (mem_cand_w.2 h5) ((setW_sub hw).2 h6)
    have := setW_inj h4 hw this
    omega
theorem mem_groupsL {n : Nat} {a : List Int} : a ∈ groupsL G n ↔ a ∈ foundL G n := by
  rw [mem_found]
  unfold groupsL largeB
  rw [List.mem_filter, Bool.not_eq_true', List.any_eq_false]
  refine and_congr_right fun h1 => ?_
  have ha := (mem_cand.1 h1).1
  constructor
  · intro h b hb hs
    have := h b hb
    rw [Bool.and_eq_true, decide_eq_true_eq, decide_eq_true_eq] at this
    have hlt : ¬ a.length < b.length := fun h => this ⟨h, hs⟩
    exact (sub_len_eq ha (mem_cand.1 hb).1 hs (by omega)).symm
  · intro h b hb hh
    rw [Bool.and_eq_true, decide_eq_true_eq, decide_eq_true_eq] at hh
    have := h b hb hh.2
    rw [this] at hh
    omega
theorem found_anti {n : Nat} {a b : List Int} (ha : a ∈ foundL G n) (hb : b ∈ foundL G n) (h : ∀ x ∈ a, x ∈ b) : a = b :=
  ((mem_found.1 ha).2 b (mem_found.1 hb).1 h).symm
theorem groupsL_pw {n : Nat} : (groupsL G n).Pairwise (fun a b => cmpL a b < 0) := by
  have h0 : (groupsL G n).Pairwise Bef := (subsL_pw.filter _).filter _
  have hnd : (groupsL G n).Pairwise (fun a b => a ≠ b) := by
    have : (subsL [] 0 n).Pairwise (fun a b => a ≠ b) := by
      have key : ∀ {m p : Nat} {head : List Int}, (subsL head p m).Pairwise (fun a b => a ≠ b) := by
        intro m
        induction m with
        | zero => intro p head; simp [subsL]
        | succ m ih =>
          intro p head
          rw [subsL, List.pairwise_append]
          refine ⟨ih, ih, fun a ha b hb => ?_⟩
          obtain ⟨x, rfl, _, _⟩ := mem_subsL.1 ha
          obtain ⟨y, rfl, _, h2⟩ := mem_subsL.1 hb
          intro he
          rw [List.append_assoc] at he
          have he := List.append_cancel_left he
          have := h2 p (by rw [← he]; simp)
          omega
      exact key
    exact (this.filter _).filter _
  refine (h0.and hnd).imp_of_mem fun {a b} ha hb h => ?_
  rcases h.1 with h1 | ⟨c, hc⟩
  · exact h1
  · exact absurd (found_anti (mem_groupsL.1 hb) (mem_groupsL.1 ha) fun x hx => by rw [hc]; simp [hx]).symm h.2
/-- A list that is sorted and holds what was found is the reference's list. -/
theorem sorted_groups {n : Nat} {l : List (List Int)} (hp : l.Perm (foundL G n)) (hs : l.Pairwise fun a b => ¬ cmpL b a < 0) : l = groupsL G n := by
  have hnd : (foundL G n).Nodup := by
    unfold foundL
    have hp2 : 0 < 2 ^ n := Nat.pow_pos (by omega)
    refine List.Pairwise.map _ (fun a b h => h) (((foundK_pw (Nat.sub_le _ _)).imp_of_mem fun {a b} ha hb h => ?_))
    exact fun he => by
      have := setW_inj ((mem_foundK (Nat.sub_le _ _)).1 ha).2.1 ((mem_foundK (Nat.sub_le _ _)).1 hb).2.1 he
      omega
  have hnl : l.Nodup := (hp.nodup_iff).2 hnd
  refine pw_ext (fun a b => cmpL_asym a b) ((hs.and hnl).imp fun {a b} h => ?_) groupsL_pw fun x => (hp.mem_iff).trans mem_groupsL.symm
  have h1 := h.1
  rw [cmpL_flip] at h1
  have h2 : cmpL a b ≠ 0 := fun h0 => h.2 (cmpL_zero h0)
  omega
end Go.Proofs.Ytokmhfjledbglaa
