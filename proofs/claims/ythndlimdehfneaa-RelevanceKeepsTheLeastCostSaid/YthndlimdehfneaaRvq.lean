/- What is relevant, as the reference finds it; positions: no program in sight. -/
import Derived.Test.YthndlimdehfneaaRvp
import Derived.Test.YthndlimdehfneaaSea
namespace Go.Proofs.Ythndlimdehfneaa
open Go.Ab
open Go
set_option linter.unusedSimpArgs false
set_option linter.unusedVariables false
def stepR (l : List Int) (o : Op) : List Int := if meetB l o then l ++ o.pre else l
def rndK (t : Task) (l : List Int) (k : Nat) : List Int := (t.ops.take k).foldl stepR l
theorem rndK_zero (t : Task) (l : List Int) : rndK t l 0 = l := by simp [rndK]
theorem rndK_yes {t : Task} {l : List Int} {k : Nat} (h : k < t.ops.length) (hm : meetB (rndK t l k) t.ops[k] = true) : rndK t l (k + 1) = rndK t l k ++ t.ops[k].pre := by
  unfold rndK at hm ⊢; rw [foldl_take h, stepR, if_pos hm]
theorem rndK_no {t : Task} {l : List Int} {k : Nat} (h : k < t.ops.length) (hm : meetB (rndK t l k) t.ops[k] = false) : rndK t l (k + 1) = rndK t l k := by
  unfold rndK at hm ⊢; rw [foldl_take h, stepR, if_neg (by rw [hm]; simp)]
def dedK (l : List Int) (k : Nat) : List Int := (upTo k).filter (hasB l)
theorem dedK_zero (l : List Int) : dedK l 0 = [] := by simp [dedK, upTo]
theorem dedK_yes {l : List Int} {k : Nat} (h : hasB l k = true) : dedK l (k + 1) = dedK l k ++ [(k : Int)] := by
  rw [dedK, upTo_succ, List.filter_append, List.filter_cons_of_pos h]; rfl
theorem dedK_no {l : List Int} {k : Nat} (h : hasB l k = false) : dedK l (k + 1) = dedK l k := by
  rw [dedK, upTo_succ, List.filter_append, List.filter_cons_of_neg (by simp [h])]; simp [dedK]
theorem dedK_len {l : List Int} {k : Nat} : (dedK l k).length ≤ k := by
  unfold dedK
  have := List.length_filter_le (hasB l) (upTo k)
  simp only [upTo, List.length_map, List.length_range] at this
  exact this
theorem dedK_mem {l : List Int} {k : Nat} {p : Int} : p ∈ dedK l k ↔ (0 ≤ p ∧ p < k) ∧ p ∈ l := by
  unfold dedK; rw [List.mem_filter, upTo_mem, hasB_t]
theorem meet_mono {a b : List Int} {o : Op} (h : ∀ p ∈ a, p ∈ b) (hm : meetB a o = true) : meetB b o = true := by
  obtain ⟨x, h1, h2⟩ := meetB_iff.1 hm
  exact meetB_iff.2 ⟨x, h1, h x h2⟩
theorem fold_sub : ∀ (os : List Op) (l : List Int), ∀ p ∈ l, p ∈ os.foldl stepR l
  | [], l, p, hp => hp
  | o :: os, l, p, hp => by
    rw [List.foldl_cons]
    refine fold_sub os _ p ?_
    unfold stepR
    split
    · exact List.mem_append_left _ hp
    · exact hp
theorem fold_rel {t : Task} : ∀ (os : List Op) (l : List Int), (∀ o ∈ os, o ∈ t.ops) → (∀ p ∈ l, Rel t p) → ∀ p ∈ os.foldl stepR l, Rel t p
  | [], l, _, h, p, hp => h p hp
  | o :: os, l, ho, h, p, hp => by
    rw [List.foldl_cons] at hp
    refine fold_rel os _ (fun q hq => ho q (by simp [hq])) (fun q hq => ?_) p hp
    unfold stepR at hq
    split at hq
    · rename_i hm
      obtain ⟨x, h1, h2⟩ := meetB_iff.1 hm
      rcases List.mem_append.1 hq with hq | hq
      · exact h q hq
      · exact .pre (ho o (by simp)) h1 (h x h2) hq
    · exact h q hq
theorem fold_pre : ∀ (os : List Op) (l : List Int), ∀ o ∈ os, meetB l o = true → ∀ p ∈ o.pre, p ∈ os.foldl stepR l
  | q :: os, l, o, ho, hm, p, hp => by
    rw [List.foldl_cons]
    rcases List.mem_cons.1 ho with rfl | ho
    · refine fold_sub os _ p ?_
      rw [stepR, if_pos hm]
      exact List.mem_append_right _ hp
    · refine fold_pre os _ o ho (meet_mono (fun x hx => ?_) hm) p hp
      unfold stepR
      split
      · exact List.mem_append_left _ hx
      · exact hx
def ClosedR (t : Task) (l : List Int) : Prop := ∀ o ∈ t.ops, meetB l o = true → ∀ p ∈ o.pre, p ∈ l
theorem fold_closed {t : Task} {l : List Int} (hc : ClosedR t l) : ∀ (os : List Op) (m : List Int), (∀ o ∈ os, o ∈ t.ops) → (∀ p ∈ m, p ∈ l) → ∀ p ∈ os.foldl stepR m, p ∈ l
  | [], m, _, h, p, hp => h p hp
  | o :: os, m, ho, h, p, hp => by
    rw [List.foldl_cons] at hp
    refine fold_closed hc os _ (fun q hq => ho q (by simp [hq])) (fun q hq => ?_) p hp
    unfold stepR at hq
    split at hq
    · rename_i hm
      rcases List.mem_append.1 hq with hq | hq
      · exact h q hq
      · exact hc o (ho o (by simp)) (meet_mono h hm) q hq
    · exact h q hq
theorem rndK_len {t : Task} (hw : WfT t) {l : List Int} : ∀ k, k ≤ t.ops.length → (rndK t l k).length ≤ l.length + 24 * k
  | 0, _ => by simp [rndK]
  | k+1, hk => by
    have ih := rndK_len hw (l := l) k (by omega)
    have hlt : k < t.ops.length := hk
    have hp := isSet_len (opOk_sets (hw.ops _ (List.getElem_mem hlt)).1).1 hw.f0
    have h24 := hw.f1
    cases hm : meetB (rndK t l k) t.ops[k] with
    | true => rw [rndK_yes hlt hm, List.length_append]; omega
    | false => rw [rndK_no hlt hm]; omega
def roundT (t : Task) (l : List Int) : List Int := dedK (rndK t l t.ops.length) t.facts.toNat
def cntR (t : Task) (l : List Int) : Nat := t.ops.countP (meetB l)
theorem count_mono {p q : Op → Bool} : ∀ {l : List Op}, (∀ o ∈ l, p o = true → q o = true) → l.countP p ≤ l.countP q ∧ (l.countP p = l.countP q → ∀ o ∈ l, q o = true → p o = true)
  | [], _ => by simp
  | o :: l, h => by
    obtain ⟨h1, h2⟩ := count_mono (l := l) fun x hx => h x (by simp [hx])
    have ho := h o (by simp)
    rw [List.countP_cons, List.countP_cons]
    cases hp : p o <;> cases hq : q o
    · simp only [Bool.false_eq_true, if_false, Nat.add_zero]
      refine ⟨h1, fun he x hx hqx => ?_⟩
      rcases List.mem_cons.1 hx with rfl | hx
      · rw [hq] at hqx; cases hqx
      · exact h2 he x hx hqx
    · simp only [Bool.false_eq_true, if_false, if_true, Nat.add_zero]
      exact ⟨by omega, fun he => by omega⟩
    · rw [ho hp] at hq; cases hq
    · simp only [if_true]
      refine ⟨by omega, fun he x hx hqx => ?_⟩
      rcases List.mem_cons.1 hx with rfl | hx
      · exact hp
      · exact h2 (by omega) x hx hqx
structure RRef (t : Task) (k : Nat) (l : List Int) : Prop where
  set : isSet l t.facts = true
  goal : ∀ p ∈ t.goal, p ∈ l
  rel : ∀ p ∈ l, Rel t p
  grow : ClosedR t l ∨ k ≤ cntR t l
theorem RRef.init {t : Task} (hw : WfT t) : RRef t 0 t.goal := ⟨hw.goal, fun _ h => h, fun p h => .goal h, .inr (Nat.zero_le _)⟩
theorem round_set {t : Task} (hw : WfT t) (l : List Int) : isSet (roundT t l) t.facts = true := by
  have := filter_set (n := t.facts.toNat) (hasB (rndK t l t.ops.length))
  rw [Int.toNat_of_nonneg hw.f0] at this
  exact this
theorem RRef.next {t : Task} (hw : WfT t) {k : Nat} {l : List Int} (h : RRef t k l) : RRef t (k + 1) (roundT t l) := by
  have mem : ∀ p, p ∈ roundT t l ↔ (0 ≤ p ∧ p < t.facts) ∧ p ∈ t.ops.foldl stepR l := fun p => by
    unfold roundT rndK
    rw [dedK_mem, List.take_length, Int.toNat_of_nonneg hw.f0]
  have hsub : ∀ p ∈ l, p ∈ roundT t l := fun p hp => (mem p).2 ⟨(isSet_iff.1 h.set).1 p hp, fold_sub _ _ p hp⟩
  have hpre : ∀ o ∈ t.ops, meetB l o = true → ∀ p ∈ o.pre, p ∈ roundT t l := fun o ho hm p hp =>
    (mem p).2 ⟨(isSet_iff.1 (opOk_sets (hw.ops o ho).1).1).1 p hp, fold_pre _ _ o ho hm p hp⟩
  refine ⟨round_set hw l, fun p hp => hsub p (h.goal p hp), fun p hp => fold_rel _ _ (fun _ h => h) h.rel p ((mem p).1 hp).2, ?_⟩
  rcases h.grow with hc | hk
  · left
    have e : roundT t l = l := set_ext (round_set hw l) h.set fun p => ⟨fun hp => fold_closed hc _ _ (fun _ h => h) (fun _ h => h) p ((mem p).1 hp).2, hsub p⟩
    rw [e]; exact hc
  · obtain ⟨h1, h2⟩ := count_mono (p := meetB l) (q := meetB (roundT t l)) (l := t.ops) fun o _ hm => meet_mono hsub hm
    by_cases he : cntR t l = cntR t (roundT t l)
    · left
      exact fun o ho hm => hpre o ho (h2 he o ho hm)
    · right
      unfold cntR at *
      omega
theorem RRef.done {t : Task} (hw : WfT t) {l : List Int} (h : RRef t (t.ops.length + 1) l) : l = relF t := by
  refine relF_eq hw h.set h.goal h.rel ?_
  rcases h.grow with hc | hk
  · exact hc
  · have := List.countP_le_length (p := meetB l) (l := t.ops)
    unfold cntR at hk
    omega
/-! positions found by search -/
def resL (F s : List Int) : List Int := (s.filter fun p => hasB F p).map fun p => ((lbN F p : Nat) : Int)
theorem lbN_get {F : List Int} (hs : F.Pairwise (· < ·)) {k : Nat} (hk : k < F.length) : lbN F F[k] = k := by
  have hs' := List.pairwise_iff_getElem.1 hs
  refine lbN_eq (by omega) (fun i hi hik => hs' i k hi hk hik) (fun i hi hik => ?_)
  rcases Nat.lt_or_ge k i with h | h
  · have := hs' k i hk hi h; omega
  · obtain rfl : i = k := by omega
    exact Int.le_refl _
theorem resL_eq {F s : List Int} (hF : F.Pairwise (· < ·)) (hs : s.Pairwise (· < ·)) : resL F s = posL F s := by
  have hF' := List.pairwise_iff_getElem.1 hF
  refine sorted_ext ?_ (isSet_iff.1 (posL_set F s)).2 fun i => ?_
  · unfold resL
    rw [List.pairwise_map]
    refine (hs.filter _).imp_of_mem fun {a b} ha hb hab => ?_
    have ha := (List.mem_filter.1 ha).2
    have hb := (List.mem_filter.1 hb).2
    rw [hasB_t] at ha hb
    obtain ⟨x, hx, rfl⟩ := List.getElem_of_mem ha
    obtain ⟨y, hy, rfl⟩ := List.getElem_of_mem hb
    rw [lbN_get hF hx, lbN_get hF hy]
    rcases Nat.lt_or_ge x y with h | h
    · omega
    · exfalso
      rcases Nat.lt_or_ge y x with h2 | h2
      · have := hF' y x hy hx h2; omega
      · obtain rfl : x = y := by omega
        omega
  · rw [posL_mem]
    unfold resL
    rw [List.mem_map]
    constructor
    · rintro ⟨p, hp, rfl⟩
      obtain ⟨h1, h2⟩ := List.mem_filter.1 hp
      rw [hasB_t] at h2
      obtain ⟨k, hk, rfl⟩ := List.getElem_of_mem h2
      exact ⟨k, hk, by rw [lbN_get hF hk], h1⟩
    · rintro ⟨k, hk, rfl, h1⟩
      exact ⟨F[k], List.mem_filter.2 ⟨h1, by rw [hasB_t]; exact List.getElem_mem hk⟩, by rw [lbN_get hF hk]⟩
theorem resL_yes {F s : List Int} {k : Nat} (hk : k < s.length) (h : hasB F s[k] = true) : resL F (s.take (k + 1)) = resL F (s.take k) ++ [((lbN F s[k] : Nat) : Int)] := by
  unfold resL; rw [List.take_succ_eq_append_getElem hk, List.filter_append, List.filter_cons_of_pos h, List.map_append]; rfl
theorem resL_no {F s : List Int} {k : Nat} (hk : k < s.length) (h : hasB F s[k] = false) : resL F (s.take (k + 1)) = resL F (s.take k) := by
  unfold resL; rw [List.take_succ_eq_append_getElem hk, List.filter_append, List.filter_cons_of_neg (by simp [h])]; simp
theorem resL_len {F s : List Int} {k : Nat} : (resL F (s.take k)).length ≤ k := by
  unfold resL
  have := List.length_filter_le (fun p => hasB F p) (s.take k)
  rw [List.length_map]
  have h2 : (s.take k).length ≤ k := by rw [List.length_take]; omega
  omega
def posK (F s : List Int) (k : Nat) : List Int := (upTo k).filter fun i => hasB s (F[i.toNat]!)
theorem posK_zero (F s : List Int) : posK F s 0 = [] := by simp [posK, upTo]
theorem posK_yes {F s : List Int} {k : Nat} (hk : k < F.length) (h : hasB s F[k] = true) : posK F s (k + 1) = posK F s k ++ [(k : Int)] := by
  rw [posK, upTo_succ, List.filter_append, List.filter_cons_of_pos (by rw [Int.toNat_natCast, getBang hk]; exact h)]; rfl
theorem posK_no {F s : List Int} {k : Nat} (hk : k < F.length) (h : hasB s F[k] = false) : posK F s (k + 1) = posK F s k := by
  rw [posK, upTo_succ, List.filter_append, List.filter_cons_of_neg (by rw [Int.toNat_natCast, getBang hk, h]; simp)]; simp [posK]
theorem posK_len {F s : List Int} {k : Nat} : (posK F s k).length ≤ k := by
  unfold posK
  have := List.length_filter_le (fun i : Int => hasB s (F[i.toNat]!)) (upTo k)
  simp only [upTo, List.length_map, List.length_range] at this
  exact this
end Go.Proofs.Ythndlimdehfneaa
