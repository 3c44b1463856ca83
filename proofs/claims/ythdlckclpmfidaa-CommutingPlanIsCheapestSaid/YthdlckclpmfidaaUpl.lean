/- A row of integers that is sorted and freed of what comes twice: no program in sight. -/
import Derived.Test.YthdlckclpmfidaaBst
import Derived.Test.YthdlckclpmfidaaAbn
namespace Go.Proofs.Ythdlckclpmfidaa
open Go.Ab
open Go
set_option linter.unusedSimpArgs false
set_option linter.unusedVariables false
theorem sortI_mem {xs : List Int} {x : Int} : x ∈ sortI xs ↔ x ∈ xs := List.mem_mergeSort
theorem sortI_sorted (xs : List Int) : (sortI xs).Pairwise (· ≤ ·) := by
  have := List.pairwise_mergeSort (le := fun x y : Int => decide (x ≤ y)) (fun a b c h1 h2 => by simp only [decide_eq_true_eq] at *; omega) (fun a b => by simp only [Bool.or_eq_true, decide_eq_true_eq]; omega) xs
  exact this.imp fun h => by simpa using h
theorem getA {zs : List Int} {j : Nat} (h : j < zs.length) : zs.toArray[j]! = zs[j] := by
  rw [getElem!_pos _ j (by simpa using h)]; simp
theorem compU {zs : List Int} (hs : zs.Pairwise (· ≤ ·)) : ∀ m, m ≤ zs.length →
    (Lib.compactUpTo zs.toArray m).Pairwise (· < ·) ∧ (∀ x, x ∈ Lib.compactUpTo zs.toArray m ↔ ∃ j, ∃ h : j < zs.length, j < m ∧ zs[j] = x)
  | 0, _ => by simp [Lib.compactUpTo]
  | m+1, hm => by
    obtain ⟨h1, h2⟩ := compU hs m (by omega)
    have hs' := List.pairwise_iff_getElem.1 hs
    rw [Lib.compactUpTo_succ]
    have ge : zs.toArray[m]! = zs[m] := getA hm
    by_cases hk : Lib.keeps zs.toArray m = true
    · rw [if_pos hk, ge]
      have hgt : ∀ j (hj : j < m), zs[j] < zs[m] := fun j hj => by
        have h3 : zs[m - 1] ≠ zs[m] := fun e => by
          simp only [Lib.keeps, decide_eq_true_eq] at hk
          rcases hk with hk | hk
          · omega
          · rw [ge, getA (show m - 1 < zs.length by omega)] at hk
            exact hk e.symm
        have h4 := hs' (m - 1) m (by omega) (by omega) (by omega)
        rcases Nat.lt_or_ge j (m - 1) with h5 | h5
        · have := hs' j (m - 1) (by omega) (by omega) h5; omega
        · obtain rfl : j = m - 1 := by omega
          omega
      refine ⟨?_, fun x => ?_⟩
      · rw [List.pairwise_append]
        refine ⟨h1, by simp, fun a ha b hb => ?_⟩
        rw [List.mem_singleton.1 hb]
        obtain ⟨j, hj, hjm, rfl⟩ := (h2 a).1 ha
        exact hgt j hjm
      · rw [List.mem_append, h2, List.mem_singleton]
        constructor
        · rintro (⟨j, hj, hjm, rfl⟩ | rfl)
          · exact ⟨j, hj, by omega, rfl⟩
          · exact ⟨m, hm, by omega, rfl⟩
        · rintro ⟨j, hj, hjm, rfl⟩
          rcases Nat.lt_or_ge j m with h5 | h5
          · exact .inl ⟨j, hj, h5, rfl⟩
          · obtain rfl : j = m := by omega
            exact .inr rfl
    · have hk' : Lib.keeps zs.toArray m = false := by simpa using hk
      rw [if_neg hk, List.append_nil]
      refine ⟨h1, fun x => ?_⟩
      rw [h2]
      simp only [Lib.keeps, decide_eq_false_iff_not, not_or, Decidable.not_not] at hk'
      rw [ge, getA (show m - 1 < zs.length by omega)] at hk'
      constructor
      · rintro ⟨j, hj, hjm, rfl⟩
        exact ⟨j, hj, by omega, rfl⟩
      · rintro ⟨j, hj, hjm, rfl⟩
        rcases Nat.lt_or_ge j m with h5 | h5
        · exact ⟨j, hj, h5, rfl⟩
        · obtain rfl : j = m := by omega
          exact ⟨j - 1, by omega, by omega, hk'.2.symm⟩
def setL (xs : List Int) : List Int := Lib.compact (sortI xs)
theorem setL_sorted (xs : List Int) : (setL xs).Pairwise (· < ·) := (compU (sortI_sorted xs) _ (Nat.le_refl _)).1
theorem setL_mem {xs : List Int} {x : Int} : x ∈ setL xs ↔ x ∈ xs := by
  unfold setL Lib.compact
  rw [(compU (sortI_sorted xs) _ (Nat.le_refl _)).2 x, ← sortI_mem, List.mem_iff_getElem]
  constructor
  · rintro ⟨j, hj, _, rfl⟩; exact ⟨j, hj, rfl⟩
  · rintro ⟨j, hj, rfl⟩; exact ⟨j, hj, hj, rfl⟩
def updL (s add del : List Int) : List Int := setL ((s.filter fun x => !hasB del x) ++ add)
theorem updL_mem {s add del : List Int} {x : Int} : x ∈ updL s add del ↔ (x ∈ s ∧ ¬ x ∈ del) ∨ x ∈ add := by
  unfold updL
  rw [setL_mem, List.mem_append, List.mem_filter]
  simp [hasB]
theorem updL_set {s add del : List Int} {n : Int} (hs : isSet s n = true) (ha : isSet add n = true) : isSet (updL s add del) n = true := by
  rw [isSet_iff] at hs ha ⊢
  refine ⟨fun x hx => ?_, setL_sorted _⟩
  rcases updL_mem.1 hx with h | h
  · exact hs.1 x h.1
  · exact ha.1 x h
theorem updL_aft {s : List Int} {o : Op} {n : Int} (h0 : 0 ≤ n) (hs : isSet s n = true) (ha : isSet o.add n = true) : updL s o.add o.del = aft n s o := by
  refine set_ext (updL_set hs ha) (aft_set h0 s o) fun p => ?_
  rw [updL_mem, aft_mem]
  constructor
  · rintro (⟨h1, h2⟩ | h1)
    · exact ⟨(isSet_iff.1 hs).1 p h1, .inr ⟨h1, h2⟩⟩
    · exact ⟨(isSet_iff.1 ha).1 p h1, .inl h1⟩
  · rintro ⟨_, h1 | ⟨h1, h2⟩⟩
    · exact .inr h1
    · exact .inl ⟨h1, h2⟩
end Go.Proofs.Ythdlckclpmfidaa
