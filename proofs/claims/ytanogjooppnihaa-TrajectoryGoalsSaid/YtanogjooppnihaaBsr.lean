import Derived.Test.YtanogjooppnihaaBsv



namespace Go.Proofs.Ytanogjooppnihaa
open Go.Ab
open Go
set_option linter.unusedSimpArgs false
set_option linter.unusedVariables false
set_option maxRecDepth 10000
attribute [local irreducible] PV AOp AOps AW PCall OCall MCall Ab.Fin OFin OFin2 MFin RV RV1 Le AStk AGrd ADr ADx ADo AOpX AAny
set_option maxHeartbeats 2000000
/-! the states that can be reached -/
abbrev rowsI (l : List (List Int)) : AV := .isl 1 24 (l.map fun x => ints x)
def wds (l : List (List Int)) : List Int := l.map fun x => ((wsum x : Nat) : Int)
@[go_sem] theorem wds_len (l : List (List Int)) : (wds l).length = l.length := by simp [wds]
def ClAt (t : Task) (l : List (List Int)) (j q : Nat) : Prop := ∀ p, p < q → subB (t.ops[p]!).pre l[j]! = true → aft t.facts l[j]! t.ops[p]! ∈ l
structure RI (t : Task) (s : List Int) (i : Nat) (l : List (List Int)) : Prop where
  head : l[0]? = some s
  le : i ≤ l.length
  set : ∀ x ∈ l, isSet x t.facts = true
  reach : ∀ x ∈ l, ReachT t s x
  len : l.length ≤ 2000
  nodup : l.Nodup
  cl : ∀ j, j < i → ClAt t l j t.ops.length
theorem ClAt.push {t : Task} {l : List (List Int)} {x : List Int} {j q : Nat} (h : ClAt t l j q) (hj : j < l.length) : ClAt t (l ++ [x]) j q := by
  intro p hp
  have e : (l ++ [x])[j]! = l[j]! := by
    rw [getBang hj, getBang (by simp; omega), List.getElem_append_left hj]
  rw [e]
  exact fun hs => List.mem_append_left _ (h p hp hs)
theorem ClAt.next {t : Task} {l : List (List Int)} {j q : Nat} (h : ClAt t l j q) (hq : subB (t.ops[q]!).pre l[j]! = true → aft t.facts l[j]! t.ops[q]! ∈ l) : ClAt t l j (q + 1) := by
  intro p hp
  rcases Nat.lt_or_ge p q with h1 | h1
  · exact h p h1
  · obtain rfl : p = q := by omega
    exact hq
theorem RI.push {t : Task} {s : List Int} {i : Nat} {l : List (List Int)} (h : RI t s i l) {x : List Int} (h1 : isSet x t.facts = true) (h2 : ReachT t s x) (h3 : ¬ x ∈ l) (h4 : l.length < 2000) : RI t s i (l ++ [x]) := by
  have hle := h.le
  refine ⟨?_, by simp; omega, ?_, ?_, by simp; omega, ?_, fun j hj => (h.cl j hj).push (by omega)⟩
  · have := h.head
    have h0 : 0 < l.length := (List.getElem?_eq_some_iff.1 this).1
    rw [List.getElem?_append_left h0]; exact this
  · intro y hy
    rcases List.mem_append.1 hy with hy | hy
    · exact h.set y hy
    · rw [List.mem_singleton.1 hy]; exact h1
  · intro y hy
    rcases List.mem_append.1 hy with hy | hy
    · exact h.reach y hy
    · rw [List.mem_singleton.1 hy]; exact h2
  · rw [List.nodup_append]
    refine ⟨h.nodup, by simp, fun a ha b hb => ?_⟩
    rw [List.mem_singleton.1 hb]
    rintro rfl
    exact h3 ha
theorem RI.step {t : Task} {s : List Int} {i q : Nat} {l : List (List Int)} (h : RI t s i l) (hi : i < l.length) (hq : q < t.ops.length) (hs : subB (t.ops[q]!).pre l[i]! = true) : ReachT t s (aft t.facts l[i]! t.ops[q]!) := by
  refine (h.reach l[i]! ?_).step ?_ hs
  · rw [getBang hi]; exact List.getElem_mem hi
  · rw [getBang hq]; exact List.getElem_mem hq
theorem RI.many {t : Task} {s : List Int} {i : Nat} {l : List (List Int)} (h : RI t s i l) {x : List Int} (h1 : isSet x t.facts = true) (h2 : ReachT t s x) (h3 : ¬ x ∈ l) (h4 : l.length = 2000) : ManyT t s := by
  refine ⟨l ++ [x], ?_, by simp; omega, fun y hy => ?_⟩
  · rw [List.nodup_append]
    refine ⟨h.nodup, by simp, fun a ha b hb => ?_⟩
    rw [List.mem_singleton.1 hb]
    rintro rfl
    exact h3 ha
  · rcases List.mem_append.1 hy with hy | hy
    · exact h.reach y hy
    · rw [List.mem_singleton.1 hy]; exact h2
theorem RI.done {t : Task} {s : List Int} {l : List (List Int)} (h : RI t s l.length l) : ReachL t s l :=
  ⟨h.head, h.set, h.reach, fun x hx o ho hp => by
    obtain ⟨j, hj, rfl⟩ := List.getElem_of_mem hx
    obtain ⟨p, hp2, rfl⟩ := List.getElem_of_mem ho
    have := h.cl j hj p hp2
    rw [getBang hj, getBang hp2] at this
    exact this hp, h.len⟩
theorem RI.next {t : Task} {s : List Int} {i : Nat} {l : List (List Int)} (h : RI t s i l) (hi : i < l.length) (hc : ClAt t l i t.ops.length) : RI t s (i + 1) l :=
  ⟨h.head, by omega, h.set, h.reach, h.len, h.nodup, fun j hj => by
    rcases Nat.lt_or_ge j i with h1 | h1
    · exact h.cl j h1
    · obtain rfl : j = i := by omega
      exact hc⟩
theorem wds_has {n : Int} {l : List (List Int)} {x : List Int} (h : ∀ y ∈ l, isSet y n = true) (hx : isSet x n = true) : hasB (wds l) ((wsum x : Nat) : Int) = true ↔ x ∈ l := by
  simp only [hasB, wds, decide_eq_true_eq, List.mem_map]
  constructor
  · rintro ⟨y, hy, he⟩
    rw [← set_inj (h y hy) hx (by omega)]; exact hy
  · exact fun hx => ⟨x, hx, rfl⟩
theorem wds_get {l : List (List Int)} {i : Nat} (h : i < l.length) : (wds l)[i]! = ((wsum l[i]! : Nat) : Int) := by
  rw [getBang (by rw [wds_len]; exact h), getBang h]; simp [wds]
@[go_sem] theorem wds_app (l : List (List Int)) (x : List Int) : (wds l).map AV.int ++ [AV.int ((wsum x : Nat) : Int)] = (wds (l ++ [x])).map AV.int := by simp [wds]
@[go_sem] theorem rows_purge (id : Nat) (l : List (List Int)) : AV.purgeL id (l.map fun x => ints x) = l.map fun x => ints x := purgeL_map id _ _ fun _ => rfl
@[go_sem] theorem rows_purge1 (id : Nat) (l : List (List Int)) (x : List Int) : AV.purgeL id ((l.map fun x => ints x) ++ [ints x]) = (l.map fun x => ints x) ++ [ints x] := by
  rw [purgeL_append, rows_purge]; rfl
end Go.Proofs.Ytanogjooppnihaa
