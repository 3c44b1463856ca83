/- What is relevant in a task: no program in sight. -/
import Derived.Test.YthndlimdehfneaaUpl
import Derived.Test.YthndlimdehfneaaBsk
namespace Go.Proofs.Ythndlimdehfneaa
open Go.Ab
open Go
set_option linter.unusedSimpArgs false
set_option linter.unusedVariables false
inductive Rel (t : Task) : Int → Prop
  | goal {p : Int} (h : p ∈ t.goal) : Rel t p
  | pre {o : Op} {x p : Int} (ho : o ∈ t.ops) (hx : x ∈ o.add) (h : Rel t x) (hp : p ∈ o.pre) : Rel t p
open Classical in
noncomputable def relF (t : Task) : List Int := (upTo t.facts.toNat).filter fun p => decide (Rel t p)
theorem Rel.bd {t : Task} (hw : WfT t) {p : Int} (h : Rel t p) : 0 ≤ p ∧ p < t.facts := by
  cases h with
  | goal h => exact (isSet_iff.1 hw.goal).1 p h
  | pre ho hx h hp => exact (isSet_iff.1 (opOk_sets (hw.ops _ ho).1).1).1 p hp
open Classical in
theorem relF_mem {t : Task} (hw : WfT t) {p : Int} : p ∈ relF t ↔ Rel t p := by
  unfold relF
  rw [List.mem_filter, upTo_mem]
  exact ⟨fun h => of_decide_eq_true h.2, fun h => ⟨by have := h.bd hw; omega, decide_eq_true h⟩⟩
theorem relF_set {t : Task} (hw : WfT t) : isSet (relF t) t.facts = true := by
  have := filter_set (n := t.facts.toNat) (fun p => @decide (Rel t p) (Classical.propDecidable _))
  rw [Int.toNat_of_nonneg hw.f0] at this
  exact this
/-- The operator adds something of a set. -/
def meetB (F : List Int) (o : Op) : Bool := !disB o.add F
theorem meetB_iff {F : List Int} {o : Op} : meetB F o = true ↔ ∃ x ∈ o.add, x ∈ F := by
  unfold meetB
  cases h : disB o.add F with
  | true =>
    rw [disB_iff] at h
    simp only [Bool.not_true, Bool.false_eq_true, false_iff]
    rintro ⟨x, h1, h2⟩; exact h x h1 h2
  | false =>
    simp only [Bool.not_false, true_iff]
    apply Classical.byContradiction
    intro hn
    have : disB o.add F = true := disB_iff.2 fun x h1 h2 => hn ⟨x, h1, h2⟩
    rw [this] at h; cases h
noncomputable def relO (t : Task) : List Int := (upTo t.ops.length).filter fun i => meetB (relF t) (t.ops[i.toNat]!)
theorem relO_mem {t : Task} {i : Int} : i ∈ relO t ↔ (0 ≤ i ∧ i < t.ops.length) ∧ meetB (relF t) (t.ops[i.toNat]!) = true := by
  unfold relO; rw [List.mem_filter, upTo_mem]
/-- A closed set that holds the goal and nothing that is not relevant is what is relevant. -/
theorem relF_eq {t : Task} (hw : WfT t) {F : List Int} (hs : isSet F t.facts = true) (hg : ∀ p ∈ t.goal, p ∈ F) (hr : ∀ p ∈ F, Rel t p) (hc : ∀ o ∈ t.ops, meetB F o = true → ∀ p ∈ o.pre, p ∈ F) : F = relF t := by
  refine set_ext hs (relF_set hw) fun p => ?_
  rw [relF_mem hw]
  refine ⟨hr p, fun h => ?_⟩
  induction h with
  | goal h => exact hg _ h
  | pre ho hx _ hp ih => exact hc _ ho (meetB_iff.2 ⟨_, hx, ih⟩) _ hp
/-! the search -/
structure RSrch (t : Task) (F L : List Int) : Prop where
  set : isSet F t.facts = true
  goal : ∀ p ∈ t.goal, p ∈ F
  rel : ∀ p ∈ F, Rel t p
  nd : L.Nodup
  bd : ∀ x ∈ L, 0 ≤ x ∧ x < t.ops.length
  met : ∀ x ∈ L, meetB F (t.ops[x.toNat]!) = true
  pre : ∀ x ∈ L, ∀ p ∈ (t.ops[x.toNat]!).pre, p ∈ F
theorem sort_strict {L : List Int} (h : L.Nodup) : (sortI L).Pairwise (· < ·) := by
  have h1 := sortI_sorted L
  have h2 : (sortI L).Nodup := (List.mergeSort_perm L _).nodup_iff.2 h
  exact (h1.and h2).imp fun ⟨a, b⟩ => by omega
theorem RSrch.len {t : Task} {F L : List Int} (h : RSrch t F L) : L.length ≤ t.ops.length := by
  have h1 : isSet (sortI L) t.ops.length = true := by
    rw [isSet_iff]
    exact ⟨fun x hx => h.bd x (sortI_mem.1 hx), sort_strict h.nd⟩
  have h2 := isSet_len h1 (by omega)
  have h3 : (sortI L).length = L.length := List.length_mergeSort L
  omega
theorem RSrch.init {t : Task} (hw : WfT t) : RSrch t t.goal [] := ⟨hw.goal, fun _ h => h, fun p h => .goal h, by simp, by simp, by simp, by simp⟩
theorem RSrch.push {t : Task} (hw : WfT t) {F L : List Int} (h : RSrch t F L) {j : Nat} (hj : j < t.ops.length) (hn : hasB L j = false) (hm : meetB F t.ops[j] = true) : RSrch t (updL F t.ops[j].pre []) (L ++ [(j : Int)]) := by
  have ho := List.getElem_mem hj
  obtain ⟨p1, p2, p3, _⟩ := opOk_sets (hw.ops _ ho).1
  have hg : t.ops[((j : Nat) : Int).toNat]! = t.ops[j] := by rw [Int.toNat_natCast, getBang hj]
  have mem : ∀ {p : Int}, p ∈ updL F t.ops[j].pre [] ↔ p ∈ F ∨ p ∈ t.ops[j].pre := fun {p} => by rw [updL_mem]; simp
  have mono : ∀ {o : Op}, meetB F o = true → meetB (updL F t.ops[j].pre []) o = true := fun {o} h => by
    obtain ⟨x, h1, h2⟩ := meetB_iff.1 h
    exact meetB_iff.2 ⟨x, h1, mem.2 (.inl h2)⟩
  obtain ⟨x, hx1, hx2⟩ := meetB_iff.1 hm
  refine ⟨updL_set h.set p1, fun p hp => mem.2 (.inl (h.goal p hp)), fun p hp => ?_, ?_, ?_, ?_, ?_⟩
  · rcases mem.1 hp with hp | hp
    · exact h.rel p hp
    · exact .pre ho hx1 (h.rel x hx2) hp
  · rw [List.nodup_append]
    refine ⟨h.nd, by simp, fun a ha b hb => ?_⟩
    rw [List.mem_singleton.1 hb]
    rintro rfl
    rw [hasB_f] at hn
    exact hn ha
  · intro y hy
    rcases List.mem_append.1 hy with hy | hy
    · exact h.bd y hy
    · rw [List.mem_singleton.1 hy]; omega
  · intro y hy
    rcases List.mem_append.1 hy with hy | hy
    · exact mono (h.met y hy)
    · rw [List.mem_singleton.1 hy, hg]; exact mono hm
  · intro y hy p hp
    rcases List.mem_append.1 hy with hy | hy
    · exact mem.2 (.inl (h.pre y hy p hp))
    · rw [List.mem_singleton.1 hy, hg] at hp; exact mem.2 (.inr hp)
/-- All operators before q are taken, or do not add anything of the set. -/
def Still (t : Task) (F L : List Int) (q : Nat) : Prop := ∀ j (hj : j < t.ops.length), j < q → hasB L j = true ∨ meetB F t.ops[j] = false
theorem Still.next {t : Task} {F L : List Int} {q : Nat} (h : Still t F L q) (hq : q < t.ops.length) (hn : hasB L q = true ∨ meetB F t.ops[q] = false) : Still t F L (q + 1) := by
  intro j hj hjq
  rcases Nat.lt_or_ge j q with h1 | h1
  · exact h j hj h1
  · obtain rfl : j = q := by omega
    exact hn
theorem RSrch.done {t : Task} (hw : WfT t) {F L : List Int} (h : RSrch t F L) (hs : Still t F L t.ops.length) : F = relF t ∧ sortI L = relO t := by
  have hF : F = relF t := relF_eq hw h.set h.goal h.rel fun o ho hm p hp => by
    obtain ⟨j, hj, rfl⟩ := List.getElem_of_mem ho
    rcases hs j hj hj with h1 | h1
    · rw [hasB_t] at h1
      have := h.pre _ h1 p
      rw [Int.toNat_natCast, getBang hj] at this
      exact this hp
    · rw [hm] at h1; cases h1
  refine ⟨hF, sorted_ext (sort_strict h.nd) ((upTo_sorted _).filter _) fun x => ?_⟩
  rw [sortI_mem]
  show x ∈ L ↔ x ∈ relO t
  rw [relO_mem, ← hF]
  constructor
  · exact fun hx => ⟨h.bd x hx, h.met x hx⟩
  · rintro ⟨hb, hm⟩
    have hlt : x.toNat < t.ops.length := by omega
    rw [getBang hlt] at hm
    rcases hs x.toNat hlt hlt with h1 | h1
    · rw [hasB_t, Int.toNat_of_nonneg hb.1] at h1; exact h1
    · rw [hm] at h1; cases h1
/-! positions in a set -/
def posL (F s : List Int) : List Int := (upTo F.length).filter fun i => hasB s (F[i.toNat]!)
theorem posL_mem {F s : List Int} {i : Int} : i ∈ posL F s ↔ ∃ k, ∃ h : k < F.length, i = (k : Int) ∧ F[k] ∈ s := by
  unfold posL
  rw [List.mem_filter, upTo_mem]
  constructor
  · rintro ⟨⟨h1, h2⟩, h3⟩
    refine ⟨i.toNat, by omega, by omega, ?_⟩
    rw [getBang (by omega), hasB_t] at h3
    exact h3
  · rintro ⟨k, h, rfl, h3⟩
    refine ⟨by omega, ?_⟩
    rw [Int.toNat_natCast, getBang h, hasB_t]
    exact h3
theorem posL_set (F s : List Int) : isSet (posL F s) F.length = true := filter_set _
end Go.Proofs.Ythndlimdehfneaa
