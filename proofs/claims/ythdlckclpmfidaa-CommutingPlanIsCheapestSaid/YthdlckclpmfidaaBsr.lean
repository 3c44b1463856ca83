import Derived.Test.YthdlckclpmfidaaBsv



namespace Go.Proofs.Ythdlckclpmfidaa
open Go.Ab
open Go
set_option linter.unusedSimpArgs false
set_option linter.unusedVariables false
set_option maxRecDepth 10000
attribute [local irreducible] PV AOp AOps AW PCall OCall MCall Ab.Fin OFin OFin2 MFin RV RV1 Le AStk AGrd ADr ADx ADo AOpX AAny
set_option maxHeartbeats 2000000
/-! the states that can be reached -/
abbrev rowsI (l : List (List Int)) : AV := .isl 1 24 (l.map fun x => ints x)
def wds (l : List (List Int)) : List Int := l.map fun x => ((wsum x : Nat) : Int)
@[go_sem] theorem wds_len (l : List (List Int)) : (wds l).length = l.length := by simp [wds]
def ClAt (t : Task) (l : List (List Int)) (j q : Nat) : Prop := ∀ p, p < q → subB (t.ops[p]!).pre l[j]! = true → aft t.facts l[j]! t.ops[p]! ∈ l
structure RI (t : Task) (s : List Int) (i : Nat) (l : List (List Int)) : Prop where
  head : l[0]? = some s
  le : i ≤ l.length
  set : ∀ x ∈ l, isSet x t.facts = true
  reach : ∀ x ∈ l, ReachT t s x
  len : l.length ≤ 2000
  nodup : l.Nodup
  cl : ∀ j, j < i → ClAt t l j t.ops.length
theorem ClAt.push {t : Task} {l : List (List Int)} {x : List Int} {j q : Nat} (h : ClAt t l j q) (hj : j < l.length) : ClAt t (l ++ [x]) j q := by
  intro p hp
  have e : (l ++ [x])[j]! = l[j]! := by
    rw [getBang hj, getBang (by simp; omega), List.getElem_append_left hj]
  rw [e]
  exact fun hs => List.mem_append_left _ (h p hp hs)
theorem ClAt.next {t : Task} {l : List (List Int)} {j q : Nat} (h : ClAt t l j q) (hq : subB (t.ops[q]!).pre l[j]! = true → aft t.facts l[j]! t.ops[q]! ∈ l) : ClAt t l j (q + 1) := by
  intro p hp
  rcases Nat.lt_or_ge p q with h1 | h1
  · exact h p h1
  · obtain rfl : p = q := by omega
    exact hq
theorem RI.push {t : Task} {s : List Int} {i : Nat} {l : List (List Int)} (h : RI t s i l) {x : List Int} (h1 : isSet x t.facts = true) (h2 : ReachT t s x) (h3 : ¬ x ∈ l) (h4 : l.length < 2000) : RI t s i (l ++ [x]) := by
  have hle := h.le
  refine ⟨?_, by simp; omega, ?_, ?_, by simp; omega, ?_, fun j hj => (h.cl j hj).push (by omega)⟩
  · have := h.head
    have h0 : 0 < l.length := (List.getElem?_eq_some_iff.1 this).1
    rw [List.getElem?_append_left h0]; exact this
  · intro y hy
    rcases List.mem_append.1 hy with hy | hy
    · exact h.set y hy
    · rw [List.mem_singleton.1 hy]; exact h1
  · intro y hy
    rcases List.mem_append.1 hy with hy | hy
    · exact h.reach y hy
    · rw [List.mem_singleton.1 hy]; exact h2
  · rw [List.nodup_append]
    refine ⟨h.nodup, by simp, fun a ha b hb => ?_⟩
    rw [List.mem_singleton.1 hb]
    rintro rfl
    exact h3 ha
theorem RI.step {t : Task} {s : List Int} {i q : Nat} {l : List (List Int)} (h : RI t s i l) (hi : i < l.length) (hq : q < t.ops.length) (hs : subB (t.ops[q]!).pre l[i]! = true) : ReachT t s (aft t.facts l[i]! t.ops[q]!) := by
  refine (h.reach l[i]! ?_).step ?_ hs
  · rw [getBang hi]; exact List.getElem_mem hi
  · rw [getBang hq]; exact List.getElem_mem hq
theorem RI.many {t : Task} {s : List Int} {i : Nat} {l : List (List Int)} (h : RI t s i l) {x : List Int} (h1 : isSet x t.facts = true) (h2 : ReachT t s x) (h3 : ¬ x ∈ l) (h4 : l.length = 2000) : ManyT t s := by
  refine ⟨l ++ [x], ?_, by simp; omega, fun y hy => ?_⟩
  · rw [List.nodup_append]
    refine ⟨h.nodup, by simp, fun a ha b hb => ?_⟩
    rw [List.mem_singleton.1 hb]
    rintro rfl
    exact h3 ha
  · rcases List.mem_append.1 hy with hy | hy
    · exact h.reach y hy
    · rw [List.mem_singleton.1 hy]; exact h2
theorem RI.done {t : Task} {s : List Int} {l : List (List Int)} (h : RI t s l.length l) : ReachL t s l :=
  ⟨h.head, h.set, h.reach, fun x hx o ho hp => by
    obtain ⟨j, hj, rfl⟩ := List.getElem_of_mem hx
    obtain ⟨p, hp2, rfl⟩ := List.getElem_of_mem ho
    have := h.cl j hj p hp2
    rw [getBang hj, getBang hp2] at this
    exact this hp, h.len⟩
theorem RI.next {t : Task} {s : List Int} {i : Nat} {l : List (List Int)} (h : RI t s i l) (hi : i < l.length) (hc : ClAt t l i t.ops.length) : RI t s (i + 1) l :=
  ⟨h.head, by omega, h.set, h.reach, h.len, h.nodup, fun j hj => by
    rcases Nat.lt_or_ge j i with h1 | h1
    · exact h.cl j h1
    · obtain rfl : j = i := by omega
      exact hc⟩
theorem wds_has {n : Int} {l : List (List Int)} {x : List Int} (h : ∀ y ∈ l, isSet y n = true) (hx : isSet x n = true) : hasB (wds l) ((wsum x : Nat) : Int) = true ↔ x ∈ l := by
  simp only [hasB, wds, decide_eq_true_eq, List.mem_map]
  constructor
  · rintro ⟨y, hy, he⟩
    rw [← set_inj (h y hy) hx (by omega)]; exact hy
  · exact fun hx => ⟨x, hx, rfl⟩
theorem wds_get {l : List (List Int)} {i : Nat} (h : i < l.length) : (wds l)[i]! = ((wsum l[i]! : Nat) : Int) := by
  rw [getBang (by rw [wds_len]; exact h), getBang h]; simp [wds]
@[go_sem] theorem wds_app (l : List (List Int)) (x : List Int) : (wds l).map AV.int ++ [AV.int ((wsum x : Nat) : Int)] = (wds (l ++ [x])).map AV.int := by simp [wds]
@[go_sem] theorem rows_purge (id : Nat) (l : List (List Int)) : AV.purgeL id (l.map fun x => ints x) = l.map fun x => ints x := purgeL_map id _ _ fun _ => rfl
@[go_sem] theorem rows_purge1 (id : Nat) (l : List (List Int)) (x : List Int) : AV.purgeL id ((l.map fun x => ints x) ++ [ints x]) = (l.map fun x => ints x) ++ [ints x] := by
  rw [purgeL_append, rows_purge]; rfl
theorem reachedFrom_pc (t : Task) (s : List Int) (hw : WfT t) (hs : isSet s t.facts = true) : PCall Try.prog 44 [t.av, ints s] (fun r => (∃ l, r = .tup [rowsI l, .bool true] ∧ ReachL t s l) ∨ (r = .tup [.nilS, .bool false] ∧ ManyT t s)) := by
  have h40 := hw.n40
  have h0 := hw.f0
  have h24 := hw.f1
  (refine enterS Try.func44 Try.ntmps44 ?_)
  (repeat' (first | (refine hK _ ?_; clear hK K) | (refine aw_seq (fun K hK => ?_)) | (refine gRx 1 (by rfl) ?_; refine regS ?_) | (refine gD 9 ?_; refine drS (.it 0 0 (.it 1 0 (.it 2 0 (.it 3 0 (.it 4 0 (.it 5 0 (.it 6 1 (.it 7 0 .nil)))))))) [0, 1, 2, 3, 4, 5, 7] ?_) | (refine gD 10 ?_; refine drS (.it 0 0 (.it 1 0 (.it 2 0 (.it 3 0 (.it 4 0 (.it 5 0 (.it 6 1 (.it 7 0 .nil)))))))) [0, 1, 2, 3, 4, 5, 7] ?_) | (refine gC 45 ?_; refine callS (word_pc _ _ (by assumption) (by assumption)) ?_) | (refine gCd 39 ?_; refine callD (applies_pc _ _ _ (by omega) (by omega)) ?_) | (refine gCd 28 ?_; refine callD (after_pc _ _ _ (by omega) (by omega) (by omega) (by omega)) ?_) | (refine gC 38 ?_; refine callS (has_pc _ _) ?_) | (refine stk_op (fun K hK => ?_); (first | (refine aop_pv (pv_fieldAddrF (by rfl) (by rfl) (by first | decide | (simp; done) | (simp; omega))) ?_) | (refine aop_pv (pv_fieldAddrIF (by rfl) (by rfl) (by first | decide | (simp; done) | (simp; omega))) ?_) | (refine aop_pv (pv_eql (by rfl) (by rfl)) ?_) | (refine aop_pv (pv_eqlB (by rfl) (by rfl)) ?_) | (refine aop_pv (pv_eqlA (by rfl) (by rfl) (by kernel_rfl)) ?_) | (refine appendS ?_) | (refine virtS 51 54 1 24 22 ?_; refine appendS ?_) | (refine virtS 55 59 1 8 3 ?_; refine appendS ?_))) | (refine And.intro ?_ ?_) | (refine gDx ?_; refine adxS ?_) | (refine gE ?_; (first | (refine exN ?_) | (refine exS (fun _ => ?_)))) | (refine gQ ?_; (first | (refine condT ?_) | (refine condF ?_) | (refine condS (fun hc => ?_) (fun hc => ?_) <;> (try (first | contradiction | (exfalso; omega)))))) | (refine gWd ?_; refine wdrS ?_) | (refine gW ?_; refine wopsS ?_) | (refine aw_block ?_) | (refine gX ?_; refine exitS ?_) | (refine gT ?_; refine retS ?_) | (refine gS ?_; refine skipS ?_) | (apply_assumption (exfalso := false) (symm := false))))
  refine aw_region ?_
  refine aops_cons rfl (fun K1 hK1 => ?_)
  refine aop_pv pv_move ?_
  simp only [go_sem, Nat.reduceAdd, Nat.reduceMul, reduceIte, Nat.reduceEqDiff, Nat.reduceLeDiff, Int.reduceToNat, Int.reducePow, Int.reduceBEq, Int.reduceBNe, Int.reduceLT, Int.reduceLE, decide_true, decide_false]; refine hK1 _ ?_; clear hK1 K1
  refine aops_cons rfl (fun K1 hK1 => ?_)
  refine aop_of_x (aopx_buildSliceO (d := 12) ⟨by decide, by decide, by decide⟩ (by rfl) (by rfl) (by rfl) (by rfl) (by rfl) ?_)
  simp only [go_sem, Nat.reduceAdd, Nat.reduceMul, reduceIte, Nat.reduceEqDiff, Nat.reduceLeDiff, Int.reduceToNat, Int.reducePow, Int.reduceBEq, Int.reduceBNe, Int.reduceLT, Int.reduceLE, decide_true, decide_false]; refine hK1 _ ?_; clear hK1 K1
  refine wgo ?_
  (repeat' (first | (refine hK _ ?_; clear hK K) | (refine aw_seq (fun K hK => ?_)) | (refine gRx 2 (by rfl) ?_; refine regS ?_) | (refine gD 9 ?_; refine drS (.it 0 0 (.it 1 0 (.it 2 0 (.it 3 0 (.it 4 0 (.it 5 0 (.it 6 1 (.it 7 0 .nil)))))))) [0, 1, 2, 3, 4, 5, 7] ?_) | (refine gD 10 ?_; refine drS (.it 0 0 (.it 1 0 (.it 2 0 (.it 3 0 (.it 4 0 (.it 5 0 (.it 6 1 (.it 7 0 .nil)))))))) [0, 1, 2, 3, 4, 5, 7] ?_) | (refine gC 45 ?_; refine callS (word_pc _ _ (by assumption) (by assumption)) ?_) | (refine gCd 39 ?_; refine callD (applies_pc _ _ _ (by omega) (by omega)) ?_) | (refine gCd 28 ?_; refine callD (after_pc _ _ _ (by omega) (by omega) (by omega) (by omega)) ?_) | (refine gC 38 ?_; refine callS (has_pc _ _) ?_) | (refine stk_op (fun K hK => ?_); (first | (refine aop_pv (pv_fieldAddrF (by rfl) (by rfl) (by first | decide | (simp; done) | (simp; omega))) ?_) | (refine aop_pv (pv_fieldAddrIF (by rfl) (by rfl) (by first | decide | (simp; done) | (simp; omega))) ?_) | (refine aop_pv (pv_eql (by rfl) (by rfl)) ?_) | (refine aop_pv (pv_eqlB (by rfl) (by rfl)) ?_) | (refine aop_pv (pv_eqlA (by rfl) (by rfl) (by kernel_rfl)) ?_) | (refine appendS ?_) | (refine virtS 51 54 1 24 22 ?_; refine appendS ?_) | (refine virtS 55 59 1 8 3 ?_; refine appendS ?_))) | (refine And.intro ?_ ?_) | (refine gDx ?_; refine adxS ?_) | (refine gE ?_; (first | (refine exN ?_) | (refine exS (fun _ => ?_)))) | (refine gQ ?_; (first | (refine condT ?_) | (refine condF ?_) | (refine condS (fun hc => ?_) (fun hc => ?_) <;> (try (first | contradiction | (exfalso; omega)))))) | (refine gWd ?_; refine wdrS ?_) | (refine gW ?_; refine wopsS ?_) | (refine aw_block ?_) | (refine gX ?_; refine exitS ?_) | (refine gT ?_; refine retS ?_) | (refine gS ?_; refine skipS ?_) | (apply_assumption (exfalso := false) (symm := false))))
  refine aw_region ?_
  refine aops_cons rfl (fun K1 hK1 => ?_)
  refine aop_pv pv_move ?_
  simp only [go_sem, Nat.reduceAdd, Nat.reduceMul, reduceIte, Nat.reduceEqDiff, Nat.reduceLeDiff, Int.reduceToNat, Int.reducePow, Int.reduceBEq, Int.reduceBNe, Int.reduceLT, Int.reduceLE, decide_true, decide_false]; refine hK1 _ ?_; clear hK1 K1
  refine aops_cons rfl (fun K1 hK1 => ?_)
  refine aop_call (word_pc _ _ hs h24) (by rfl) (fun x hx => ?_)
  obtain rfl := hx
  simp only [go_sem, Nat.reduceAdd, Nat.reduceMul, reduceIte, Nat.reduceEqDiff, Nat.reduceLeDiff, Int.reduceToNat, Int.reducePow, Int.reduceBEq, Int.reduceBNe, Int.reduceLT, Int.reduceLE, decide_true, decide_false]; refine hK1 _ ?_; clear hK1 K1
  refine aops_cons rfl (fun K1 hK1 => ?_)
  refine aop_of_x (aopx_buildSliceO (d := 15) ⟨by decide, by decide, by decide⟩ (by rfl) (by rfl) (by rfl) (by rfl) (by rfl) ?_)
  simp only [go_sem, Nat.reduceAdd, Nat.reduceMul, reduceIte, Nat.reduceEqDiff, Nat.reduceLeDiff, Int.reduceToNat, Int.reducePow, Int.reduceBEq, Int.reduceBNe, Int.reduceLT, Int.reduceLE, decide_true, decide_false]; refine hK1 _ ?_; clear hK1 K1
  refine wgo ?_
  (repeat' (first | (refine hK _ ?_; clear hK K) | (refine aw_seq (fun K hK => ?_)) | (refine gR ?_; refine regS ?_) | (refine gD 9 ?_; refine drS (.it 0 0 (.it 1 0 (.it 2 0 (.it 3 0 (.it 4 0 (.it 5 0 (.it 6 1 (.it 7 0 .nil)))))))) [0, 1, 2, 3, 4, 5, 7] ?_) | (refine gD 10 ?_; refine drS (.it 0 0 (.it 1 0 (.it 2 0 (.it 3 0 (.it 4 0 (.it 5 0 (.it 6 1 (.it 7 0 .nil)))))))) [0, 1, 2, 3, 4, 5, 7] ?_) | (refine gC 45 ?_; refine callS (word_pc _ _ (by assumption) (by assumption)) ?_) | (refine gCd 39 ?_; refine callD (applies_pc _ _ _ (by omega) (by omega)) ?_) | (refine gCd 28 ?_; refine callD (after_pc _ _ _ (by omega) (by omega) (by omega) (by omega)) ?_) | (refine gC 38 ?_; refine callS (has_pc _ _) ?_) | (refine stk_op (fun K hK => ?_); (first | (refine aop_pv (pv_fieldAddrF (by rfl) (by rfl) (by first | decide | (simp; done) | (simp; omega))) ?_) | (refine aop_pv (pv_fieldAddrIF (by rfl) (by rfl) (by first | decide | (simp; done) | (simp; omega))) ?_) | (refine aop_pv (pv_eql (by rfl) (by rfl)) ?_) | (refine aop_pv (pv_eqlB (by rfl) (by rfl)) ?_) | (refine aop_pv (pv_eqlA (by rfl) (by rfl) (by kernel_rfl)) ?_) | (refine appendS ?_) | (refine virtS 51 54 1 24 22 ?_; refine appendS ?_) | (refine virtS 55 59 1 8 3 ?_; refine appendS ?_))) | (refine And.intro ?_ ?_) | (refine gDx ?_; refine adxS ?_) | (refine gE ?_; (first | (refine exN ?_) | (refine exS (fun _ => ?_)))) | (refine gQ ?_; (first | (refine condT ?_) | (refine condF ?_) | (refine condS (fun hc => ?_) (fun hc => ?_) <;> (try (first | contradiction | (exfalso; omega)))))) | (refine gWd ?_; refine wdrS ?_) | (refine gW ?_; refine wopsS ?_) | (refine aw_block ?_) | (refine gX ?_; refine exitS ?_) | (refine gT ?_; refine retS ?_) | (refine gS ?_; refine skipS ?_) | (apply_assumption (exfalso := false) (symm := false))))
  have hRI0 : RI t s 0 [s] := ⟨rfl, by simp, by simpa using hs, by simpa using ⟨[], rfl⟩, by simp, by simp, fun j hj => by omega⟩
  refine aw_loop_at (12 :: 15 :: [4, 5, 6, 7, 8, 9, 10, 16, 17, 18, 19, 20, 21, 22, 23, 24, 25, 26, 27, 28, 29, 30, 31, 32, 33, 34, 35, 36, 37, 38, 39, 40, 41, 42, 43, 44, 45, 46, 47, 48, 49, 50, 51, 52, 53, 54, 55, 56, 57, 58, 59]) (fun p : Nat × Bool × List (List Int) => RI t s p.1 p.2.2) (fun p => 2000 - p.1) (fun p => [(8, .int p.1), (6, .sl 1 24 12 0 p.2.2.length), (7, .sl 1 8 15 0 p.2.2.length)])
    (fun p => [(2, ⟨25, t.cs, true⟩), (12, ⟨22, p.2.2.map (fun x => ints x), p.2.1⟩), (15, ⟨3, (wds p.2.2).map AV.int, p.2.1⟩)]) (0, true, [s]) hRI0 ?_ ?_
  · (refine atS ?_)
    (exact weakS)
  · rintro ⟨i, fl, l⟩ hI K hK
    simp only at hI
    have hle := hI.le
    have hlen := hI.len
    (refine atS ?_)
    by_cases hlt : i < l.length
    · (repeat' (first | (refine hK _ ?_; clear hK K) | (refine aw_seq (fun K hK => ?_)) | (refine gR ?_; refine regS ?_) | (refine gD 9 ?_; refine drS (.it 0 0 (.it 1 0 (.it 2 0 (.it 3 0 (.it 4 0 (.it 5 0 (.it 6 1 (.it 7 0 .nil)))))))) [0, 1, 2, 3, 4, 5, 7] ?_) | (refine gD 10 ?_; refine drS (.it 0 0 (.it 1 0 (.it 2 0 (.it 3 0 (.it 4 0 (.it 5 0 (.it 6 1 (.it 7 0 .nil)))))))) [0, 1, 2, 3, 4, 5, 7] ?_) | (refine gC 45 ?_; refine callS (word_pc _ _ (by assumption) (by assumption)) ?_) | (refine gCd 39 ?_; refine callD (applies_pc _ _ _ (by omega) (by omega)) ?_) | (refine gCd 28 ?_; refine callD (after_pc _ _ _ (by omega) (by omega) (by omega) (by omega)) ?_) | (refine gC 38 ?_; refine callS (has_pc _ _) ?_) | (refine stk_op (fun K hK => ?_); (first | (refine aop_pv (pv_fieldAddrF (by rfl) (by rfl) (by first | decide | (simp; done) | (simp; omega))) ?_) | (refine aop_pv (pv_fieldAddrIF (by rfl) (by rfl) (by first | decide | (simp; done) | (simp; omega))) ?_) | (refine aop_pv (pv_eql (by rfl) (by rfl)) ?_) | (refine aop_pv (pv_eqlB (by rfl) (by rfl)) ?_) | (refine aop_pv (pv_eqlA (by rfl) (by rfl) (by kernel_rfl)) ?_) | (refine appendS ?_) | (refine virtS 51 54 1 24 22 ?_; refine appendS ?_) | (refine virtS 55 59 1 8 3 ?_; refine appendS ?_))) | (refine And.intro ?_ ?_) | (refine gDx ?_; refine adxS ?_) | (refine gE ?_; (first | (refine exN ?_) | (refine exS (fun _ => ?_)))) | (refine gQ ?_; (first | (refine condT ?_) | (refine condF ?_) | (refine condS (fun hc => ?_) (fun hc => ?_) <;> (try (first | contradiction | (exfalso; omega)))))) | (refine gWd ?_; refine wdrS ?_) | (refine gW ?_; refine wopsS ?_) | (refine aw_block ?_) | (refine gX ?_; refine exitS ?_) | (refine gT ?_; refine retS ?_) | (refine gS ?_; refine skipS ?_) | (apply_assumption (exfalso := false) (symm := false))))
      refine aw_loop_at (17 :: [4, 5, 6, 7, 9, 10, 22, 23, 24, 25, 26, 27, 28, 29, 30, 31, 32, 33, 34, 35, 36, 37, 38, 39, 40, 41, 42, 43, 44, 45, 46, 47, 48, 49, 50, 51, 52, 53, 54, 55, 56, 57, 58, 59]) (fun p : Nat × Bool × List (List Int) => RI t s i p.2.2 ∧ i < p.2.2.length ∧ p.1 ≤ t.ops.length ∧ ClAt t p.2.2 i p.1) (fun p => t.ops.length - p.1) (fun p => [(9, .int p.1), (6, .sl 1 24 12 0 p.2.2.length), (7, .sl 1 8 15 0 p.2.2.length)])
        (fun p => [(2, ⟨25, t.cs, true⟩), (12, ⟨22, p.2.2.map (fun x => ints x), p.2.1⟩), (15, ⟨3, (wds p.2.2).map AV.int, p.2.1⟩)]) (0, fl, l) ⟨hI, hlt, by simp, fun p hp => by simp at hp⟩ ?_ ?_
      · (refine atS ?_)
        (exact weakS)
      · clear hI hlt hle hlen
        rintro ⟨q, fl, l⟩ ⟨hI, hlt, hq, hcl⟩ K hK
        simp only at hI hlt hq hcl
        have hle := hI.le
        have hlen := hI.len
        (refine atS ?_)
        by_cases hqt : q < t.ops.length
        · have hg : l[i]! = l[i] := getBang hlt
          have hst := aft_set h0 l[i] t.ops[q]!
          
          (repeat' (first | (refine hK _ ?_; clear hK K) | (refine aw_seq (fun K hK => ?_)) | (refine gR ?_; refine regS ?_) | (refine gD 9 ?_; refine drS (.it 0 0 (.it 1 0 (.it 2 0 (.it 3 0 (.it 4 0 (.it 5 0 (.it 6 1 (.it 7 0 .nil)))))))) [0, 1, 2, 3, 4, 5, 7] ?_) | (refine gD 10 ?_; refine drS (.it 0 0 (.it 1 0 (.it 2 0 (.it 3 0 (.it 4 0 (.it 5 0 (.it 6 1 (.it 7 0 .nil)))))))) [0, 1, 2, 3, 4, 5, 7] ?_) | (refine gC 45 ?_; refine callS (word_pc _ _ (by assumption) (by assumption)) ?_) | (refine gCd 39 ?_; refine callD (applies_pc _ _ _ (by omega) (by omega)) ?_) | (refine gCd 28 ?_; refine callD (after_pc _ _ _ (by omega) (by omega) (by omega) (by omega)) ?_) | (refine gC 38 ?_; refine callS (has_pc _ _) ?_) | (refine stk_op (fun K hK => ?_); (first | ((refine aop_callB (le_sealMap (f := AV.int) 15 8 l.length (wds l) (by rfl) (by exact wds_len l) (fun _ => rfl) (fun _ => rfl)) (by first | (simp only [go_sem, Nat.reduceAdd, Nat.reduceMul, reduceIte, Nat.reduceEqDiff, Nat.reduceLeDiff, Int.reduceToNat, Int.reducePow, Int.reduceBEq, Int.reduceBNe, Int.reduceLT, Int.reduceLE, decide_true, decide_false, AV.sealSL, sealS_any, sealS_v, sealS_isl, sealS_iptr, sealS_ptr, sealS_sl, sealS_agg, sealS_tup, sealS_fn, purge_agg, purge_tup, purge_fn, and_self, AV.mentL, AV.ment, Bool.or_self]; done) | (simp only [go_sem, Nat.reduceAdd, Nat.reduceMul, reduceIte, Nat.reduceEqDiff, Nat.reduceLeDiff, Int.reduceToNat, Int.reducePow, Int.reduceBEq, Int.reduceBNe, Int.reduceLT, Int.reduceLE, decide_true, decide_false, AV.sealSL, sealS_any, sealS_v, sealS_isl, sealS_iptr, sealS_ptr, sealS_sl, sealS_agg, sealS_tup, sealS_fn, purge_agg, purge_tup, purge_fn, and_self, AV.mentL, AV.ment, Bool.or_self]; rfl)) (has_pc _ _) (by rfl) (fun x hx => ?_); obtain rfl := hx; refine ⟨rfl, ?_⟩)) | (refine aop_pv (pv_fieldAddrF (by rfl) (by rfl) (by first | decide | (simp; done) | (simp; omega))) ?_) | (refine aop_pv (pv_fieldAddrIF (by rfl) (by rfl) (by first | decide | (simp; done) | (simp; omega))) ?_) | (refine aop_pv (pv_eql (by rfl) (by rfl)) ?_) | (refine aop_pv (pv_eqlB (by rfl) (by rfl)) ?_) | (refine aop_pv (pv_eqlA (by rfl) (by rfl) (by kernel_rfl)) ?_) | (refine appendS ?_) | (refine virtS 51 54 1 24 22 ?_; refine appendS ?_) | (refine virtS 55 59 1 8 3 ?_; refine appendS ?_))) | (refine adx_op (fun K hK => ?_); (refine aop_callB (le_sealMap (f := AV.int) 15 8 l.length (wds l) (by rfl) (by exact wds_len l) (fun _ => rfl) (fun _ => rfl)) (by first | (simp only [go_sem, Nat.reduceAdd, Nat.reduceMul, reduceIte, Nat.reduceEqDiff, Nat.reduceLeDiff, Int.reduceToNat, Int.reducePow, Int.reduceBEq, Int.reduceBNe, Int.reduceLT, Int.reduceLE, decide_true, decide_false, AV.sealSL, sealS_any, sealS_v, sealS_isl, sealS_iptr, sealS_ptr, sealS_sl, sealS_agg, sealS_tup, sealS_fn, purge_agg, purge_tup, purge_fn, and_self, AV.mentL, AV.ment, Bool.or_self]; done) | (simp only [go_sem, Nat.reduceAdd, Nat.reduceMul, reduceIte, Nat.reduceEqDiff, Nat.reduceLeDiff, Int.reduceToNat, Int.reducePow, Int.reduceBEq, Int.reduceBNe, Int.reduceLT, Int.reduceLE, decide_true, decide_false, AV.sealSL, sealS_any, sealS_v, sealS_isl, sealS_iptr, sealS_ptr, sealS_sl, sealS_agg, sealS_tup, sealS_fn, purge_agg, purge_tup, purge_fn, and_self, AV.mentL, AV.ment, Bool.or_self]; rfl)) (has_pc _ _) (by rfl) (fun x hx => ?_); obtain rfl := hx; refine ⟨rfl, ?_⟩)) | (refine And.intro ?_ ?_) | (refine gDx ?_; refine adxS ?_) | (refine gE ?_; (first | (refine exN ?_) | (refine exS (fun _ => ?_)))) | (refine gQ ?_; (first | (refine condT ?_) | (refine condF ?_) | (refine condS (fun hc => ?_) (fun hc => ?_) <;> (try (first | contradiction | (exfalso; omega)))))) | (refine gWd ?_; refine wdrS ?_) | (refine gW ?_; refine wopsS ?_) | (refine aw_block ?_) | (refine gX ?_; refine exitS ?_) | (refine gT ?_; refine retS ?_) | (refine gS ?_; refine skipS ?_) | (apply_assumption (exfalso := false) (symm := false))))
          
          · refine ⟨(q + 1, fl, l), ⟨hI, hlt, by simp only; omega, hcl.next (by rw [hg]; intro h; simp_all)⟩, by simp only; omega, ?_⟩
            (refine atS ?_)
            (exact weakS)
          · refine ⟨(q + 1, fl, l), ⟨hI, hlt, by simp only; omega, hcl.next (fun _ => by rw [hg]; exact (wds_has hI.set hst).1 hc)⟩, by simp only; omega, ?_⟩
            (refine atS ?_)
            (exact weakS)
          · have hno : ¬ aft t.facts l[i]! t.ops[q]! ∈ l := by rw [hg]; intro h; have := (wds_has hI.set hst).2 h; simp_all
            (refine fin_le (Le.refl _) (rv_two (rv1_tmp (by rfl)) (rv1_tmp (by rfl))) (by first | rfl | (simp only [go_sem, Nat.reduceAdd, Nat.reduceMul, reduceIte, Nat.reduceEqDiff, Nat.reduceLeDiff, Int.reduceToNat, Int.reducePow, Int.reduceBEq, Int.reduceBNe, Int.reduceLT, Int.reduceLE, decide_true, decide_false])) ?_)
            exact .inr ⟨rfl, hI.many (by rw [hg]; exact hst) (hI.step hlt hqt (by rw [hg]; assumption)) hno (by omega)⟩
          · have hno : ¬ aft t.facts l[i]! t.ops[q]! ∈ l := by rw [hg]; intro h; have := (wds_has hI.set hst).2 h; simp_all
            have hI2 := hI.push (by rw [hg]; exact hst) (hI.step hlt hqt (by rw [hg]; assumption)) hno (by omega)
            have hcl2 := (hcl.push (x := aft t.facts l[i]! t.ops[q]!) hlt).next (fun _ => by rw [getBang (show i < (l ++ [aft t.facts l[i]! t.ops[q]!]).length by simp; omega), List.getElem_append_left hlt, ← hg]; simp)
            rw [hg] at hI2 hcl2
            refine ⟨(q + 1, false, l ++ [aft t.facts l[i] t.ops[q]!]), ⟨hI2, by simp; omega, by simp only; omega, hcl2⟩, by simp only; omega, ?_⟩
            (refine atS ?_)
            (exact weakS)
        · obtain rfl : q = t.ops.length := by omega
          (repeat' (first | (refine hK _ ?_; clear hK K) | (refine aw_seq (fun K hK => ?_)) | (refine gR ?_; refine regS ?_) | (refine gD 9 ?_; refine drS (.it 0 0 (.it 1 0 (.it 2 0 (.it 3 0 (.it 4 0 (.it 5 0 (.it 6 1 (.it 7 0 .nil)))))))) [0, 1, 2, 3, 4, 5, 7] ?_) | (refine gD 10 ?_; refine drS (.it 0 0 (.it 1 0 (.it 2 0 (.it 3 0 (.it 4 0 (.it 5 0 (.it 6 1 (.it 7 0 .nil)))))))) [0, 1, 2, 3, 4, 5, 7] ?_) | (refine gC 45 ?_; refine callS (word_pc _ _ (by assumption) (by assumption)) ?_) | (refine gCd 39 ?_; refine callD (applies_pc _ _ _ (by omega) (by omega)) ?_) | (refine gCd 28 ?_; refine callD (after_pc _ _ _ (by omega) (by omega) (by omega) (by omega)) ?_) | (refine gC 38 ?_; refine callS (has_pc _ _) ?_) | (refine stk_op (fun K hK => ?_); (first | (refine aop_pv (pv_fieldAddrF (by rfl) (by rfl) (by first | decide | (simp; done) | (simp; omega))) ?_) | (refine aop_pv (pv_fieldAddrIF (by rfl) (by rfl) (by first | decide | (simp; done) | (simp; omega))) ?_) | (refine aop_pv (pv_eql (by rfl) (by rfl)) ?_) | (refine aop_pv (pv_eqlB (by rfl) (by rfl)) ?_) | (refine aop_pv (pv_eqlA (by rfl) (by rfl) (by kernel_rfl)) ?_) | (refine appendS ?_) | (refine virtS 51 54 1 24 22 ?_; refine appendS ?_) | (refine virtS 55 59 1 8 3 ?_; refine appendS ?_))) | (refine And.intro ?_ ?_) | (refine gDx ?_; refine adxS ?_) | (refine gE ?_; (first | (refine exN ?_) | (refine exS (fun _ => ?_)))) | (refine gQ ?_; (first | (refine condT ?_) | (refine condF ?_) | (refine condS (fun hc => ?_) (fun hc => ?_) <;> (try (first | contradiction | (exfalso; omega)))))) | (refine gWd ?_; refine wdrS ?_) | (refine gW ?_; refine wopsS ?_) | (refine aw_block ?_) | (refine gX ?_; refine exitS ?_) | (refine gT ?_; refine retS ?_) | (refine gS ?_; refine skipS ?_) | (apply_assumption (exfalso := false) (symm := false))))
          refine ⟨(i + 1, fl, l), hI.next hlt hcl, by simp only; omega, ?_⟩
          (refine atS ?_)
          (exact weakS)
    · obtain rfl : i = l.length := by omega
      refine aw_le (le_sealMap (f := fun x => ints x) 12 24 l.length l (by rfl) rfl (fun _ => rfl) (fun _ => rfl)) ?_
      simp only [AV.sealSL, sealS_any, sealS_v, sealS_isl, sealS_iptr, sealS_ptr, sealS_sl, sealS_agg, sealS_tup, sealS_fn, purge_agg, purge_tup, purge_fn, and_self, AV.mentL, AV.ment, Bool.or_self, go_sem, Nat.reduceAdd, Nat.reduceMul, reduceIte, Nat.reduceEqDiff, Nat.reduceLeDiff, Int.reduceToNat, Int.reducePow, Int.reduceBEq, Int.reduceBNe, Int.reduceLT, Int.reduceLE, decide_true, decide_false]
      (repeat' (first | (refine hK _ ?_; clear hK K) | (refine aw_seq (fun K hK => ?_)) | (refine gR ?_; refine regS ?_) | (refine gD 9 ?_; refine drS (.it 0 0 (.it 1 0 (.it 2 0 (.it 3 0 (.it 4 0 (.it 5 0 (.it 6 1 (.it 7 0 .nil)))))))) [0, 1, 2, 3, 4, 5, 7] ?_) | (refine gD 10 ?_; refine drS (.it 0 0 (.it 1 0 (.it 2 0 (.it 3 0 (.it 4 0 (.it 5 0 (.it 6 1 (.it 7 0 .nil)))))))) [0, 1, 2, 3, 4, 5, 7] ?_) | (refine gC 45 ?_; refine callS (word_pc _ _ (by assumption) (by assumption)) ?_) | (refine gCd 39 ?_; refine callD (applies_pc _ _ _ (by omega) (by omega)) ?_) | (refine gCd 28 ?_; refine callD (after_pc _ _ _ (by omega) (by omega) (by omega) (by omega)) ?_) | (refine gC 38 ?_; refine callS (has_pc _ _) ?_) | (refine stk_op (fun K hK => ?_); (first | (refine aop_pv (pv_fieldAddrF (by rfl) (by rfl) (by first | decide | (simp; done) | (simp; omega))) ?_) | (refine aop_pv (pv_fieldAddrIF (by rfl) (by rfl) (by first | decide | (simp; done) | (simp; omega))) ?_) | (refine aop_pv (pv_eql (by rfl) (by rfl)) ?_) | (refine aop_pv (pv_eqlB (by rfl) (by rfl)) ?_) | (refine aop_pv (pv_eqlA (by rfl) (by rfl) (by kernel_rfl)) ?_) | (refine appendS ?_) | (refine virtS 51 54 1 24 22 ?_; refine appendS ?_) | (refine virtS 55 59 1 8 3 ?_; refine appendS ?_))) | (refine And.intro ?_ ?_) | (refine gDx ?_; refine adxS ?_) | (refine gE ?_; (first | (refine exN ?_) | (refine exS (fun _ => ?_)))) | (refine gQ ?_; (first | (refine condT ?_) | (refine condF ?_) | (refine condS (fun hc => ?_) (fun hc => ?_) <;> (try (first | contradiction | (exfalso; omega)))))) | (refine gWd ?_; refine wdrS ?_) | (refine gW ?_; refine wopsS ?_) | (refine aw_block ?_) | (refine gX ?_; refine exitS ?_) | (refine gT ?_; refine retS ?_) | (refine gS ?_; refine skipS ?_) | (apply_assumption (exfalso := false) (symm := false))))
      all_goals (refine fin_le (Le.refl _) (rv_two (rv1_tmp (by rfl)) (rv1_tmp (by rfl))) (by first | rfl | (simp only [go_sem, Nat.reduceAdd, Nat.reduceMul, reduceIte, Nat.reduceEqDiff, Nat.reduceLeDiff, Int.reduceToNat, Int.reducePow, Int.reduceBEq, Int.reduceBNe, Int.reduceLT, Int.reduceLE, decide_true, decide_false])) ?_)
      all_goals exact .inl ⟨l, rfl, hI.done⟩

end Go.Proofs.Ythdlckclpmfidaa
