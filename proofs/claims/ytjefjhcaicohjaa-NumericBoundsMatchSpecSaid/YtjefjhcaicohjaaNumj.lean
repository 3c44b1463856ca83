import Derived.Test.YtjefjhcaicohjaaNumi

namespace Go.Proofs.Ytjefjhcaicohjaa
open Go.Ab
open Go
set_option linter.unusedSimpArgs false
set_option linter.unusedVariables false
set_option maxRecDepth 10000
attribute [local irreducible] PV AOp AOps AW PCall OCall Ab.Fin OFin RV RV1 Le AStk AGrd ADr ADx ADo AOpX AAny
set_option maxHeartbeats 4000000
/-! intervals -/
abbrev pr (w : Int × Int) : AV := .agg [.int w.1, .int w.2]
abbrev prs (ws : List (Int × Int)) : AV := .isl 2 16 (ws.map pr)
def sumTo (g : Nat → Int) : Nat → Int
  | 0 => 0
  | k+1 => sumTo g k + g k
theorem sumTo_bd {g : Nat → Int} {n : Nat} (h : ∀ k, k < n → -1000000000 ≤ g k ∧ g k ≤ 1000000000) : ∀ k, k ≤ n → -(k * 1000000000 : Int) ≤ sumTo g k ∧ sumTo g k ≤ (k * 1000000000 : Int)
  | 0, _ => by simp [sumTo]
  | k+1, hk => by
    have := sumTo_bd h k (by omega)
    have := h k (by omega)
    simp only [sumTo]; omega
def loAt (l : List Int) (v : List (Int × Int)) (k : Nat) : Int := min (l[k]! * v[k]!.1) (l[k]! * v[k]!.2)
def hiAt (l : List Int) (v : List (Int × Int)) (k : Nat) : Int := max (l[k]! * v[k]!.1) (l[k]! * v[k]!.2)
def lowOf (l : List Int) (v : List (Int × Int)) : Int := sumTo (loAt l v) l.length
def highOf (l : List Int) (v : List (Int × Int)) : Int := sumTo (hiAt l v) l.length
def BdP (ws : List (Int × Int)) : Prop := ∀ w ∈ ws, (-1000000 ≤ w.1 ∧ w.1 ≤ 1000000) ∧ (-1000000 ≤ w.2 ∧ w.2 ≤ 1000000)
theorem lohi_bd {l : List Int} {v : List (Int × Int)} (hl : l.length = v.length) (b1 : Bd 1000 l) (b2 : BdP v) : ∀ k, k < l.length → (-1000000000 ≤ loAt l v k ∧ loAt l v k ≤ 1000000000) ∧ (-1000000000 ≤ hiAt l v k ∧ hiAt l v k ≤ 1000000000) := by
  intro k hk
  have hv : k < v.length := by omega
  have h1 := b1 _ (List.getElem_mem hk)
  have h2 := b2 _ (List.getElem_mem hv)
  unfold loAt hiAt
  rw [getBang hk, getBang hv]
  have m1 := mul_bd h1 h2.1
  have m2 := mul_bd h1 h2.2
  omega
theorem low_bd {l : List Int} {v : List (Int × Int)} (hl : l.length = v.length) (b1 : Bd 1000 l) (b2 : BdP v) : -(l.length * 1000000000 : Int) ≤ lowOf l v ∧ lowOf l v ≤ (l.length * 1000000000 : Int) :=
  sumTo_bd (fun k hk => (lohi_bd hl b1 b2 k hk).1) _ (Nat.le_refl _)
theorem high_bd {l : List Int} {v : List (Int × Int)} (hl : l.length = v.length) (b1 : Bd 1000 l) (b2 : BdP v) : -(l.length * 1000000000 : Int) ≤ highOf l v ∧ highOf l v ≤ (l.length * 1000000000 : Int) :=
  sumTo_bd (fun k hk => (lohi_bd hl b1 b2 k hk).2) _ (Nat.le_refl _)
theorem spanOf_pc (l : List Int) (v : List (Int × Int)) (hl : l.length = v.length) (h8 : v.length ≤ 8) (b1 : Bd 1000 l) (b2 : BdP v) : PCall Try.prog 117 [ints l, prs v] (fun r => r = .agg [.int (lowOf l v), .int (highOf l v)]) := by
  have hB := lohi_bd hl b1 b2
  (refine enterS Try.func117 Try.ntmps117 ?_)
  (repeat' (first | (refine hK _ ?_; clear hK K) | (refine aw_seq (fun K hK => ?_)) | (refine gR ?_; refine regS ?_) | (refine gD 5 ?_; refine drS (.it 0 0 (.it 1 0 (.it 2 0 (.it 3 0 (.it 4 0 (.it 5 0 (.it 6 0 (.it 7 0 (.it 8 0 (.it 9 0 (.it 10 0 (.it 11 0 (.it 12 0 (.it 13 0 (.it 14 0 (.it 15 0 .nil)))))))))))))))) [0, 1, 2, 3, 4, 5, 6, 7, 8, 9, 10, 11, 12, 13, 14, 15] ?_) | (refine gE ?_; (first | (refine exN ?_) | (refine exS (fun _ => ?_)))) | (refine stk_op (fun K hK => ?_); (first | (refine aop_pv (pv_fieldAddrF (by rfl) (by rfl) (by first | decide | (simp; done) | (simp; omega))) ?_) | (refine aop_pv (pv_fieldAddrIF (by rfl) (by rfl) (by first | decide | (simp; done) | (simp; omega))) ?_))) | (refine adx_op (fun K hK => ?_); (first | (refine pv_fieldAddrF (by rfl) (by rfl) (by first | decide | (simp; done) | (simp; omega)) ?_) | (refine pv_fieldAddrIF (by rfl) (by rfl) (by first | decide | (simp; done) | (simp; omega)) ?_))) | (refine And.intro ?_ ?_) | (refine gDx ?_; refine adxS ?_) | (refine gQ ?_; (first | (refine condT ?_) | (refine condF ?_) | (refine condS (fun hc => ?_) (fun hc => ?_) <;> (try (first | contradiction | (exfalso; omega)))))) | (refine gW ?_; refine wopsS ?_) | (refine gWd ?_; refine wdrS ?_) | (refine aw_block ?_) | (refine gX ?_; refine exitS ?_) | (refine gT ?_; refine retS ?_) | (refine gS ?_; refine skipS ?_) | (apply_assumption (exfalso := false) (symm := false))))
  refine aw_loop_at [6, 7, 8, 9, 12, 13, 14, 15, 16, 17, 18, 19, 20, 21, 22, 23, 24, 25, 26, 27, 28, 29, 30, 31, 32, 33, 34, 35, 36, 37, 38, 39, 40, 41, 42, 43, 44, 45] (fun k : Nat => k ≤ l.length) (fun k => l.length - k) (fun k => [(12, .int k)]) (fun k => [(4, ⟨122, [.int 0, .int 0], true⟩), (5, ⟨122, [.int (sumTo (loAt l v) k), .int (sumTo (hiAt l v) k)], true⟩)]) 0 (by omega) ?_ ?_
  · (simp only [sets, havoc, go_sem, Nat.reduceAdd, Nat.reduceMul, reduceIte, Nat.reduceEqDiff, Nat.reduceLeDiff, Int.reduceBEq, Int.reduceBNe, Int.reduceLT, Int.reduceLE, decide_true, decide_false])
    (exact weakS)
  · rintro k hk K hK
    (simp only [sets, havoc, go_sem, Nat.reduceAdd, Nat.reduceMul, reduceIte, Nat.reduceEqDiff, Nat.reduceLeDiff, Int.reduceBEq, Int.reduceBNe, Int.reduceLT, Int.reduceLE, decide_true, decide_false])
    by_cases hlt : k < l.length
    · have hv : k < v.length := by omega
      have m1 := mul_bd (b1 _ (List.getElem_mem hlt)) (b2 _ (List.getElem_mem hv)).1
      have m2 := mul_bd (b1 _ (List.getElem_mem hlt)) (b2 _ (List.getElem_mem hv)).2
      have s1 := sumTo_bd (fun k hk => (hB k hk).1) k hk
      have s2 := sumTo_bd (fun k hk => (hB k hk).2) k hk
      have e1 : sumTo (loAt l v) (k + 1) = sumTo (loAt l v) k + min (l[k] * v[k].1) (l[k] * v[k].2) := by simp only [sumTo, loAt, getBang hlt, getBang hv]
      have e2 : sumTo (hiAt l v) (k + 1) = sumTo (hiAt l v) k + max (l[k] * v[k].1) (l[k] * v[k].2) := by simp only [sumTo, hiAt, getBang hlt, getBang hv]
      (repeat' (first | (refine hK _ ?_; clear hK K) | (refine aw_seq (fun K hK => ?_)) | (refine gR ?_; refine regS ?_) | (refine gD 5 ?_; refine drS (.it 0 0 (.it 1 0 (.it 2 0 (.it 3 0 (.it 4 0 (.it 5 0 (.it 6 0 (.it 7 0 (.it 8 0 (.it 9 0 (.it 10 0 (.it 11 0 (.it 12 0 (.it 13 0 (.it 14 0 (.it 15 0 .nil)))))))))))))))) [0, 1, 2, 3, 4, 5, 6, 7, 8, 9, 10, 11, 12, 13, 14, 15] ?_) | (refine gE ?_; (first | (refine exN ?_) | (refine exS (fun _ => ?_)))) | (refine stk_op (fun K hK => ?_); (first | (refine aop_pv (pv_fieldAddrF (by rfl) (by rfl) (by first | decide | (simp; done) | (simp; omega))) ?_) | (refine aop_pv (pv_fieldAddrIF (by rfl) (by rfl) (by first | decide | (simp; done) | (simp; omega))) ?_))) | (refine adx_op (fun K hK => ?_); (first | (refine pv_fieldAddrF (by rfl) (by rfl) (by first | decide | (simp; done) | (simp; omega)) ?_) | (refine pv_fieldAddrIF (by rfl) (by rfl) (by first | decide | (simp; done) | (simp; omega)) ?_))) | (refine And.intro ?_ ?_) | (refine gDx ?_; refine adxS ?_) | (refine gQ ?_; (first | (refine condT ?_) | (refine condF ?_) | (refine condS (fun hc => ?_) (fun hc => ?_) <;> (try (first | contradiction | (exfalso; omega)))))) | (refine gW ?_; refine wopsS ?_) | (refine gWd ?_; refine wdrS ?_) | (refine aw_block ?_) | (refine gX ?_; refine exitS ?_) | (refine gT ?_; refine retS ?_) | (refine gS ?_; refine skipS ?_) | (apply_assumption (exfalso := false) (symm := false))))
      refine ⟨k + 1, by omega, by omega, ?_⟩
      rw [e1, e2]
      (simp only [sets, havoc, go_sem, Nat.reduceAdd, Nat.reduceMul, reduceIte, Nat.reduceEqDiff, Nat.reduceLeDiff, Int.reduceBEq, Int.reduceBNe, Int.reduceLT, Int.reduceLE, decide_true, decide_false])
      (exact weakS)
    · obtain rfl : k = l.length := by omega
      (repeat' (first | (refine hK _ ?_; clear hK K) | (refine aw_seq (fun K hK => ?_)) | (refine gR ?_; refine regS ?_) | (refine gD 5 ?_; refine drS (.it 0 0 (.it 1 0 (.it 2 0 (.it 3 0 (.it 4 0 (.it 5 0 (.it 6 0 (.it 7 0 (.it 8 0 (.it 9 0 (.it 10 0 (.it 11 0 (.it 12 0 (.it 13 0 (.it 14 0 (.it 15 0 .nil)))))))))))))))) [0, 1, 2, 3, 4, 5, 6, 7, 8, 9, 10, 11, 12, 13, 14, 15] ?_) | (refine gE ?_; (first | (refine exN ?_) | (refine exS (fun _ => ?_)))) | (refine stk_op (fun K hK => ?_); (first | (refine aop_pv (pv_fieldAddrF (by rfl) (by rfl) (by first | decide | (simp; done) | (simp; omega))) ?_) | (refine aop_pv (pv_fieldAddrIF (by rfl) (by rfl) (by first | decide | (simp; done) | (simp; omega))) ?_))) | (refine adx_op (fun K hK => ?_); (first | (refine pv_fieldAddrF (by rfl) (by rfl) (by first | decide | (simp; done) | (simp; omega)) ?_) | (refine pv_fieldAddrIF (by rfl) (by rfl) (by first | decide | (simp; done) | (simp; omega)) ?_))) | (refine And.intro ?_ ?_) | (refine gDx ?_; refine adxS ?_) | (refine gQ ?_; (first | (refine condT ?_) | (refine condF ?_) | (refine condS (fun hc => ?_) (fun hc => ?_) <;> (try (first | contradiction | (exfalso; omega)))))) | (refine gW ?_; refine wopsS ?_) | (refine gWd ?_; refine wdrS ?_) | (refine aw_block ?_) | (refine gX ?_; refine exitS ?_) | (refine gT ?_; refine retS ?_) | (refine gS ?_; refine skipS ?_) | (apply_assumption (exfalso := false) (symm := false))))
      (refine fin_le (Le.refl _) (rv_one (rv1_cell (by first | exact pv_load (by rfl) (by rfl) (by rfl) (by rfl) | exact pv_loadA (by rfl) (by rfl) (by rfl) (by first | decide | simp)))) (by first | rfl | (simp only [go_sem, Nat.reduceAdd, Nat.reduceMul, reduceIte, Nat.reduceEqDiff, Nat.reduceLeDiff, Int.reduceBEq, Int.reduceBNe, Int.reduceLT, Int.reduceLE, decide_true, decide_false])) ?_)
      rfl

def exAt (s : Int) (l : List Int) (v : List (Int × Int)) (k : Nat) : Int := max (s * l[k]! * v[k]!.1) (s * l[k]! * v[k]!.2)
theorem ex_one (l : List Int) (v : List (Int × Int)) : ∀ k, sumTo (exAt 1 l v) k = sumTo (hiAt l v) k
  | 0 => rfl
  | k+1 => by simp only [sumTo, ex_one l v k, exAt, hiAt, Int.one_mul]
theorem ex_neg (l : List Int) (v : List (Int × Int)) : ∀ k, sumTo (exAt (-1) l v) k = - sumTo (loAt l v) k
  | 0 => rfl
  | k+1 => by
    simp only [sumTo, ex_neg l v k, exAt, loAt]
    have h : ∀ a b c : Int, max (-1 * a * b) (-1 * a * c) = - min (a * b) (a * c) := by
      intro a b c
      have e1 : -1 * a * b = -(a * b) := by rw [Int.neg_mul, Int.one_mul, Int.neg_mul]
      have e2 : -1 * a * c = -(a * c) := by rw [Int.neg_mul, Int.one_mul, Int.neg_mul]
      rw [e1, e2]; omega
    rw [h]; omega
theorem extreme_pc (s : Int) (hs : s = 1 ∨ s = -1) (l : List Int) (v : List (Int × Int)) (hl : l.length = v.length) (h8 : v.length ≤ 8) (b1 : Bd 1000 l) (b2 : BdP v) : PCall Try.prog 88 [ints l, prs v, .int s] (fun r => r = .int (s * sumTo (exAt s l v) l.length)) := by
  have hx : ∀ k (hk : k < l.length) (hv : k < v.length), (-1000 ≤ s * l[k] ∧ s * l[k] ≤ 1000) ∧ (-1000000000 ≤ s * l[k] * v[k].1 ∧ s * l[k] * v[k].1 ≤ 1000000000) ∧ (-1000000000 ≤ s * l[k] * v[k].2 ∧ s * l[k] * v[k].2 ≤ 1000000000) := by
    intro k hk hv
    have h1 := b1 _ (List.getElem_mem hk)
    have h2 := b2 _ (List.getElem_mem hv)
    have h3 : -1000 ≤ s * l[k] ∧ s * l[k] ≤ 1000 := by rcases hs with rfl | rfl <;> omega
    exact ⟨h3, mul_bd h3 h2.1, mul_bd h3 h2.2⟩
  have hB : ∀ k, k < l.length → -1000000000 ≤ exAt s l v k ∧ exAt s l v k ≤ 1000000000 := by
    intro k hk
    have hv : k < v.length := by omega
    have := hx k hk hv
    unfold exAt; rw [getBang hk, getBang hv]; omega
  (refine enterS Try.func88 Try.ntmps88 ?_)
  (refine aw_bound (i := 0) rfl (fun hb0 => ?_); (try simp only [List.length_map] at hb0))
  (repeat' (first | (refine hK _ ?_; clear hK K) | (refine aw_seq (fun K hK => ?_)) | (refine gR ?_; refine regS ?_) | (refine gD 5 ?_; refine drS (.it 0 0 (.it 1 0 (.it 2 0 (.it 3 0 (.it 4 0 (.it 5 0 (.it 6 0 (.it 7 0 (.it 8 0 (.it 9 0 (.it 10 0 (.it 11 0 (.it 12 0 .nil))))))))))))) [0, 1, 2, 3, 4, 5, 6, 7, 8, 9, 10, 11, 12] ?_) | (refine gD 6 ?_; refine drS (.it 0 0 (.it 1 0 (.it 2 0 (.it 3 0 (.it 4 0 (.it 5 0 (.it 6 0 (.it 7 0 (.it 8 0 (.it 9 0 (.it 10 0 (.it 11 0 (.it 12 0 .nil))))))))))))) [0, 1, 2, 3, 4, 5, 6, 7, 8, 9, 10, 11, 12] ?_) | (refine gE ?_; (first | (refine exN ?_) | (refine exS (fun _ => ?_)))) | (refine And.intro ?_ ?_) | (refine gDx ?_; refine adxS ?_) | (refine gQ ?_; (first | (refine condT ?_) | (refine condF ?_) | (refine condS (fun hc => ?_) (fun hc => ?_) <;> (try (first | contradiction | (exfalso; omega)))))) | (refine gW ?_; refine wopsS ?_) | (refine gWd ?_; refine wdrS ?_) | (refine aw_block ?_) | (refine gX ?_; refine exitS ?_) | (refine gT ?_; refine retS ?_) | (refine gS ?_; refine skipS ?_) | (apply_assumption (exfalso := false) (symm := false))))
  refine aw_loop_at [7, 8, 9, 10, 11, 12, 13, 14, 15, 16, 17, 18, 19, 20, 21, 22, 23, 24, 25, 26, 27, 28, 29, 30, 31, 32, 33, 34, 35, 36, 37, 38, 39, 40, 41, 42, 43, 44, 45, 46, 47] (fun k : Nat => k ≤ l.length) (fun k => l.length - k) (fun k => [(8, .int k), (7, .int (sumTo (exAt s l v) k))]) (fun k => []) 0 (by omega) ?_ ?_
  · (simp only [sets, havoc, go_sem, Nat.reduceAdd, Nat.reduceMul, reduceIte, Nat.reduceEqDiff, Nat.reduceLeDiff, Int.reduceBEq, Int.reduceBNe, Int.reduceLT, Int.reduceLE, decide_true, decide_false])
    (exact weakS)
  · rintro k hk K hK
    (simp only [sets, havoc, go_sem, Nat.reduceAdd, Nat.reduceMul, reduceIte, Nat.reduceEqDiff, Nat.reduceLeDiff, Int.reduceBEq, Int.reduceBNe, Int.reduceLT, Int.reduceLE, decide_true, decide_false])
    have s1 := sumTo_bd hB k hk
    by_cases hlt : k < l.length
    · have hv : k < v.length := by omega
      obtain ⟨m0, m1, m2⟩ := hx k hlt hv
      have e1 : sumTo (exAt s l v) (k + 1) = sumTo (exAt s l v) k + max (s * l[k] * v[k].1) (s * l[k] * v[k].2) := by simp only [sumTo, exAt, getBang hlt, getBang hv]
      (repeat' (first | (refine hK _ ?_; clear hK K) | (refine aw_seq (fun K hK => ?_)) | (refine gR ?_; refine regS ?_) | (refine gD 5 ?_; refine drS (.it 0 0 (.it 1 0 (.it 2 0 (.it 3 0 (.it 4 0 (.it 5 0 (.it 6 0 (.it 7 0 (.it 8 0 (.it 9 0 (.it 10 0 (.it 11 0 (.it 12 0 .nil))))))))))))) [0, 1, 2, 3, 4, 5, 6, 7, 8, 9, 10, 11, 12] ?_) | (refine gD 6 ?_; refine drS (.it 0 0 (.it 1 0 (.it 2 0 (.it 3 0 (.it 4 0 (.it 5 0 (.it 6 0 (.it 7 0 (.it 8 0 (.it 9 0 (.it 10 0 (.it 11 0 (.it 12 0 .nil))))))))))))) [0, 1, 2, 3, 4, 5, 6, 7, 8, 9, 10, 11, 12] ?_) | (refine gE ?_; (first | (refine exN ?_) | (refine exS (fun _ => ?_)))) | (refine And.intro ?_ ?_) | (refine gDx ?_; refine adxS ?_) | (refine gQ ?_; (first | (refine condT ?_) | (refine condF ?_) | (refine condS (fun hc => ?_) (fun hc => ?_) <;> (try (first | contradiction | (exfalso; omega)))))) | (refine gW ?_; refine wopsS ?_) | (refine gWd ?_; refine wdrS ?_) | (refine aw_block ?_) | (refine gX ?_; refine exitS ?_) | (refine gT ?_; refine retS ?_) | (refine gS ?_; refine skipS ?_) | (apply_assumption (exfalso := false) (symm := false))))
      all_goals first
        | (refine ⟨k + 1, by omega, by omega, ?_⟩; rw [e1, Int.max_eq_right (by omega)]; (simp only [sets, havoc, go_sem, Nat.reduceAdd, Nat.reduceMul, reduceIte, Nat.reduceEqDiff, Nat.reduceLeDiff, Int.reduceBEq, Int.reduceBNe, Int.reduceLT, Int.reduceLE, decide_true, decide_false]); (exact weakS); done)
        | (refine ⟨k + 1, by omega, by omega, ?_⟩; rw [e1, Int.max_eq_left (by omega)]; (simp only [sets, havoc, go_sem, Nat.reduceAdd, Nat.reduceMul, reduceIte, Nat.reduceEqDiff, Nat.reduceLeDiff, Int.reduceBEq, Int.reduceBNe, Int.reduceLT, Int.reduceLE, decide_true, decide_false]); (exact weakS); done)
    · obtain rfl : k = l.length := by omega
      have hq : -8000000000 ≤ s * sumTo (exAt s l v) l.length ∧ s * sumTo (exAt s l v) l.length ≤ 8000000000 := by rcases hs with rfl | rfl <;> omega
      (repeat' (first | (refine hK _ ?_; clear hK K) | (refine aw_seq (fun K hK => ?_)) | (refine gR ?_; refine regS ?_) | (refine gD 5 ?_; refine drS (.it 0 0 (.it 1 0 (.it 2 0 (.it 3 0 (.it 4 0 (.it 5 0 (.it 6 0 (.it 7 0 (.it 8 0 (.it 9 0 (.it 10 0 (.it 11 0 (.it 12 0 .nil))))))))))))) [0, 1, 2, 3, 4, 5, 6, 7, 8, 9, 10, 11, 12] ?_) | (refine gD 6 ?_; refine drS (.it 0 0 (.it 1 0 (.it 2 0 (.it 3 0 (.it 4 0 (.it 5 0 (.it 6 0 (.it 7 0 (.it 8 0 (.it 9 0 (.it 10 0 (.it 11 0 (.it 12 0 .nil))))))))))))) [0, 1, 2, 3, 4, 5, 6, 7, 8, 9, 10, 11, 12] ?_) | (refine gE ?_; (first | (refine exN ?_) | (refine exS (fun _ => ?_)))) | (refine And.intro ?_ ?_) | (refine gDx ?_; refine adxS ?_) | (refine gQ ?_; (first | (refine condT ?_) | (refine condF ?_) | (refine condS (fun hc => ?_) (fun hc => ?_) <;> (try (first | contradiction | (exfalso; omega)))))) | (refine gW ?_; refine wopsS ?_) | (refine gWd ?_; refine wdrS ?_) | (refine aw_block ?_) | (refine gX ?_; refine exitS ?_) | (refine gT ?_; refine retS ?_) | (refine gS ?_; refine skipS ?_) | (apply_assumption (exfalso := false) (symm := false))))
      (refine fin_le (Le.refl _) (rv_one (rv1_tmp (by rfl))) (by first | rfl | (simp only [go_sem, Nat.reduceAdd, Nat.reduceMul, reduceIte, Nat.reduceEqDiff, Nat.reduceLeDiff, Int.reduceBEq, Int.reduceBNe, Int.reduceLT, Int.reduceLE, decide_true, decide_false])) ?_)
      rfl
theorem high_pc (l : List Int) (v : List (Int × Int)) (hl : l.length = v.length) (h8 : v.length ≤ 8) (b1 : Bd 1000 l) (b2 : BdP v) : PCall Try.prog 88 [ints l, prs v, .int 1] (fun r => r = .int (highOf l v)) :=
  (extreme_pc 1 (.inl rfl) l v hl h8 b1 b2).mono fun x hx => by rw [hx, ex_one, Int.one_mul]; rfl
theorem low_pc (l : List Int) (v : List (Int × Int)) (hl : l.length = v.length) (h8 : v.length ≤ 8) (b1 : Bd 1000 l) (b2 : BdP v) : PCall Try.prog 88 [ints l, prs v, .int (-1)] (fun r => r = .int (lowOf l v)) :=
  (extreme_pc (-1) (.inr rfl) l v hl h8 b1 b2).mono fun x hx => by rw [hx, ex_neg, Int.neg_mul_neg, Int.one_mul]; rfl


def spFails (v : List (Int × Int)) (c : Cmp) : Bool := decide (highOf c.f v < c.bound) || (decide (c.kind = 2) && decide (c.bound < lowOf c.f v))
def posN (v : List (Int × Int)) (l : List Cmp) : Bool := !l.any (spFails v)
theorem pf_t {v : List (Int × Int)} {c : Cmp} (h : highOf c.f v < c.bound ∨ (c.kind = 2 ∧ c.bound < lowOf c.f v)) : spFails v c = true := by simpa [spFails] using h
theorem pf_f {v : List (Int × Int)} {c : Cmp} (h : ¬ (highOf c.f v < c.bound ∨ (c.kind = 2 ∧ c.bound < lowOf c.f v))) : spFails v c = false := by
  cases hq : spFails v c with
  | false => rfl
  | true => exact absurd (by simpa [spFails] using hq) h
theorem pos_no {v : List (Int × Int)} {l : List Cmp} {k : Nat} (hk : k < l.length) (h : spFails v l[k] = true) : posN v l = false := by
  unfold posN; rw [List.any_eq_true.2 ⟨_, List.getElem_mem hk, h⟩]; rfl
theorem pos_yes {v : List (Int × Int)} {l : List Cmp} {k : Nat} (hn : ∀ i (hi : i < l.length), i < k → spFails v l[i] = false) (hk : l.length ≤ k) : posN v l = true := by
  unfold posN
  have : l.any (spFails v) = false := by
    rw [List.any_eq_false]; intro x hx; obtain ⟨i, hi, rfl⟩ := List.getElem_of_mem hx; simp [hn i hi (by omega)]
  rw [this]; rfl
theorem possibleF_pc (v : List (Int × Int)) (h8 : v.length ≤ 8) (b2 : BdP v) (l : List Cmp) (hw : WfC v.length l) : Answers 127 [.iptr [prs v]] Cmp.av (spFails v) l := by
  intro c hc
  obtain ⟨hl, b1⟩ := hw c hc
  clear hc
  (refine enterS Try.func127 Try.ntmps127 ?_)
  (repeat' (first | (refine hK _ ?_; clear hK K) | (refine aw_seq (fun K hK => ?_)) | (refine gR ?_; refine regS ?_) | (refine gE ?_; (first | (refine exN ?_) | (refine exS (fun _ => ?_)))) | (refine gC 117 ?_; refine callS (spanOf_pc _ _ (by assumption) (by assumption) (by assumption) (by assumption)) ?_) | (refine stk_op (fun K hK => ?_); (first | (refine aop_pv (pv_fieldAddrF (by rfl) (by rfl) (by first | decide | (simp; done) | (simp; omega))) ?_) | (refine aop_pv (pv_fieldAddrIF (by rfl) (by rfl) (by first | decide | (simp; done) | (simp; omega))) ?_) | (refine aop_pv (pv_eql (by rfl) (by rfl)) ?_) | (refine aop_pv (pv_eqlB (by rfl) (by rfl)) ?_) | (refine aop_pv (pv_eqlA (by rfl) (by rfl) (by kernel_rfl)) ?_))) | (refine gQ ?_; (first | (refine condT ?_) | (refine condF ?_) | (refine condS (fun hc => ?_) (fun hc => ?_) <;> (try (first | contradiction | (exfalso; omega)))))) | (refine gG ?_; refine guardS (fun hc => ?_) (fun hc => ?_) <;> (try (first | contradiction | (exfalso; omega)))) | (refine gW ?_; refine wopsS ?_) | (refine aw_block ?_) | (refine gX ?_; refine exitS ?_) | (refine gT ?_; refine retS ?_) | (refine gS ?_; refine skipS ?_) | (apply_assumption (exfalso := false) (symm := false))))
  all_goals (refine fin_le (Le.refl _) (rv_one (rv1_tmp (by rfl))) (by first | rfl | (simp only [go_sem, Nat.reduceAdd, Nat.reduceMul, reduceIte, Nat.reduceEqDiff, Nat.reduceLeDiff, Int.reduceBEq, Int.reduceBNe, Int.reduceLT, Int.reduceLE, decide_true, decide_false])) ?_)
  all_goals (by_cases h1 : highOf c.f v < c.bound <;> by_cases h2 : c.kind = 2 <;> by_cases h3 : c.bound < lowOf c.f v <;> first | (exfalso; omega) | simp [spFails, h1, h2, h3])

theorem possible_pc (v : List (Int × Int)) (h8 : v.length ≤ 8) (b2 : BdP v) (l : List Cmp) (hw : WfC v.length l) : PCall Try.prog 116 [.isl 3 40 (l.map Cmp.av), prs v] (fun r => r = .bool (posN v l)) := by
  (refine enterS Try.func116 Try.ntmps116 ?_)
  (repeat' (first | (refine hK _ ?_; clear hK K) | (refine aw_seq (fun K hK => ?_)) | (refine gR ?_; refine regS ?_) | (refine gE ?_; (first | (refine exN ?_) | (refine exS (fun _ => ?_)))) | (refine gC 113 ?_; refine callS (containsFuncC_pc _ 114 [.iptr [ints _]] rfl _ (holdsF_pc _ (by assumption) (by assumption) _ (by assumption))) ?_) | (refine gC 113 ?_; refine callS (containsFuncC_pc _ 127 [.iptr [prs _]] rfl _ (possibleF_pc _ (by assumption) (by assumption) _ (by assumption))) ?_) | (refine stk_op (fun K hK => ?_); (first | (refine aop_le (le_sealPtr 3 rfl rfl rfl) ?_; simp only [go_sem, Nat.reduceAdd, Nat.reduceMul, reduceIte, Nat.reduceEqDiff, Nat.reduceLeDiff, Int.reduceBEq, Int.reduceBNe, Int.reduceLT, Int.reduceLE, decide_true, decide_false]; refine aop_pv pv_makeFunc ?_))) | (refine gQ ?_; (first | (refine condT ?_) | (refine condF ?_) | (refine condS (fun hc => ?_) (fun hc => ?_) <;> (try (first | contradiction | (exfalso; omega)))))) | (refine gW ?_; refine wopsS ?_) | (refine aw_block ?_) | (refine gX ?_; refine exitS ?_) | (refine gT ?_; refine retS ?_) | (refine gS ?_; refine skipS ?_) | (apply_assumption (exfalso := false) (symm := false))))
  (refine fin_le (Le.refl _) (rv_one (rv1_tmp (by rfl))) (by first | rfl | (simp only [go_sem, Nat.reduceAdd, Nat.reduceMul, reduceIte, Nat.reduceEqDiff, Nat.reduceLeDiff, Int.reduceBEq, Int.reduceBNe, Int.reduceLT, Int.reduceLE, decide_true, decide_false])) ?_)
  rfl

theorem conceivable_pc (v : List (Int × Int)) (h8 : v.length ≤ 8) (b2 : BdP v) (l : List Cmp) (hw : WfC v.length l) : PCall Try.prog 87 [.isl 3 40 (l.map Cmp.av), prs v] (fun r => r = .bool (posN v l)) := by
  (refine enterS Try.func87 Try.ntmps87 ?_)
  (refine aw_bound (i := 0) rfl (fun hb => ?_); (try simp only [List.length_map] at hb))
  (repeat' (first | (refine hK _ ?_; clear hK K) | (refine aw_seq (fun K hK => ?_)) | (refine gR ?_; refine regS ?_) | (refine gD 4 ?_; refine drS (.it 0 0 (.it 1 0 (.it 2 0 (.it 3 0 (.it 4 0 (.it 5 0 (.it 7 0 (.it 8 0 (.it 9 0 (.it 10 0 (.it 11 0 (.it 6 1 (.it 12 0 (.it 13 0 (.it 14 0 (.it 15 0 (.it 16 0 (.it 17 0 (.it 18 0 (.it 19 0 (.it 20 0 (.it 21 0 (.it 22 0 (.it 23 0 (.it 24 0 (.it 25 0 (.it 26 0 (.it 28 0 (.it 29 0 (.it 30 0 (.it 31 0 (.it 32 0 (.it 27 2 (.it 33 0 (.it 34 0 (.it 35 0 .nil)))))))))))))))))))))))))))))))))))) [0, 1, 2, 3, 4, 5, 7, 8, 9, 10, 11, 12, 13, 14, 15, 16, 17, 18, 19, 20, 21, 22, 23, 24, 25, 26, 27, 28, 29, 30, 31, 32, 33, 34, 35] ?_) | (refine gE ?_; (first | (refine exN ?_) | (refine exS (fun _ => ?_)))) | (refine gCd 88 ?_; refine callD (high_pc _ _ (by assumption) (by assumption) (by assumption) (by assumption)) ?_) | (refine gCd 88 ?_; refine callD (low_pc _ _ (by assumption) (by assumption) (by assumption) (by assumption)) ?_) | (refine adx_op (fun K hK => ?_); (first | (refine pv_fieldAddrF (by rfl) (by rfl) (by first | decide | (simp; done) | (simp; omega)) ?_) | (refine pv_fieldAddrIF (by rfl) (by rfl) (by first | decide | (simp; done) | (simp; omega)) ?_) | (refine pv_eql (by rfl) (by rfl) ?_) | (refine pv_eqlB (by rfl) (by rfl) ?_) | (refine pv_eqlA (by rfl) (by rfl) (by kernel_rfl) ?_))) | (refine And.intro ?_ ?_) | (refine gDx ?_; refine adxS ?_) | (refine gQ ?_; (first | (refine condT ?_) | (refine condF ?_) | (refine condS (fun hc => ?_) (fun hc => ?_) <;> (try (first | contradiction | (exfalso; omega)))))) | (refine gGd ?_; refine guardD (fun hc => ?_) (fun hc => ?_) <;> (try (first | contradiction | (exfalso; omega)))) | (refine gW ?_; refine wopsS ?_) | (refine gWd ?_; refine wdrS ?_) | (refine aw_block ?_) | (refine gX ?_; refine exitS ?_) | (refine gT ?_; refine retS ?_) | (refine gS ?_; refine skipS ?_) | (apply_assumption (exfalso := false) (symm := false))))
  refine aw_loop_at [4, 5, 6, 7, 8, 9, 10, 11, 12, 13, 14, 15, 16, 17, 18, 19, 20, 21, 22, 23, 24, 25, 26, 27, 28, 29, 30, 31, 32, 33, 34, 35, 36, 37, 38, 39, 40, 41, 42, 43, 44, 45, 46, 47] (fun k : Nat => k ≤ l.length ∧ ∀ i (hi : i < l.length), i < k → spFails v l[i] = false) (fun k => l.length - k) (fun k => [(5, .int k)]) (fun _ => []) 0 ⟨by omega, by omega⟩ ?_ ?_
  · (simp only [sets, havoc, go_sem, Nat.reduceAdd, Nat.reduceMul, reduceIte, Nat.reduceEqDiff, Nat.reduceLeDiff, Int.reduceBEq, Int.reduceBNe, Int.reduceLT, Int.reduceLE, decide_true, decide_false])
    (exact weakS)
  · rintro k ⟨hk, hn⟩ K hK
    (simp only [sets, havoc, go_sem, Nat.reduceAdd, Nat.reduceMul, reduceIte, Nat.reduceEqDiff, Nat.reduceLeDiff, Int.reduceBEq, Int.reduceBNe, Int.reduceLT, Int.reduceLE, decide_true, decide_false])
    by_cases hlt : k < l.length
    · obtain ⟨hl, b1⟩ := hw l[k] (List.getElem_mem hlt)
      (repeat' (first | (refine hK _ ?_; clear hK K) | (refine aw_seq (fun K hK => ?_)) | (refine gR ?_; refine regS ?_) | (refine gD 4 ?_; refine drS (.it 0 0 (.it 1 0 (.it 2 0 (.it 3 0 (.it 4 0 (.it 5 0 (.it 7 0 (.it 8 0 (.it 9 0 (.it 10 0 (.it 11 0 (.it 6 1 (.it 12 0 (.it 13 0 (.it 14 0 (.it 15 0 (.it 16 0 (.it 17 0 (.it 18 0 (.it 19 0 (.it 20 0 (.it 21 0 (.it 22 0 (.it 23 0 (.it 24 0 (.it 25 0 (.it 26 0 (.it 28 0 (.it 29 0 (.it 30 0 (.it 31 0 (.it 32 0 (.it 27 2 (.it 33 0 (.it 34 0 (.it 35 0 .nil)))))))))))))))))))))))))))))))))))) [0, 1, 2, 3, 4, 5, 7, 8, 9, 10, 11, 12, 13, 14, 15, 16, 17, 18, 19, 20, 21, 22, 23, 24, 25, 26, 27, 28, 29, 30, 31, 32, 33, 34, 35] ?_) | (refine gE ?_; (first | (refine exN ?_) | (refine exS (fun _ => ?_)))) | (refine gCd 88 ?_; refine callD (high_pc _ _ (by assumption) (by assumption) (by assumption) (by assumption)) ?_) | (refine gCd 88 ?_; refine callD (low_pc _ _ (by assumption) (by assumption) (by assumption) (by assumption)) ?_) | (refine adx_op (fun K hK => ?_); (first | (refine pv_fieldAddrF (by rfl) (by rfl) (by first | decide | (simp; done) | (simp; omega)) ?_) | (refine pv_fieldAddrIF (by rfl) (by rfl) (by first | decide | (simp; done) | (simp; omega)) ?_) | (refine pv_eql (by rfl) (by rfl) ?_) | (refine pv_eqlB (by rfl) (by rfl) ?_) | (refine pv_eqlA (by rfl) (by rfl) (by kernel_rfl) ?_))) | (refine And.intro ?_ ?_) | (refine gDx ?_; refine adxS ?_) | (refine gQ ?_; (first | (refine condT ?_) | (refine condF ?_) | (refine condS (fun hc => ?_) (fun hc => ?_) <;> (try (first | contradiction | (exfalso; omega)))))) | (refine gGd ?_; refine guardD (fun hc => ?_) (fun hc => ?_) <;> (try (first | contradiction | (exfalso; omega)))) | (refine gW ?_; refine wopsS ?_) | (refine gWd ?_; refine wdrS ?_) | (refine aw_block ?_) | (refine gX ?_; refine exitS ?_) | (refine gT ?_; refine retS ?_) | (refine gS ?_; refine skipS ?_) | (apply_assumption (exfalso := false) (symm := false))))
      all_goals first
        | ((refine fin_le (Le.refl _) (rv_one (rv1_tmp (by rfl))) (by first | rfl | (simp only [go_sem, Nat.reduceAdd, Nat.reduceMul, reduceIte, Nat.reduceEqDiff, Nat.reduceLeDiff, Int.reduceBEq, Int.reduceBNe, Int.reduceLT, Int.reduceLE, decide_true, decide_false])) ?_); rw [pos_no hlt (pf_t (by omega))]; done)
        | (refine ⟨k + 1, ⟨by omega, upto_step hn fun _ => pf_f (by omega)⟩, by omega, ?_⟩; (simp only [sets, havoc, go_sem, Nat.reduceAdd, Nat.reduceMul, reduceIte, Nat.reduceEqDiff, Nat.reduceLeDiff, Int.reduceBEq, Int.reduceBNe, Int.reduceLT, Int.reduceLE, decide_true, decide_false]); (exact weakS))
    · (repeat' (first | (refine hK _ ?_; clear hK K) | (refine aw_seq (fun K hK => ?_)) | (refine gR ?_; refine regS ?_) | (refine gD 4 ?_; refine drS (.it 0 0 (.it 1 0 (.it 2 0 (.it 3 0 (.it 4 0 (.it 5 0 (.it 7 0 (.it 8 0 (.it 9 0 (.it 10 0 (.it 11 0 (.it 6 1 (.it 12 0 (.it 13 0 (.it 14 0 (.it 15 0 (.it 16 0 (.it 17 0 (.it 18 0 (.it 19 0 (.it 20 0 (.it 21 0 (.it 22 0 (.it 23 0 (.it 24 0 (.it 25 0 (.it 26 0 (.it 28 0 (.it 29 0 (.it 30 0 (.it 31 0 (.it 32 0 (.it 27 2 (.it 33 0 (.it 34 0 (.it 35 0 .nil)))))))))))))))))))))))))))))))))))) [0, 1, 2, 3, 4, 5, 7, 8, 9, 10, 11, 12, 13, 14, 15, 16, 17, 18, 19, 20, 21, 22, 23, 24, 25, 26, 27, 28, 29, 30, 31, 32, 33, 34, 35] ?_) | (refine gE ?_; (first | (refine exN ?_) | (refine exS (fun _ => ?_)))) | (refine gCd 88 ?_; refine callD (high_pc _ _ (by assumption) (by assumption) (by assumption) (by assumption)) ?_) | (refine gCd 88 ?_; refine callD (low_pc _ _ (by assumption) (by assumption) (by assumption) (by assumption)) ?_) | (refine adx_op (fun K hK => ?_); (first | (refine pv_fieldAddrF (by rfl) (by rfl) (by first | decide | (simp; done) | (simp; omega)) ?_) | (refine pv_fieldAddrIF (by rfl) (by rfl) (by first | decide | (simp; done) | (simp; omega)) ?_) | (refine pv_eql (by rfl) (by rfl) ?_) | (refine pv_eqlB (by rfl) (by rfl) ?_) | (refine pv_eqlA (by rfl) (by rfl) (by kernel_rfl) ?_))) | (refine And.intro ?_ ?_) | (refine gDx ?_; refine adxS ?_) | (refine gQ ?_; (first | (refine condT ?_) | (refine condF ?_) | (refine condS (fun hc => ?_) (fun hc => ?_) <;> (try (first | contradiction | (exfalso; omega)))))) | (refine gGd ?_; refine guardD (fun hc => ?_) (fun hc => ?_) <;> (try (first | contradiction | (exfalso; omega)))) | (refine gW ?_; refine wopsS ?_) | (refine gWd ?_; refine wdrS ?_) | (refine aw_block ?_) | (refine gX ?_; refine exitS ?_) | (refine gT ?_; refine retS ?_) | (refine gS ?_; refine skipS ?_) | (apply_assumption (exfalso := false) (symm := false))))
      (refine fin_le (Le.refl _) (rv_one (rv1_tmp (by rfl))) (by first | rfl | (simp only [go_sem, Nat.reduceAdd, Nat.reduceMul, reduceIte, Nat.reduceEqDiff, Nat.reduceLeDiff, Int.reduceBEq, Int.reduceBNe, Int.reduceLT, Int.reduceLE, decide_true, decide_false])) ?_)
      rw [pos_yes hn (by omega)]

end Go.Proofs.Ytjefjhcaicohjaa
