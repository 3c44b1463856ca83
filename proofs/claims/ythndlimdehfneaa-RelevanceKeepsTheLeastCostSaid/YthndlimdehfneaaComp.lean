import Derived.Test.YthndlimdehfneaaTask


namespace Go.Proofs.Ythndlimdehfneaa
open Go.Ab
open Go
set_option linter.unusedSimpArgs false
set_option linter.unusedVariables false
set_option maxRecDepth 10000
attribute [local irreducible] PV AOp AOps AW PCall OCall MCall Ab.Fin OFin MFin RV RV1 Le AStk AGrd ADr ADx ADo AOpX AAny
set_option maxHeartbeats 2000000
/-! equality of tasks -/
theorem op_ext {a b : Op} (h1 : a.cost = b.cost) (h2 : a.pre = b.pre) (h3 : a.add = b.add) (h4 : a.del = b.del) : a = b := by cases a; cases b; simp_all
theorem task_ext {a b : Task} (h1 : a.facts = b.facts) (h2 : a.init = b.init) (h3 : a.goal = b.goal) (h4 : a.ops = b.ops) : a = b := by cases a; cases b; simp_all
theorem sameTask_pc (a b : Task) : PCall Try.prog 21 [a.av, b.av] (fun r => r = .bool (decide (a = b))) := by
  (refine enterS Try.func21 Try.ntmps21 ?_)
  (refine aw_reach (i := 0) rfl (fun hR => ?_))
  have hb0 := hR 4 80 (a.ops.map Op.av) (.agg (c := opsA a.ops) (by simp) .refl)
  rw [List.length_map] at hb0
  clear hR
  (refine aw_reach (i := 1) rfl (fun hR => ?_))
  have hb1 := hR 4 80 (b.ops.map Op.av) (.agg (c := opsA b.ops) (by simp) .refl)
  rw [List.length_map] at hb1
  clear hR
  (repeat' (first | (refine hK _ ?_; clear hK K) | (refine aw_seq (fun K hK => ?_)) | (refine gR ?_; refine regS ?_) | (refine gE ?_; (first | (refine exN ?_) | (refine exS (fun _ => ?_)))) | (refine gC 20 ?_; refine callS (ints_pc _ _) ?_) | (refine stk_op (fun K hK => ?_); (first | (refine aop_pv (pv_fieldAddrF (by rfl) (by rfl) (by first | decide | (simp; done) | (simp; omega))) ?_) | (refine aop_pv (pv_fieldAddrIF (by rfl) (by rfl) (by first | decide | (simp; done) | (simp; omega))) ?_) | (refine aop_pv (pv_neq (by rfl) (by rfl)) ?_) | (refine aop_pv (pv_neqB (by rfl) (by rfl)) ?_) | (refine aop_pv (pv_neqA (by rfl) (by rfl) (by kernel_rfl)) ?_))) | (refine gQ ?_; (first | (refine condT ?_) | (refine condF ?_) | (refine condS (fun hc => ?_) (fun hc => ?_) <;> (try (first | contradiction | (exfalso; omega)))))) | (refine gG ?_; refine guardS (fun hc => ?_) (fun hc => ?_) <;> (try (first | contradiction | (exfalso; omega)))) | (refine gW ?_; refine wopsS ?_) | (refine aw_block ?_) | (refine gX ?_; refine exitS ?_) | (refine gT ?_; refine retS ?_) | (refine gS ?_; refine skipS ?_) | (apply_assumption (exfalso := false) (symm := false))))
  any_goals ((refine fin_le (Le.refl _) (rv_one (rv1_tmp (by rfl))) (by first | rfl | (simp only [go_sem, Nat.reduceAdd, Nat.reduceMul, reduceIte, Nat.reduceEqDiff, Nat.reduceLeDiff, Int.reduceToNat, Int.reducePow, Int.reduceBEq, Int.reduceBNe, Int.reduceLT, Int.reduceLE, decide_true, decide_false])) ?_); rw [decide_eq_false (by rintro rfl; simp_all)]; done)
  have e1 : a.facts = b.facts := by assumption
  have e2 : a.init = b.init := by simp_all
  have e3 : a.goal = b.goal := by simp_all
  refine aw_loop_at [4, 5, 6, 7, 38, 39, 40, 41, 42, 43, 44, 45, 46, 47, 48, 49, 50, 51, 52, 53, 54, 55, 56, 57, 58, 59, 60, 61, 62, 63, 64, 65, 66, 67, 68, 69, 70, 71, 72, 73, 74, 75, 76, 77, 78, 79, 80, 81, 82, 83] (fun k : Nat => k ≤ a.ops.length ∧ a.ops.take k = b.ops.take k) (fun k => a.ops.length - k) (fun k => [(5, .int k)]) (fun _ => [(2, ⟨25, a.cs, true⟩), (3, ⟨25, b.cs, true⟩)]) 0 ⟨by omega, by simp⟩ ?_ ?_
  · (simp only [sets, havoc, go_sem, Nat.reduceAdd, Nat.reduceMul, reduceIte, Nat.reduceEqDiff, Nat.reduceLeDiff, Int.reduceToNat, Int.reducePow, Int.reduceBEq, Int.reduceBNe, Int.reduceLT, Int.reduceLE, decide_true, decide_false])
    (exact weakS)
  · rintro k ⟨hk, hn⟩ K hK
    (simp only [sets, havoc, go_sem, Nat.reduceAdd, Nat.reduceMul, reduceIte, Nat.reduceEqDiff, Nat.reduceLeDiff, Int.reduceToNat, Int.reducePow, Int.reduceBEq, Int.reduceBNe, Int.reduceLT, Int.reduceLE, decide_true, decide_false])
    by_cases hlt : k < a.ops.length
    · have hlb : k < b.ops.length := by omega
      (repeat' (first | (refine hK _ ?_; clear hK K) | (refine aw_seq (fun K hK => ?_)) | (refine gR ?_; refine regS ?_) | (refine gE ?_; (first | (refine exN ?_) | (refine exS (fun _ => ?_)))) | (refine gC 20 ?_; refine callS (ints_pc _ _) ?_) | (refine stk_op (fun K hK => ?_); (first | (refine aop_pv (pv_fieldAddrF (by rfl) (by rfl) (by first | decide | (simp; done) | (simp; omega))) ?_) | (refine aop_pv (pv_fieldAddrIF (by rfl) (by rfl) (by first | decide | (simp; done) | (simp; omega))) ?_) | (refine aop_pv (pv_neq (by rfl) (by rfl)) ?_) | (refine aop_pv (pv_neqB (by rfl) (by rfl)) ?_) | (refine aop_pv (pv_neqA (by rfl) (by rfl) (by kernel_rfl)) ?_))) | (refine gQ ?_; (first | (refine condT ?_) | (refine condF ?_) | (refine condS (fun hc => ?_) (fun hc => ?_) <;> (try (first | contradiction | (exfalso; omega)))))) | (refine gG ?_; refine guardS (fun hc => ?_) (fun hc => ?_) <;> (try (first | contradiction | (exfalso; omega)))) | (refine gW ?_; refine wopsS ?_) | (refine aw_block ?_) | (refine gX ?_; refine exitS ?_) | (refine gT ?_; refine retS ?_) | (refine gS ?_; refine skipS ?_) | (apply_assumption (exfalso := false) (symm := false))))
      any_goals ((refine fin_le (Le.refl _) (rv_one (rv1_tmp (by rfl))) (by first | rfl | (simp only [go_sem, Nat.reduceAdd, Nat.reduceMul, reduceIte, Nat.reduceEqDiff, Nat.reduceLeDiff, Int.reduceToNat, Int.reducePow, Int.reduceBEq, Int.reduceBNe, Int.reduceLT, Int.reduceLE, decide_true, decide_false])) ?_); rw [decide_eq_false (by rintro rfl; simp_all)]; done)
      have e4 : a.ops[k] = b.ops[k] := op_ext (by assumption) (by simp_all) (by simp_all) (by simp_all)
      (refine ⟨k + 1, ⟨by omega, by rw [List.take_succ_eq_append_getElem hlt, List.take_succ_eq_append_getElem hlb, hn, e4]⟩, by omega, ?_⟩; (simp only [sets, havoc, go_sem, Nat.reduceAdd, Nat.reduceMul, reduceIte, Nat.reduceEqDiff, Nat.reduceLeDiff, Int.reduceToNat, Int.reducePow, Int.reduceBEq, Int.reduceBNe, Int.reduceLT, Int.reduceLE, decide_true, decide_false]); (exact weakS))
    · (repeat' (first | (refine hK _ ?_; clear hK K) | (refine aw_seq (fun K hK => ?_)) | (refine gR ?_; refine regS ?_) | (refine gE ?_; (first | (refine exN ?_) | (refine exS (fun _ => ?_)))) | (refine gC 20 ?_; refine callS (ints_pc _ _) ?_) | (refine stk_op (fun K hK => ?_); (first | (refine aop_pv (pv_fieldAddrF (by rfl) (by rfl) (by first | decide | (simp; done) | (simp; omega))) ?_) | (refine aop_pv (pv_fieldAddrIF (by rfl) (by rfl) (by first | decide | (simp; done) | (simp; omega))) ?_) | (refine aop_pv (pv_neq (by rfl) (by rfl)) ?_) | (refine aop_pv (pv_neqB (by rfl) (by rfl)) ?_) | (refine aop_pv (pv_neqA (by rfl) (by rfl) (by kernel_rfl)) ?_))) | (refine gQ ?_; (first | (refine condT ?_) | (refine condF ?_) | (refine condS (fun hc => ?_) (fun hc => ?_) <;> (try (first | contradiction | (exfalso; omega)))))) | (refine gG ?_; refine guardS (fun hc => ?_) (fun hc => ?_) <;> (try (first | contradiction | (exfalso; omega)))) | (refine gW ?_; refine wopsS ?_) | (refine aw_block ?_) | (refine gX ?_; refine exitS ?_) | (refine gT ?_; refine retS ?_) | (refine gS ?_; refine skipS ?_) | (apply_assumption (exfalso := false) (symm := false))))
      (refine fin_le (Le.refl _) (rv_one (rv1_tmp (by rfl))) (by first | rfl | (simp only [go_sem, Nat.reduceAdd, Nat.reduceMul, reduceIte, Nat.reduceEqDiff, Nat.reduceLeDiff, Int.reduceToNat, Int.reducePow, Int.reduceBEq, Int.reduceBNe, Int.reduceLT, Int.reduceLE, decide_true, decide_false])) ?_)
      rw [List.take_of_length_le (by omega), List.take_of_length_le (by omega)] at hn
      rw [decide_eq_true (task_ext e1 e2 e3 hn)]

/-! lists shifted -/
def shift (xs : List Int) (n : Int) : List Int := xs.map (· + n)
theorem shift_take {xs : List Int} {n : Int} {k : Nat} (h : k < xs.length) : shift (xs.take (k + 1)) n = shift (xs.take k) n ++ [xs[k] + n] := by
  unfold shift; rw [List.take_succ_eq_append_getElem h, List.map_append]; rfl
theorem shifted_pc (xs : List Int) (n : Int) (hx : ∀ x ∈ xs, 0 ≤ x ∧ x < 1000) (hn : 0 ≤ n ∧ n < 1000) : PCall Try.prog 80 [ints xs, .int n] (fun r => r = ints (shift xs n)) := by
  obtain ⟨hn0, hn1⟩ := hn
  (refine enterS Try.func80 Try.ntmps80 ?_)
  (refine aw_bound (i := 0) rfl (fun hb => ?_); (try simp only [List.length_map] at hb))
  (repeat' (first | (refine hK _ ?_; clear hK K) | (refine aw_seq (fun K hK => ?_)) | (refine gR ?_; refine regS ?_) | (refine gE ?_; (first | (refine exN ?_) | (refine exS (fun _ => ?_)))) | (refine stk_op (fun K hK => ?_); (first | (refine appendS ?_) | (refine virtS 14 19 1 8 3 ?_; refine appendS ?_))) | (refine gQ ?_; (first | (refine condT ?_) | (refine condF ?_) | (refine condS (fun hc => ?_) (fun hc => ?_) <;> (try (first | contradiction | (exfalso; omega)))))) | (refine gW ?_; refine wopsS ?_) | (refine aw_block ?_) | (refine gX ?_; refine exitS ?_) | (refine gT ?_; refine retS ?_) | (refine gS ?_; refine skipS ?_) | (apply_assumption (exfalso := false) (symm := false))))
  (refine awVirt 5 100 1 8 3 ?_)
  refine aw_loop_at [5, 7, 10, 11, 12, 13, 14, 15, 16, 17, 18, 19, 20] (fun k : Nat => k ≤ xs.length) (fun k => xs.length - k) (fun k => [(10, .int k), (5, .sl 1 8 100 0 (shift (xs.take k) n).length)]) (fun k => [(100, ⟨3, (shift (xs.take k) n).map AV.int, false⟩)]) 0 (by omega) ?_ ?_
  · (simp only [sets, havoc, go_sem, Nat.reduceAdd, Nat.reduceMul, reduceIte, Nat.reduceEqDiff, Nat.reduceLeDiff, Int.reduceToNat, Int.reducePow, Int.reduceBEq, Int.reduceBNe, Int.reduceLT, Int.reduceLE, decide_true, decide_false])
    (exact weakS)
  · rintro k hk K hK
    (simp only [sets, havoc, go_sem, Nat.reduceAdd, Nat.reduceMul, reduceIte, Nat.reduceEqDiff, Nat.reduceLeDiff, Int.reduceToNat, Int.reducePow, Int.reduceBEq, Int.reduceBNe, Int.reduceLT, Int.reduceLE, decide_true, decide_false])
    have hl : (shift (xs.take k) n).length = k := by simp [shift]; omega
    by_cases hlt : k < xs.length
    · have hxk := hx _ (List.getElem_mem hlt)
      have hs := shift_take (n := n) hlt
      (repeat' (first | (refine hK _ ?_; clear hK K) | (refine aw_seq (fun K hK => ?_)) | (refine gR ?_; refine regS ?_) | (refine gE ?_; (first | (refine exN ?_) | (refine exS (fun _ => ?_)))) | (refine stk_op (fun K hK => ?_); (first | (refine appendS ?_) | (refine virtS 14 19 1 8 3 ?_; refine appendS ?_))) | (refine gQ ?_; (first | (refine condT ?_) | (refine condF ?_) | (refine condS (fun hc => ?_) (fun hc => ?_) <;> (try (first | contradiction | (exfalso; omega)))))) | (refine gW ?_; refine wopsS ?_) | (refine aw_block ?_) | (refine gX ?_; refine exitS ?_) | (refine gT ?_; refine retS ?_) | (refine gS ?_; refine skipS ?_) | (apply_assumption (exfalso := false) (symm := false))))
      refine ⟨k + 1, by omega, by omega, ?_⟩
      rw [hs]
      (simp only [sets, havoc, go_sem, Nat.reduceAdd, Nat.reduceMul, reduceIte, Nat.reduceEqDiff, Nat.reduceLeDiff, Int.reduceToNat, Int.reducePow, Int.reduceBEq, Int.reduceBNe, Int.reduceLT, Int.reduceLE, decide_true, decide_false])
      (exact weakS)
    · (repeat' (first | (refine hK _ ?_; clear hK K) | (refine aw_seq (fun K hK => ?_)) | (refine gR ?_; refine regS ?_) | (refine gE ?_; (first | (refine exN ?_) | (refine exS (fun _ => ?_)))) | (refine stk_op (fun K hK => ?_); (first | (refine appendS ?_) | (refine virtS 14 19 1 8 3 ?_; refine appendS ?_))) | (refine gQ ?_; (first | (refine condT ?_) | (refine condF ?_) | (refine condS (fun hc => ?_) (fun hc => ?_) <;> (try (first | contradiction | (exfalso; omega)))))) | (refine gW ?_; refine wopsS ?_) | (refine aw_block ?_) | (refine gX ?_; refine exitS ?_) | (refine gT ?_; refine retS ?_) | (refine gS ?_; refine skipS ?_) | (apply_assumption (exfalso := false) (symm := false))))
      rw [List.take_of_length_le (by omega)]
      refine fin_sl1 (shift xs n) rfl (by rfl) (by rfl) rfl (fun _ => rfl) (fun _ => rfl) rfl

def shiftAt (xs : List Int) (n : Int) (k : Nat) : List Int := shift (xs.take k) n ++ xs.drop k
theorem shiftAt_get {xs : List Int} {n : Int} {k : Nat} (h : k < xs.length) (h2 : k < (shiftAt xs n k).length) : (shiftAt xs n k)[k] = xs[k] := by
  have hl : (shift (xs.take k) n).length = k := by simp [shift]; omega
  have e : (shiftAt xs n k)[k]? = xs[k]? := by unfold shiftAt; rw [List.getElem?_append_right (by omega), hl, Nat.sub_self, List.getElem?_drop, Nat.add_zero]
  rw [List.getElem?_eq_getElem h2, List.getElem?_eq_getElem h] at e
  exact Option.some.inj e
theorem shiftAt_set {xs : List Int} {n : Int} {k : Nat} (h : k < xs.length) : (shiftAt xs n k).set k (xs[k] + n) = shiftAt xs n (k + 1) := by
  unfold shiftAt
  have hl : (shift (xs.take k) n).length = k := by simp [shift]; omega
  rw [shift_take h, List.set_append_right _ _ (by omega), hl, Nat.sub_self, List.drop_eq_getElem_cons h, List.set_cons_zero, List.append_assoc]
  rfl
theorem shiftAt_len (xs : List Int) (n : Int) (k : Nat) : (shiftAt xs n k).length = xs.length := by simp [shiftAt, shift]; omega


end Go.Proofs.Ythndlimdehfneaa
