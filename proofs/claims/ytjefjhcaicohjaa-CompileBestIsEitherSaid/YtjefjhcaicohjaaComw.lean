import Derived.Test.YtjefjhcaicohjaaComv



namespace Go.Proofs.Ytjefjhcaicohjaa
open Go.Ab
open Go
set_option linter.unusedSimpArgs false
set_option linter.unusedVariables false
set_option maxRecDepth 10000
attribute [local irreducible] PV AOp AOps AW PCall OCall MCall Ab.Fin OFin OFin2 MFin RV RV1 Le AStk AGrd ADr ADx ADo AOpX AAny
set_option maxHeartbeats 2000000
/-! a set is no longer than its bound -/
theorem len_asc : ∀ (xs : List Int) (lo n : Int), (∀ x ∈ xs, lo ≤ x ∧ x < n) → xs.Pairwise (· < ·) → lo ≤ n → (xs.length : Int) ≤ n - lo
  | [], _, _, _, _, h => by simp; omega
  | x :: r, lo, n, h, hp, hl => by
    have hx := h x (by simp)
    have ⟨h1, h2⟩ := List.pairwise_cons.1 hp
    have := len_asc r (x + 1) n (fun y hy => ⟨by have := h1 y hy; omega, (h y (by simp [hy])).2⟩) h2 (by omega)
    simp only [List.length_cons]; omega
theorem isSet_len {xs : List Int} {n : Int} (h : isSet xs n = true) (hn : 0 ≤ n) : (xs.length : Int) ≤ n := by
  have ⟨h1, h2⟩ := isSet_iff.1 h
  have := len_asc xs 0 n h1 h2 hn
  omega
/-! a number added at the end -/
@[local go_sem] theorem drop_ints (xs : List Int) : (xs.map AV.int).drop xs.length = [] := by simp
theorem with_pc (xs : List Int) (n : Int) (hx : ∀ x ∈ xs, x < n) (hl : xs.length ≤ 1000) : PCall Try.prog 60 [ints xs, .int n] (fun r => r = ints (xs ++ [n])) := by
  (refine enterS Try.func60 Try.ntmps60 ?_)
  (refine aw_bound (i := 0) rfl (fun hb => ?_); (try simp only [List.length_map] at hb))
  (repeat' (first | (refine hK _ ?_; clear hK K) | (refine aw_seq (fun K hK => ?_)) | (refine gR ?_; refine regS ?_) | (refine gE ?_; (first | (refine exN ?_) | (refine exS (fun _ => ?_)))) | (refine stk_op (fun K hK => ?_); (first | (refine appendS ?_) | (refine virtS 22 28 1 8 3 ?_; refine appendS ?_) | (refine virtS 31 34 1 8 3 ?_; refine appendS ?_) | (refine aop_pv (pv_eql (by rfl) (by rfl)) ?_) | (refine aop_pv (pv_eqlB (by rfl) (by rfl)) ?_) | (refine aop_pv (pv_eqlA (by rfl) (by rfl) (by kernel_rfl)) ?_) | (refine virtS 49 53 1 8 3 ?_; refine appendS ?_))) | (refine gQ ?_; (first | (refine condT ?_) | (refine condF ?_) | (refine condS (fun hc => ?_) (fun hc => ?_) <;> (try (first | contradiction | (exfalso; omega)))))) | (refine gG ?_; refine guardS (fun hc => ?_) (fun hc => ?_) <;> (try (first | contradiction | (exfalso; omega)))) | (refine gW ?_; refine wopsS ?_) | (refine aw_block ?_) | (refine gX ?_; refine exitS ?_) | (refine gT ?_; refine retS ?_) | (refine gS ?_; refine skipS ?_) | (apply_assumption (exfalso := false) (symm := false))))
  (refine awVirt 5 100 1 8 3 ?_)
  refine aw_loop_at [5, 6, 8, 9, 10, 11, 12, 13, 14, 15, 16, 17, 18, 19, 20, 21, 22, 23, 24, 25, 26, 27, 28] (fun k : Nat => k ≤ xs.length) (fun k => xs.length - k) (fun k => [(6, .int k), (5, .sl 1 8 100 0 k)]) (fun k => [(100, ⟨3, (xs.take k).map AV.int, false⟩)]) 0 (by omega) ?_ ?_
  · (simp only [sets, havoc, go_sem, Nat.reduceAdd, Nat.reduceMul, reduceIte, Nat.reduceEqDiff, Nat.reduceLeDiff, Int.reduceToNat, Int.reducePow, Int.reduceBEq, Int.reduceBNe, Int.reduceLT, Int.reduceLE, decide_true, decide_false])
    (exact weakS)
  · rintro k hk K hK
    (simp only [sets, havoc, go_sem, Nat.reduceAdd, Nat.reduceMul, reduceIte, Nat.reduceEqDiff, Nat.reduceLeDiff, Int.reduceToNat, Int.reducePow, Int.reduceBEq, Int.reduceBNe, Int.reduceLT, Int.reduceLE, decide_true, decide_false])
    by_cases hlt : k < xs.length
    · have hxk := hx _ (List.getElem_mem hlt)
      have hs : xs.take (k + 1) = xs.take k ++ [xs[k]] := List.take_succ_eq_append_getElem hlt
      have hlk : (xs.take k).length = k := by simp; omega
      generalize xs.take k = l at *
      (repeat' (first | (refine hK _ ?_; clear hK K) | (refine aw_seq (fun K hK => ?_)) | (refine gR ?_; refine regS ?_) | (refine gE ?_; (first | (refine exN ?_) | (refine exS (fun _ => ?_)))) | (refine stk_op (fun K hK => ?_); (first | (refine appendS ?_) | (refine virtS 22 28 1 8 3 ?_; refine appendS ?_) | (refine virtS 31 34 1 8 3 ?_; refine appendS ?_) | (refine aop_pv (pv_eql (by rfl) (by rfl)) ?_) | (refine aop_pv (pv_eqlB (by rfl) (by rfl)) ?_) | (refine aop_pv (pv_eqlA (by rfl) (by rfl) (by kernel_rfl)) ?_) | (refine virtS 49 53 1 8 3 ?_; refine appendS ?_))) | (refine gQ ?_; (first | (refine condT ?_) | (refine condF ?_) | (refine condS (fun hc => ?_) (fun hc => ?_) <;> (try (first | contradiction | (exfalso; omega)))))) | (refine gG ?_; refine guardS (fun hc => ?_) (fun hc => ?_) <;> (try (first | contradiction | (exfalso; omega)))) | (refine gW ?_; refine wopsS ?_) | (refine aw_block ?_) | (refine gX ?_; refine exitS ?_) | (refine gT ?_; refine retS ?_) | (refine gS ?_; refine skipS ?_) | (apply_assumption (exfalso := false) (symm := false))))
      refine ⟨k + 1, by omega, by omega, ?_⟩
      rw [hs]
      (simp only [sets, havoc, go_sem, Nat.reduceAdd, Nat.reduceMul, reduceIte, Nat.reduceEqDiff, Nat.reduceLeDiff, Int.reduceToNat, Int.reducePow, Int.reduceBEq, Int.reduceBNe, Int.reduceLT, Int.reduceLE, decide_true, decide_false])
      (exact weakS)
    · obtain rfl : k = xs.length := by omega
      rw [List.take_length]
      (repeat' (first | (refine hK _ ?_; clear hK K) | (refine aw_seq (fun K hK => ?_)) | (refine gR ?_; refine regS ?_) | (refine gE ?_; (first | (refine exN ?_) | (refine exS (fun _ => ?_)))) | (refine stk_op (fun K hK => ?_); (first | (refine aop_append (by rfl) (by rfl) (by rfl) (by simp) (by rfl) (es := []) (fun e he => nomatch he) (by rfl) (by decide) (by decide) (by simp only [List.length_nil]; omega) ?_) | (refine appendS ?_) | (refine virtS 22 28 1 8 3 ?_; refine appendS ?_) | (refine virtS 31 34 1 8 3 ?_; refine appendS ?_) | (refine aop_pv (pv_eql (by rfl) (by rfl)) ?_) | (refine aop_pv (pv_eqlB (by rfl) (by rfl)) ?_) | (refine aop_pv (pv_eqlA (by rfl) (by rfl) (by kernel_rfl)) ?_) | (refine virtS 49 53 1 8 3 ?_; refine appendS ?_))) | (refine gQ ?_; (first | (refine condT ?_) | (refine condF ?_) | (refine condS (fun hc => ?_) (fun hc => ?_) <;> (try (first | contradiction | (exfalso; omega)))))) | (refine gG ?_; refine guardS (fun hc => ?_) (fun hc => ?_) <;> (try (first | contradiction | (exfalso; omega)))) | (refine gW ?_; refine wopsS ?_) | (refine aw_block ?_) | (refine gX ?_; refine exitS ?_) | (refine gT ?_; refine retS ?_) | (refine gS ?_; refine skipS ?_) | (apply_assumption (exfalso := false) (symm := false))))
      rw [show xs.map AV.int ++ [AV.int n] = (xs ++ [n]).map AV.int by simp, purgeL_ints]
      refine fin_sl1 (xs ++ [n]) rfl (by rfl) (by rfl) (by simp) (fun _ => rfl) (fun _ => rfl) rfl

end Go.Proofs.Ytjefjhcaicohjaa
