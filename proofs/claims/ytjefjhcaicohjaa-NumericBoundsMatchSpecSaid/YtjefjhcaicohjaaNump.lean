import Derived.Test.YtjefjhcaicohjaaNumr




namespace Go.Proofs.Ytjefjhcaicohjaa
open Go.Ab
open Go
set_option linter.unusedSimpArgs false
set_option linter.unusedVariables false
set_option maxRecDepth 10000
attribute [local irreducible] PV AOp AOps AW PCall OCall Ab.Fin OFin RV RV1 Le AStk AGrd ADr ADx ADo AOpX AAny
set_option maxHeartbeats 4000000

theorem same_nil : PCall Try.prog 51 [prs [], .nilS] (fun r => r = .bool true) := pcall_le (pc_eq (sameBounds_pc [] []) rfl) ⟨ALe.rfl' _, ALe.nil 2 16, trivial⟩






theorem boundsMatch_pc (t : NT) (n : Int) : PCall Try.prog 11 [t.av, .int n] (fun r => r = .bool true) := by
  by_cases hf : numFault t = (0, 0)
  · have c39 := pc_eq (numericFault_pc t) (b := fault 0 0) (by rw [hf])
    by_cases hn : n < 0 ∨ 60 < n
    · have c50 := pc_eq (bounds_pc t n) (b := .tup [prs [], fault 3 (-5)]) (by rw [show boundsOf t n = ([], (3, -5)) by unfold boundsOf; rw [if_neg (by simp [hf]), if_pos hn]])
      (refine enterS Try.func11 Try.ntmps11 ?_)
      (repeat' (first | (refine hK _ ?_; clear hK K) | (refine aw_seq (fun K hK => ?_)) | (refine gR ?_; refine regS ?_) | (refine gE ?_; (first | (refine exN ?_) | (refine exS (fun _ => ?_)))) | (refine gC 39 ?_; refine callS (c39) ?_) | (refine gC 20 ?_; refine callS (in_pc _ _ _) ?_) | (refine gC 21 ?_; refine callS (at_pc _ _) ?_) | (refine gC 49 ?_; refine callS (c49) ?_) | (refine gC 50 ?_; refine callS (c50) ?_) | (refine gC 40 ?_; refine callS (counts_pc) ?_) | (refine gC 51 ?_; refine callS (same_nil) ?_) | (refine gC 51 ?_; refine callS (c51) ?_) | (refine stk_op (fun K hK => ?_); (first | (refine aop_pv (pv_fieldAddrF (by rfl) (by rfl) (by first | decide | (simp; done) | (simp; omega))) ?_) | (refine aop_pv (pv_fieldAddrIF (by rfl) (by rfl) (by first | decide | (simp; done) | (simp; omega))) ?_) | (refine aop_pv (pv_eql (by rfl) (by rfl)) ?_) | (refine aop_pv (pv_eqlB (by rfl) (by rfl)) ?_) | (refine aop_pv (pv_eqlA (by rfl) (by rfl) (by kernel_rfl)) ?_))) | (refine gQ ?_; (first | (refine condT ?_) | (refine condF ?_) | (refine condS (fun hc => ?_) (fun hc => ?_) <;> (try (first | contradiction | (exfalso; omega)))))) | (refine gG ?_; refine guardS (fun hc => ?_) (fun hc => ?_) <;> (try (first | contradiction | (exfalso; omega)))) | (refine gW ?_; refine wopsS ?_) | (refine aw_block ?_) | (refine gX ?_; refine exitS ?_) | (refine gT ?_; refine retS ?_) | (refine gS ?_; refine skipS ?_) | (apply_assumption (exfalso := false) (symm := false))))
      (refine fin_le (Le.refl _) (rv_one (rv1_tmp (by rfl))) (by first | rfl | (simp only [go_sem, Nat.reduceAdd, Nat.reduceMul, reduceIte, Nat.reduceEqDiff, Nat.reduceLeDiff, Int.reduceToNat, Int.reduceBEq, Int.reduceBNe, Int.reduceLT, Int.reduceLE, decide_true, decide_false])) ?_)
      rfl
    · have c50 := pc_eq (bounds_pc t n) (b := .tup [prs (boundsN t n.toNat), fault 0 0]) (by rw [show boundsOf t n = (boundsN t n.toNat, (0, 0)) by unfold boundsOf; rw [if_neg (by simp [hf]), if_neg hn]])
      have c49 := boundsOf_pc t n hf (by omega)
      have c51 := pc_eq (sameBounds_pc (boundsN t n.toNat) (boundsN t n.toNat)) (b := .bool true) (by simp)
      generalize boundsN t n.toNat = b at *
      (refine enterS Try.func11 Try.ntmps11 ?_)
      (repeat' (first | (refine hK _ ?_; clear hK K) | (refine aw_seq (fun K hK => ?_)) | (refine gR ?_; refine regS ?_) | (refine gE ?_; (first | (refine exN ?_) | (refine exS (fun _ => ?_)))) | (refine gC 39 ?_; refine callS (c39) ?_) | (refine gC 20 ?_; refine callS (in_pc _ _ _) ?_) | (refine gC 21 ?_; refine callS (at_pc _ _) ?_) | (refine gC 49 ?_; refine callS (c49) ?_) | (refine gC 50 ?_; refine callS (c50) ?_) | (refine gC 40 ?_; refine callS (counts_pc) ?_) | (refine gC 51 ?_; refine callS (same_nil) ?_) | (refine gC 51 ?_; refine callS (c51) ?_) | (refine stk_op (fun K hK => ?_); (first | (refine aop_pv (pv_fieldAddrF (by rfl) (by rfl) (by first | decide | (simp; done) | (simp; omega))) ?_) | (refine aop_pv (pv_fieldAddrIF (by rfl) (by rfl) (by first | decide | (simp; done) | (simp; omega))) ?_) | (refine aop_pv (pv_eql (by rfl) (by rfl)) ?_) | (refine aop_pv (pv_eqlB (by rfl) (by rfl)) ?_) | (refine aop_pv (pv_eqlA (by rfl) (by rfl) (by kernel_rfl)) ?_))) | (refine gQ ?_; (first | (refine condT ?_) | (refine condF ?_) | (refine condS (fun hc => ?_) (fun hc => ?_) <;> (try (first | contradiction | (exfalso; omega)))))) | (refine gG ?_; refine guardS (fun hc => ?_) (fun hc => ?_) <;> (try (first | contradiction | (exfalso; omega)))) | (refine gW ?_; refine wopsS ?_) | (refine aw_block ?_) | (refine gX ?_; refine exitS ?_) | (refine gT ?_; refine retS ?_) | (refine gS ?_; refine skipS ?_) | (apply_assumption (exfalso := false) (symm := false))))
      (refine fin_le (Le.refl _) (rv_one (rv1_tmp (by rfl))) (by first | rfl | (simp only [go_sem, Nat.reduceAdd, Nat.reduceMul, reduceIte, Nat.reduceEqDiff, Nat.reduceLeDiff, Int.reduceToNat, Int.reduceBEq, Int.reduceBNe, Int.reduceLT, Int.reduceLE, decide_true, decide_false])) ?_)
      rfl
  · have hne := nf_code hf
    have c39 := numericFault_pc t
    have c50 := pc_eq (bounds_pc t n) (b := .tup [prs [], faultP (numFault t)]) (by rw [show boundsOf t n = ([], numFault t) by unfold boundsOf; rw [if_pos hf]])
    (refine enterS Try.func11 Try.ntmps11 ?_)
    (repeat' (first | (refine hK _ ?_; clear hK K) | (refine aw_seq (fun K hK => ?_)) | (refine gR ?_; refine regS ?_) | (refine gE ?_; (first | (refine exN ?_) | (refine exS (fun _ => ?_)))) | (refine gC 39 ?_; refine callS (c39) ?_) | (refine gC 20 ?_; refine callS (in_pc _ _ _) ?_) | (refine gC 21 ?_; refine callS (at_pc _ _) ?_) | (refine gC 49 ?_; refine callS (c49) ?_) | (refine gC 50 ?_; refine callS (c50) ?_) | (refine gC 40 ?_; refine callS (counts_pc) ?_) | (refine gC 51 ?_; refine callS (same_nil) ?_) | (refine gC 51 ?_; refine callS (c51) ?_) | (refine stk_op (fun K hK => ?_); (first | (refine aop_pv (pv_fieldAddrF (by rfl) (by rfl) (by first | decide | (simp; done) | (simp; omega))) ?_) | (refine aop_pv (pv_fieldAddrIF (by rfl) (by rfl) (by first | decide | (simp; done) | (simp; omega))) ?_) | (refine aop_pv (pv_eql (by rfl) (by rfl)) ?_) | (refine aop_pv (pv_eqlB (by rfl) (by rfl)) ?_) | (refine aop_pv (pv_eqlA (by rfl) (by rfl) (by kernel_rfl)) ?_))) | (refine gQ ?_; (first | (refine condT ?_) | (refine condF ?_) | (refine condS (fun hc => ?_) (fun hc => ?_) <;> (try (first | contradiction | (exfalso; omega)))))) | (refine gG ?_; refine guardS (fun hc => ?_) (fun hc => ?_) <;> (try (first | contradiction | (exfalso; omega)))) | (refine gW ?_; refine wopsS ?_) | (refine aw_block ?_) | (refine gX ?_; refine exitS ?_) | (refine gT ?_; refine retS ?_) | (refine gS ?_; refine skipS ?_) | (apply_assumption (exfalso := false) (symm := false))))
    (refine fin_le (Le.refl _) (rv_one (rv1_tmp (by rfl))) (by first | rfl | (simp only [go_sem, Nat.reduceAdd, Nat.reduceMul, reduceIte, Nat.reduceEqDiff, Nat.reduceLeDiff, Int.reduceToNat, Int.reduceBEq, Int.reduceBNe, Int.reduceLT, Int.reduceLE, decide_true, decide_false])) ?_)
    simp
end Go.Proofs.Ytjefjhcaicohjaa
