import Derived.Test.YtanogjooppnihaaFmk


namespace Go.Proofs.Ytanogjooppnihaa
open Go.Ab
open Go
set_option linter.unusedSimpArgs false
set_option linter.unusedVariables false
set_option maxRecDepth 10000
attribute [local irreducible] PV AOp AOps AW PCall OCall MCall WCall HCall Ab.Fin OFin OFin2 MFin HFin RV RV1 Le AStk AGrd ADr ADx ADo AOpX AAny AOpsI wops wdr wgd wdt
set_option maxHeartbeats 4000000
/-! what progression returns is valid -/

theorem progMatchLaw_pc (l : List FNode) (facts : Int) (s : List Int) (hr : ∀ n ∈ l, ∀ c ∈ n.kids, c ≤ 9223372036854775807) : PCall Try.prog 5 [formA l, .int facts, ints s] (fun r => r = .bool true) := by
  have hff := formFault_pc l facts hr
  have hpr := progress_pc l facts s
  
  
  
  by_cases hf : formFault facts l = (0, 0)
  · rw [hf] at hff
    obtain ⟨hfa, hl, _⟩ := ff_ok hf
    cases hs : isSet s facts
    · have ep : progF facts l s = (5, -4) := by rw [progF, if_neg (by simp [hf]), if_pos hs]
      rw [show progL facts l s = [] by rw [progL, ep]; rfl, ep] at hpr
      (refine enterS Try.func5 Try.ntmps5 ?_)
      (repeat' (first | (refine hK _ ?_; clear hK K) | (refine aw_seq (fun K hK => ?_)) | (refine gR ?_; refine regS ?_) | (refine gC 8 ?_; refine callS (hff) ?_) | (refine gC 13 ?_; refine callS (refIsSet_pc _ _ (by omega)) ?_) | (refine gC 12 ?_; refine callS (at_pc _ _) ?_) | (refine gC 16 ?_; refine callS (hpr) ?_) | (refine gC 9 ?_; refine callS (traces_pc) ?_) | (refine stk_op (fun K hK => ?_); (first | (refine aop_pv (pv_fieldAddrF (by rfl) (by rfl) (by first | decide | (simp; done) | (simp; omega))) ?_) | (refine aop_pv (pv_fieldAddrIF (by rfl) (by rfl) (by first | decide | (simp; done) | (simp; omega))) ?_) | (refine aop_pv (pv_eql (by rfl) (by rfl)) ?_) | (refine aop_pv (pv_eqlB (by rfl) (by rfl)) ?_) | (refine aop_pv (pv_eqlA (by rfl) (by rfl) (by kernel_rfl)) ?_) | (refine aop_pv (pv_neq (by rfl) (by rfl)) ?_) | (refine aop_pv (pv_neqB (by rfl) (by rfl)) ?_) | (refine aop_pv (pv_neqA (by rfl) (by rfl) (by kernel_rfl)) ?_))) | (refine gE ?_; (first | (refine exN ?_) | (refine exS (fun _ => ?_)))) | (refine gG ?_; refine guardS (fun hc => ?_) (fun hc => ?_) <;> (try (first | contradiction | (exfalso; omega) | (exfalso; simp_all [Prod.ext_iff]; done)))) | (refine gQ ?_; (first | (refine condT ?_) | (refine condF ?_) | (refine condS (fun hc => ?_) (fun hc => ?_) <;> (try (first | contradiction | (exfalso; omega) | (exfalso; simp_all [Prod.ext_iff]; done)))))) | (refine gW ?_; refine wopsS ?_) | (refine aw_block ?_) | (refine gX ?_; refine exitS ?_) | (refine gT ?_; refine retS ?_) | (refine gS ?_; refine skipS ?_) | (apply_assumption (exfalso := false) (symm := false))))
      all_goals ((refine fin_le (Le.refl _) (rv_one (rv1_tmp (by rfl))) (by first | rfl | (simp only [go_sem, Nat.reduceAdd, Nat.reduceMul, reduceIte, Nat.reduceEqDiff, Nat.reduceLeDiff, Int.reduceToNat, Int.reducePow, Int.reduceBEq, Int.reduceBNe, Int.reduceLT, Int.reduceLE, decide_true, decide_false])) ?_); rfl)
    · have ep : progF facts l s = (0, 0) := by rw [progF, if_neg (by simp [hf]), if_neg (by simp [hs])]
      rw [show progL facts l s = flatT 0 (afterF s (rootT l)) by rw [progL, ep]; rfl, ep] at hpr
      obtain ⟨hd, hoF⟩ := ff_dec hf
      have hkd := dec_kind (hd (l.length - 1) (by omega))
      rw [show trA l l.length (l.length - 1) = rootT l from rfl] at hkd
      have hlen := flatT_len (afterF s (rootT l)) 0
      have hka := after_ok (s := s) hkd
      have hv := fvalid_pc (flatT 0 (afterF s (rootT l))) facts
      by_cases h6 : sz (afterF s (rootT l)) ≤ 60
      · rw [flat_valid hka (after_okF hoF) hfa h6] at hv
        generalize flatT 0 (afterF s (rootT l)) = out at *
        
        (refine enterS Try.func5 Try.ntmps5 ?_)
        (repeat' (first | (refine hK _ ?_; clear hK K) | (refine aw_seq (fun K hK => ?_)) | (refine gR ?_; refine regS ?_) | (refine gC 8 ?_; refine callS (hff) ?_) | (refine gC 13 ?_; refine callS (refIsSet_pc _ _ (by omega)) ?_) | (refine gC 12 ?_; refine callS (at_pc _ _) ?_) | (refine gC 16 ?_; refine callS (hpr) ?_) | (refine gC 9 ?_; refine callS (traces_pc) ?_) | (refine gC 10 ?_; refine callS (hv) ?_) | (refine stk_op (fun K hK => ?_); (first | (refine aop_pv (pv_fieldAddrF (by rfl) (by rfl) (by first | decide | (simp; done) | (simp; omega))) ?_) | (refine aop_pv (pv_fieldAddrIF (by rfl) (by rfl) (by first | decide | (simp; done) | (simp; omega))) ?_) | (refine aop_pv (pv_eql (by rfl) (by rfl)) ?_) | (refine aop_pv (pv_eqlB (by rfl) (by rfl)) ?_) | (refine aop_pv (pv_eqlA (by rfl) (by rfl) (by kernel_rfl)) ?_) | (refine aop_pv (pv_neq (by rfl) (by rfl)) ?_) | (refine aop_pv (pv_neqB (by rfl) (by rfl)) ?_) | (refine aop_pv (pv_neqA (by rfl) (by rfl) (by kernel_rfl)) ?_))) | (refine gE ?_; (first | (refine exN ?_) | (refine exS (fun _ => ?_)))) | (refine gG ?_; refine guardS (fun hc => ?_) (fun hc => ?_) <;> (try (first | contradiction | (exfalso; omega) | (exfalso; simp_all [Prod.ext_iff]; done)))) | (refine gQ ?_; (first | (refine condT ?_) | (refine condF ?_) | (refine condS (fun hc => ?_) (fun hc => ?_) <;> (try (first | contradiction | (exfalso; omega) | (exfalso; simp_all [Prod.ext_iff]; done)))))) | (refine gW ?_; refine wopsS ?_) | (refine aw_block ?_) | (refine gX ?_; refine exitS ?_) | (refine gT ?_; refine retS ?_) | (refine gS ?_; refine skipS ?_) | (apply_assumption (exfalso := false) (symm := false))))
        all_goals ((refine fin_le (Le.refl _) (rv_one (rv1_tmp (by rfl))) (by first | rfl | (simp only [go_sem, Nat.reduceAdd, Nat.reduceMul, reduceIte, Nat.reduceEqDiff, Nat.reduceLeDiff, Int.reduceToNat, Int.reducePow, Int.reduceBEq, Int.reduceBNe, Int.reduceLT, Int.reduceLE, decide_true, decide_false])) ?_); rfl)
      · generalize flatT 0 (afterF s (rootT l)) = out at *
        (refine enterS Try.func5 Try.ntmps5 ?_)
        (repeat' (first | (refine hK _ ?_; clear hK K) | (refine aw_seq (fun K hK => ?_)) | (refine gR ?_; refine regS ?_) | (refine gC 8 ?_; refine callS (hff) ?_) | (refine gC 13 ?_; refine callS (refIsSet_pc _ _ (by omega)) ?_) | (refine gC 12 ?_; refine callS (at_pc _ _) ?_) | (refine gC 16 ?_; refine callS (hpr) ?_) | (refine gC 9 ?_; refine callS (traces_pc) ?_) | (refine gC 10 ?_; refine callS (hv) ?_) | (refine stk_op (fun K hK => ?_); (first | (refine aop_pv (pv_fieldAddrF (by rfl) (by rfl) (by first | decide | (simp; done) | (simp; omega))) ?_) | (refine aop_pv (pv_fieldAddrIF (by rfl) (by rfl) (by first | decide | (simp; done) | (simp; omega))) ?_) | (refine aop_pv (pv_eql (by rfl) (by rfl)) ?_) | (refine aop_pv (pv_eqlB (by rfl) (by rfl)) ?_) | (refine aop_pv (pv_eqlA (by rfl) (by rfl) (by kernel_rfl)) ?_) | (refine aop_pv (pv_neq (by rfl) (by rfl)) ?_) | (refine aop_pv (pv_neqB (by rfl) (by rfl)) ?_) | (refine aop_pv (pv_neqA (by rfl) (by rfl) (by kernel_rfl)) ?_))) | (refine gE ?_; (first | (refine exN ?_) | (refine exS (fun _ => ?_)))) | (refine gG ?_; refine guardS (fun hc => ?_) (fun hc => ?_) <;> (try (first | contradiction | (exfalso; omega) | (exfalso; simp_all [Prod.ext_iff]; done)))) | (refine gQ ?_; (first | (refine condT ?_) | (refine condF ?_) | (refine condS (fun hc => ?_) (fun hc => ?_) <;> (try (first | contradiction | (exfalso; omega) | (exfalso; simp_all [Prod.ext_iff]; done)))))) | (refine gW ?_; refine wopsS ?_) | (refine aw_block ?_) | (refine gX ?_; refine exitS ?_) | (refine gT ?_; refine retS ?_) | (refine gS ?_; refine skipS ?_) | (apply_assumption (exfalso := false) (symm := false))))
        all_goals ((refine fin_le (Le.refl _) (rv_one (rv1_tmp (by rfl))) (by first | rfl | (simp only [go_sem, Nat.reduceAdd, Nat.reduceMul, reduceIte, Nat.reduceEqDiff, Nat.reduceLeDiff, Int.reduceToNat, Int.reducePow, Int.reduceBEq, Int.reduceBNe, Int.reduceLT, Int.reduceLE, decide_true, decide_false])) ?_); rfl)
  · have hc := ff_code hf
    have ep : progF facts l s = formFault facts l := by rw [progF, if_pos hf]
    rw [show progL facts l s = [] by rw [progL, ep, if_neg hf], ep] at hpr
    generalize formFault facts l = p at *
    (refine enterS Try.func5 Try.ntmps5 ?_)
    (repeat' (first | (refine hK _ ?_; clear hK K) | (refine aw_seq (fun K hK => ?_)) | (refine gR ?_; refine regS ?_) | (refine gC 8 ?_; refine callS (hff) ?_) | (refine gC 13 ?_; refine callS (refIsSet_pc _ _ (by omega)) ?_) | (refine gC 12 ?_; refine callS (at_pc _ _) ?_) | (refine gC 16 ?_; refine callS (hpr) ?_) | (refine gC 9 ?_; refine callS (traces_pc) ?_) | (refine gC 10 ?_; refine callS (hv) ?_) | (refine stk_op (fun K hK => ?_); (first | (refine aop_pv (pv_fieldAddrF (by rfl) (by rfl) (by first | decide | (simp; done) | (simp; omega))) ?_) | (refine aop_pv (pv_fieldAddrIF (by rfl) (by rfl) (by first | decide | (simp; done) | (simp; omega))) ?_) | (refine aop_pv (pv_eql (by rfl) (by rfl)) ?_) | (refine aop_pv (pv_eqlB (by rfl) (by rfl)) ?_) | (refine aop_pv (pv_eqlA (by rfl) (by rfl) (by kernel_rfl)) ?_) | (refine aop_pv (pv_neq (by rfl) (by rfl)) ?_) | (refine aop_pv (pv_neqB (by rfl) (by rfl)) ?_) | (refine aop_pv (pv_neqA (by rfl) (by rfl) (by kernel_rfl)) ?_))) | (refine gE ?_; (first | (refine exN ?_) | (refine exS (fun _ => ?_)))) | (refine gG ?_; refine guardS (fun hc => ?_) (fun hc => ?_) <;> (try (first | contradiction | (exfalso; omega) | (exfalso; simp_all [Prod.ext_iff]; done)))) | (refine gQ ?_; (first | (refine condT ?_) | (refine condF ?_) | (refine condS (fun hc => ?_) (fun hc => ?_) <;> (try (first | contradiction | (exfalso; omega) | (exfalso; simp_all [Prod.ext_iff]; done)))))) | (refine gW ?_; refine wopsS ?_) | (refine aw_block ?_) | (refine gX ?_; refine exitS ?_) | (refine gT ?_; refine retS ?_) | (refine gS ?_; refine skipS ?_) | (apply_assumption (exfalso := false) (symm := false))))
    all_goals ((refine fin_le (Le.refl _) (rv_one (rv1_tmp (by rfl))) (by first | rfl | (simp only [go_sem, Nat.reduceAdd, Nat.reduceMul, reduceIte, Nat.reduceEqDiff, Nat.reduceLeDiff, Int.reduceToNat, Int.reducePow, Int.reduceBEq, Int.reduceBNe, Int.reduceLT, Int.reduceLE, decide_true, decide_false])) ?_); rfl)
end Go.Proofs.Ytanogjooppnihaa
