import Derived.Test.YtbeceabheahpnaaSyx


namespace Go.Proofs.Ytbeceabheahpnaa
open Go.Ab
open Go
set_option linter.unusedSimpArgs false
set_option linter.unusedVariables false
set_option maxRecDepth 10000
attribute [local irreducible] PV AOp AOps AW PCall OCall MCall WCall HCall Ab.Fin OFin OFin2 MFin HFin RV RV1 Le AStk AGrd ADr ADx ADo AOpX AAny AOpsI wops wdr wgd wdt
set_option maxHeartbeats 4000000
/-! the permutation of the operators is as specified -/
theorem tf_s {t : Task} {p : Int × Int} (e : taskFault t = p) : PCall Try.prog 8 [t.av] (fun r => r = faultP p) := by
  have := taskFault_pc t
  rw [e] at this
  exact this
theorem tf_codeS {t : Task} (h : taskFault t ≠ (0, 0)) : (taskFault t).1 ≠ 0 := by
  have h1 : stFault t [] = taskFault t := by unfold stFault; rw [if_pos h]
  have := stFault_code (t := t) (s := []) (by rw [h1]; exact h)
  rw [h1] at this
  exact this
theorem perm_same {t : Task} (hw : WfT t) (l : List Int) : permB t.facts l = isPermB t.facts l := by
  have h1 := permB_iff (n := t.facts.toNat) (l := l)
  have h2 := isPermB_iff (n := t.facts.toNat) (l := l)
  rw [wf_nat hw] at h1 h2
  rw [Bool.eq_iff_iff, h1, h2]
theorem perm_s {t : Task} {l : List Int} {b : Bool} (hw : WfT t) (e : isPermB t.facts l = b) : PCall Try.prog 9 [.int t.facts, ints l] (fun r => r = .bool b) := by
  have := perm_pc t.facts l hw.f0 (by have := hw.f1; omega)
  rw [perm_same hw, e] at this
  exact this
theorem intsN_pc : PCall Try.prog 14 [.nilS, .nilS] (fun r => r = .bool true) := pcall_le ((ints_pc [] []).mono fun r hr => by rw [hr]; rfl) ⟨ALe.nil 1 8, ALe.nil 1 8, trivial⟩
theorem intsS_pc (l : List Int) : PCall Try.prog 14 [ints l, ints l] (fun r => r = .bool true) := (ints_pc l l).mono fun r hr => by rw [hr, decide_eq_true rfl]

theorem matchLaw_pc (t : Task) (perm : List Int) : PCall Try.prog 3 [t.av, ints perm] (fun r => r = .bool true) := by
  by_cases hf : taskFault t = (0, 0)
  · have hw := taskFault_ok.1 hf
    have htf := tf_s hf
    
    cases hp : isPermB t.facts perm with
    | false =>
      have hpm := perm_s hw hp
      have hex := extend_no t perm hf hp
      
      
      
      (refine enterS Try.func3 Try.ntmps3 ?_)
      (repeat' (first | (refine hK _ ?_; clear hK K) | (refine aw_seq (fun K hK => ?_)) | (refine gR ?_; refine regS ?_) | (refine gC 8 ?_; refine callS (htf) ?_) | (refine gC 9 ?_; refine callS (hpm) ?_) | (refine gC 10 ?_; refine callS (at_pc _ _) ?_) | (refine gC 12 ?_; refine callS (hex) ?_) | (refine gC 13 ?_; refine callS (mirrors_pc) ?_) | (refine gC 14 ?_; refine callS (intsN_pc) ?_) | (refine stk_op (fun K hK => ?_); (first | (refine aop_pv (pv_fieldAddrF (by rfl) (by rfl) (by first | decide | (simp; done) | (simp; omega))) ?_) | (refine aop_pv (pv_fieldAddrIF (by rfl) (by rfl) (by first | decide | (simp; done) | (simp; omega))) ?_) | (refine aop_pv (pv_eql (by rfl) (by rfl)) ?_) | (refine aop_pv (pv_eqlB (by rfl) (by rfl)) ?_) | (refine aop_pv (pv_eqlA (by rfl) (by rfl) (by kernel_rfl)) ?_))) | (refine gE ?_; (first | (refine exN ?_) | (refine exS (fun _ => ?_)))) | (refine gG ?_; refine guardS (fun hc => ?_) (fun hc => ?_) <;> (try (first | contradiction | (exfalso; omega)))) | (refine gQ ?_; (first | (refine condT ?_) | (refine condF ?_) | (refine condS (fun hc => ?_) (fun hc => ?_) <;> (try (first | contradiction | (exfalso; omega)))))) | (refine gW ?_; refine wopsS ?_) | (refine aw_block ?_) | (refine gX ?_; refine exitS ?_) | (refine gT ?_; refine retS ?_) | (refine gS ?_; refine skipS ?_) | (apply_assumption (exfalso := false) (symm := false))))
      (refine fin_le (Le.refl _) (rv_one (rv1_tmp (by rfl))) (by first | rfl | (simp only [go_sem, Nat.reduceAdd, Nat.reduceMul, reduceIte, Nat.reduceEqDiff, Nat.reduceLeDiff, Int.reduceToNat, Int.reducePow, Int.reduceBEq, Int.reduceBNe, Int.reduceLT, Int.reduceLE, decide_true, decide_false])) ?_)
      rfl
    | true =>
      have hpm := perm_s hw hp
      have hex := extend_ok t perm hf hp
      have hre := refExt_pc t perm hw (isPermB_iff.1 (by rw [wf_nat hw]; exact hp))
      
      
      
      
      cases hx : extG t perm with
      | none =>
        rw [hx] at hex hre
        dsimp only [extR] at hex
        dsimp only [extV] at hre
        
        (refine enterS Try.func3 Try.ntmps3 ?_)
        (repeat' (first | (refine hK _ ?_; clear hK K) | (refine aw_seq (fun K hK => ?_)) | (refine gR ?_; refine regS ?_) | (refine gC 8 ?_; refine callS (htf) ?_) | (refine gC 9 ?_; refine callS (hpm) ?_) | (refine gC 10 ?_; refine callS (at_pc _ _) ?_) | (refine gC 11 ?_; refine callS (hre) ?_) | (refine gC 12 ?_; refine callS (hex) ?_) | (refine gC 13 ?_; refine callS (mirrors_pc) ?_) | (refine gC 14 ?_; refine callS (intsN_pc) ?_) | (refine stk_op (fun K hK => ?_); (first | (refine aop_pv (pv_fieldAddrF (by rfl) (by rfl) (by first | decide | (simp; done) | (simp; omega))) ?_) | (refine aop_pv (pv_fieldAddrIF (by rfl) (by rfl) (by first | decide | (simp; done) | (simp; omega))) ?_) | (refine aop_pv (pv_eql (by rfl) (by rfl)) ?_) | (refine aop_pv (pv_eqlB (by rfl) (by rfl)) ?_) | (refine aop_pv (pv_eqlA (by rfl) (by rfl) (by kernel_rfl)) ?_))) | (refine gE ?_; (first | (refine exN ?_) | (refine exS (fun _ => ?_)))) | (refine gG ?_; refine guardS (fun hc => ?_) (fun hc => ?_) <;> (try (first | contradiction | (exfalso; omega)))) | (refine gQ ?_; (first | (refine condT ?_) | (refine condF ?_) | (refine condS (fun hc => ?_) (fun hc => ?_) <;> (try (first | contradiction | (exfalso; omega)))))) | (refine gW ?_; refine wopsS ?_) | (refine aw_block ?_) | (refine gX ?_; refine exitS ?_) | (refine gT ?_; refine retS ?_) | (refine gS ?_; refine skipS ?_) | (apply_assumption (exfalso := false) (symm := false))))
        (refine fin_le (Le.refl _) (rv_one (rv1_tmp (by rfl))) (by first | rfl | (simp only [go_sem, Nat.reduceAdd, Nat.reduceMul, reduceIte, Nat.reduceEqDiff, Nat.reduceLeDiff, Int.reduceToNat, Int.reducePow, Int.reduceBEq, Int.reduceBNe, Int.reduceLT, Int.reduceLE, decide_true, decide_false])) ?_)
        rfl
      | some l =>
        rw [hx] at hex hre
        dsimp only [extR] at hex
        dsimp only [extV] at hre
        generalize l.map Int.ofNat = q at hex hre
        have hii := intsS_pc q
        
        
        (refine enterS Try.func3 Try.ntmps3 ?_)
        (repeat' (first | (refine hK _ ?_; clear hK K) | (refine aw_seq (fun K hK => ?_)) | (refine gR ?_; refine regS ?_) | (refine gC 8 ?_; refine callS (htf) ?_) | (refine gC 9 ?_; refine callS (hpm) ?_) | (refine gC 10 ?_; refine callS (at_pc _ _) ?_) | (refine gC 11 ?_; refine callS (hre) ?_) | (refine gC 12 ?_; refine callS (hex) ?_) | (refine gC 13 ?_; refine callS (mirrors_pc) ?_) | (refine gC 14 ?_; refine callS (hii) ?_) | (refine stk_op (fun K hK => ?_); (first | (refine aop_pv (pv_fieldAddrF (by rfl) (by rfl) (by first | decide | (simp; done) | (simp; omega))) ?_) | (refine aop_pv (pv_fieldAddrIF (by rfl) (by rfl) (by first | decide | (simp; done) | (simp; omega))) ?_) | (refine aop_pv (pv_eql (by rfl) (by rfl)) ?_) | (refine aop_pv (pv_eqlB (by rfl) (by rfl)) ?_) | (refine aop_pv (pv_eqlA (by rfl) (by rfl) (by kernel_rfl)) ?_))) | (refine gE ?_; (first | (refine exN ?_) | (refine exS (fun _ => ?_)))) | (refine gG ?_; refine guardS (fun hc => ?_) (fun hc => ?_) <;> (try (first | contradiction | (exfalso; omega)))) | (refine gQ ?_; (first | (refine condT ?_) | (refine condF ?_) | (refine condS (fun hc => ?_) (fun hc => ?_) <;> (try (first | contradiction | (exfalso; omega)))))) | (refine gW ?_; refine wopsS ?_) | (refine aw_block ?_) | (refine gX ?_; refine exitS ?_) | (refine gT ?_; refine retS ?_) | (refine gS ?_; refine skipS ?_) | (apply_assumption (exfalso := false) (symm := false))))
        (refine fin_le (Le.refl _) (rv_one (rv1_tmp (by rfl))) (by first | rfl | (simp only [go_sem, Nat.reduceAdd, Nat.reduceMul, reduceIte, Nat.reduceEqDiff, Nat.reduceLeDiff, Int.reduceToNat, Int.reducePow, Int.reduceBEq, Int.reduceBNe, Int.reduceLT, Int.reduceLE, decide_true, decide_false])) ?_)
        rfl
  · have hc := tf_codeS hf
    have htf := tf_s (t := t) rfl
    have hex := extend_bad t perm _ rfl hc
    generalize taskFault t = p at *
    
    
    
    
    (refine enterS Try.func3 Try.ntmps3 ?_)
    (repeat' (first | (refine hK _ ?_; clear hK K) | (refine aw_seq (fun K hK => ?_)) | (refine gR ?_; refine regS ?_) | (refine gC 8 ?_; refine callS (htf) ?_) | (refine gC 10 ?_; refine callS (at_pc _ _) ?_) | (refine gC 11 ?_; refine callS (hre) ?_) | (refine gC 12 ?_; refine callS (hex) ?_) | (refine gC 13 ?_; refine callS (mirrors_pc) ?_) | (refine gC 14 ?_; refine callS (intsN_pc) ?_) | (refine stk_op (fun K hK => ?_); (first | (refine aop_pv (pv_fieldAddrF (by rfl) (by rfl) (by first | decide | (simp; done) | (simp; omega))) ?_) | (refine aop_pv (pv_fieldAddrIF (by rfl) (by rfl) (by first | decide | (simp; done) | (simp; omega))) ?_) | (refine aop_pv (pv_eql (by rfl) (by rfl)) ?_) | (refine aop_pv (pv_eqlB (by rfl) (by rfl)) ?_) | (refine aop_pv (pv_eqlA (by rfl) (by rfl) (by kernel_rfl)) ?_))) | (refine gE ?_; (first | (refine exN ?_) | (refine exS (fun _ => ?_)))) | (refine gG ?_; refine guardS (fun hc => ?_) (fun hc => ?_) <;> (try (first | contradiction | (exfalso; omega)))) | (refine gQ ?_; (first | (refine condT ?_) | (refine condF ?_) | (refine condS (fun hc => ?_) (fun hc => ?_) <;> (try (first | contradiction | (exfalso; omega)))))) | (refine gW ?_; refine wopsS ?_) | (refine aw_block ?_) | (refine gX ?_; refine exitS ?_) | (refine gT ?_; refine retS ?_) | (refine gS ?_; refine skipS ?_) | (apply_assumption (exfalso := false) (symm := false))))
    all_goals (refine fin_le (Le.refl _) (rv_one (rv1_tmp (by rfl))) (by first | rfl | (simp only [go_sem, Nat.reduceAdd, Nat.reduceMul, reduceIte, Nat.reduceEqDiff, Nat.reduceLeDiff, Int.reduceToNat, Int.reducePow, Int.reduceBEq, Int.reduceBNe, Int.reduceLT, Int.reduceLE, decide_true, decide_false])) ?_)
    all_goals rfl

end Go.Proofs.Ytbeceabheahpnaa
