import Derived.Test.YthdlckclpmfidaaCpa


namespace Go.Proofs.Ythdlckclpmfidaa
open Go.Ab
open Go
set_option linter.unusedSimpArgs false
set_option linter.unusedVariables false
set_option maxRecDepth 10000
attribute [local irreducible] PV AOp AOps AW PCall OCall MCall WCall HCall Ab.Fin OFin OFin2 MFin HFin RV RV1 Le AStk AGrd ADr ADx ADo AOpX AAny AOpsI wops wdr wgd wdt
set_option maxHeartbeats 16000000
/-! row 30 -/
theorem tf_s {t : Task} {p : Int × Int} (e : taskFault t = p) : PCall Try.prog 8 [t.av] (fun r => r = faultP p) := by
  have := taskFault_pc t
  rw [e] at this
  exact this

theorem stateOk_pc (t : Task) (s : List Int) (hw : WfT t) : PCall Try.prog 36 [t.av, ints s] (fun r => r = .bool (isSet s t.facts)) := by
  have h0 := hw.f0
  have h1 := hw.f1
  (refine enterS Try.func36 Try.ntmps36 ?_)
  (repeat' (first | (refine hK _ ?_; clear hK K) | (refine aw_seq (fun K hK => ?_)) | (refine gR ?_; refine regS ?_) | (refine gC 31 ?_; refine callS (refIsSet_pc _ _ (by omega)) ?_) | (refine stk_op (fun K hK => ?_); (first | (refine aop_pv (pv_fieldAddrF (by rfl) (by rfl) (by first | decide | (simp; done) | (simp; omega))) ?_) | (refine aop_pv (pv_fieldAddrIF (by rfl) (by rfl) (by first | decide | (simp; done) | (simp; omega))) ?_))) | (refine gE ?_; (first | (refine exN ?_) | (refine exS (fun _ => ?_)))) | (refine gQ ?_; (first | (refine condT ?_) | (refine condF ?_) | (refine condS (fun hc => ?_) (fun hc => ?_) <;> (try (first | contradiction | (exfalso; omega)))))) | (refine gW ?_; refine wopsS ?_) | (refine aw_block ?_) | (refine gX ?_; refine exitS ?_) | (refine gT ?_; refine retS ?_) | (refine gS ?_; refine skipS ?_) | (apply_assumption (exfalso := false) (symm := false))))
  (refine fin_le (Le.refl _) (rv_one (rv1_tmp (by rfl))) (by first | rfl | (simp only [go_sem, Nat.reduceAdd, Nat.reduceMul, reduceIte, Nat.reduceEqDiff, Nat.reduceLeDiff, Int.reduceToNat, Int.reducePow, Int.reduceBEq, Int.reduceBNe, Int.reduceLT, Int.reduceLE, decide_true, decide_false])) ?_)
  rfl
theorem refState_pc (t : Task) (s : List Int) : PCall Try.prog 14 [t.av, ints s] (fun r => r = faultP (stFault t s)) := by
  by_cases hf : taskFault t = (0, 0)
  · have htf := tf_s hf
    have hso := stateOk_pc t s (taskFault_ok.1 hf)
    
    cases hs : isSet s t.facts with
    | true =>
      rw [show stFault t s = (0, 0) by unfold stFault; rw [if_neg (by simp [hf]), if_pos hs]]
      rw [hs] at hso
      
      (refine enterS Try.func14 Try.ntmps14 ?_)
      (repeat' (first | (refine hK _ ?_; clear hK K) | (refine aw_seq (fun K hK => ?_)) | (refine gR ?_; refine regS ?_) | (refine gC 8 ?_; refine callS (htf) ?_) | (refine gC 36 ?_; refine callS (hso) ?_) | (refine gC 10 ?_; refine callS (at_pc _ _) ?_) | (refine stk_op (fun K hK => ?_); (first | (refine aop_pv (pv_fieldAddrF (by rfl) (by rfl) (by first | decide | (simp; done) | (simp; omega))) ?_) | (refine aop_pv (pv_fieldAddrIF (by rfl) (by rfl) (by first | decide | (simp; done) | (simp; omega))) ?_) | (refine aop_pv (pv_eql (by rfl) (by rfl)) ?_) | (refine aop_pv (pv_eqlB (by rfl) (by rfl)) ?_) | (refine aop_pv (pv_eqlA (by rfl) (by rfl) (by kernel_rfl)) ?_))) | (refine gE ?_; (first | (refine exN ?_) | (refine exS (fun _ => ?_)))) | (refine gG ?_; refine guardS (fun hc => ?_) (fun hc => ?_) <;> (try (first | contradiction | (exfalso; omega)))) | (refine gQ ?_; (first | (refine condT ?_) | (refine condF ?_) | (refine condS (fun hc => ?_) (fun hc => ?_) <;> (try (first | contradiction | (exfalso; omega)))))) | (refine gW ?_; refine wopsS ?_) | (refine aw_block ?_) | (refine gX ?_; refine exitS ?_) | (refine gT ?_; refine retS ?_) | (refine gS ?_; refine skipS ?_) | (apply_assumption (exfalso := false) (symm := false))))
      (refine fin_le (Le.refl _) (rv_one (rv1_cell (by first | exact pv_load (by rfl) (by rfl) (by rfl) (by rfl) | exact pv_loadA (by rfl) (by rfl) (by rfl) (by first | decide | simp)))) (by first | rfl | (simp only [go_sem, Nat.reduceAdd, Nat.reduceMul, reduceIte, Nat.reduceEqDiff, Nat.reduceLeDiff, Int.reduceToNat, Int.reducePow, Int.reduceBEq, Int.reduceBNe, Int.reduceLT, Int.reduceLE, decide_true, decide_false])) ?_)
      rfl
    | false =>
      rw [show stFault t s = (5, -4) by unfold stFault; rw [if_neg (by simp [hf]), if_neg (by simp [hs])]]
      rw [hs] at hso
      
      (refine enterS Try.func14 Try.ntmps14 ?_)
      (repeat' (first | (refine hK _ ?_; clear hK K) | (refine aw_seq (fun K hK => ?_)) | (refine gR ?_; refine regS ?_) | (refine gC 8 ?_; refine callS (htf) ?_) | (refine gC 36 ?_; refine callS (hso) ?_) | (refine gC 10 ?_; refine callS (at_pc _ _) ?_) | (refine stk_op (fun K hK => ?_); (first | (refine aop_pv (pv_fieldAddrF (by rfl) (by rfl) (by first | decide | (simp; done) | (simp; omega))) ?_) | (refine aop_pv (pv_fieldAddrIF (by rfl) (by rfl) (by first | decide | (simp; done) | (simp; omega))) ?_) | (refine aop_pv (pv_eql (by rfl) (by rfl)) ?_) | (refine aop_pv (pv_eqlB (by rfl) (by rfl)) ?_) | (refine aop_pv (pv_eqlA (by rfl) (by rfl) (by kernel_rfl)) ?_))) | (refine gE ?_; (first | (refine exN ?_) | (refine exS (fun _ => ?_)))) | (refine gG ?_; refine guardS (fun hc => ?_) (fun hc => ?_) <;> (try (first | contradiction | (exfalso; omega)))) | (refine gQ ?_; (first | (refine condT ?_) | (refine condF ?_) | (refine condS (fun hc => ?_) (fun hc => ?_) <;> (try (first | contradiction | (exfalso; omega)))))) | (refine gW ?_; refine wopsS ?_) | (refine aw_block ?_) | (refine gX ?_; refine exitS ?_) | (refine gT ?_; refine retS ?_) | (refine gS ?_; refine skipS ?_) | (apply_assumption (exfalso := false) (symm := false))))
      (refine fin_le (Le.refl _) (rv_one (rv1_cell (by first | exact pv_load (by rfl) (by rfl) (by rfl) (by rfl) | exact pv_loadA (by rfl) (by rfl) (by rfl) (by first | decide | simp)))) (by first | rfl | (simp only [go_sem, Nat.reduceAdd, Nat.reduceMul, reduceIte, Nat.reduceEqDiff, Nat.reduceLeDiff, Int.reduceToNat, Int.reducePow, Int.reduceBEq, Int.reduceBNe, Int.reduceLT, Int.reduceLE, decide_true, decide_false])) ?_)
      rfl
  · have hc := tf_code hf
    have htf := tf_s (t := t) rfl
    rw [show stFault t s = taskFault t by unfold stFault; rw [if_pos hf]]
    generalize taskFault t = p at *
    
    
    (refine enterS Try.func14 Try.ntmps14 ?_)
    (repeat' (first | (refine hK _ ?_; clear hK K) | (refine aw_seq (fun K hK => ?_)) | (refine gR ?_; refine regS ?_) | (refine gC 8 ?_; refine callS (htf) ?_) | (refine gC 10 ?_; refine callS (at_pc _ _) ?_) | (refine stk_op (fun K hK => ?_); (first | (refine aop_pv (pv_fieldAddrF (by rfl) (by rfl) (by first | decide | (simp; done) | (simp; omega))) ?_) | (refine aop_pv (pv_fieldAddrIF (by rfl) (by rfl) (by first | decide | (simp; done) | (simp; omega))) ?_) | (refine aop_pv (pv_eql (by rfl) (by rfl)) ?_) | (refine aop_pv (pv_eqlB (by rfl) (by rfl)) ?_) | (refine aop_pv (pv_eqlA (by rfl) (by rfl) (by kernel_rfl)) ?_))) | (refine gE ?_; (first | (refine exN ?_) | (refine exS (fun _ => ?_)))) | (refine gG ?_; refine guardS (fun hc => ?_) (fun hc => ?_) <;> (try (first | contradiction | (exfalso; omega)))) | (refine gQ ?_; (first | (refine condT ?_) | (refine condF ?_) | (refine condS (fun hc => ?_) (fun hc => ?_) <;> (try (first | contradiction | (exfalso; omega)))))) | (refine gW ?_; refine wopsS ?_) | (refine aw_block ?_) | (refine gX ?_; refine exitS ?_) | (refine gT ?_; refine retS ?_) | (refine gS ?_; refine skipS ?_) | (apply_assumption (exfalso := false) (symm := false))))
    all_goals (refine fin_le (Le.refl _) (rv_one (rv1_cell (by first | exact pv_load (by rfl) (by rfl) (by rfl) (by rfl) | exact pv_loadA (by rfl) (by rfl) (by rfl) (by first | decide | simp)))) (by first | rfl | (simp only [go_sem, Nat.reduceAdd, Nat.reduceMul, reduceIte, Nat.reduceEqDiff, Nat.reduceLeDiff, Int.reduceToNat, Int.reducePow, Int.reduceBEq, Int.reduceBNe, Int.reduceLT, Int.reduceLE, decide_true, decide_false])) ?_)
    all_goals rfl

theorem rst_s {t : Task} {s : List Int} {p : Int × Int} (e : stFault t s = p) : PCall Try.prog 14 [t.av, ints s] (fun r => r = faultP p) := by
  have := refState_pc t s
  rw [e] at this
  exact this
theorem indep_at {t : Task} {a b : Int} {is : Bool} {p : Int × Int} (h1 : indAns t a b = is) (h2 : indF t a b = p) : PCall Try.prog 11 [t.av, .int a, .int b] (fun r => r = .tup [.bool is, faultP p]) := by
  rw [← h1, ← h2]
  exact indep_pc t a b
theorem indAns_bad {t : Task} {a b : Int} (h : taskFault t ≠ (0, 0)) : indAns t a b = false ∧ indF t a b = taskFault t := by
  refine ⟨?_, ?_⟩
  · simp [indAns, h]
  · simp [indF, h]
theorem indAns_rng {t : Task} {a b : Int} (h : taskFault t = (0, 0)) (hr : ¬ ((0 ≤ a ∧ a < t.ops.length) ∧ (0 ≤ b ∧ b < t.ops.length))) : indAns t a b = false ∧ indF t a b = (3, -6) := by
  have e : (rngB t a && rngB t b) = false := by
    cases h1 : rngB t a
    · rfl
    · cases h2 : rngB t b
      · rfl
      · exact absurd ⟨rngB_t h1, rngB_t h2⟩ hr
  simp [indAns, indF, h, e]
theorem indAns_ok {t : Task} {a b : Int} (h : taskFault t = (0, 0)) (ha : 0 ≤ a ∧ a < t.ops.length) (hb : 0 ≤ b ∧ b < t.ops.length) : indAns t a b = indB t.ops[a.toNat]! t.ops[b.toNat]! ∧ indF t a b = (0, 0) := by
  have e : (rngB t a && rngB t b) = true := by
    rw [Bool.and_eq_true]
    unfold rngB
    rw [inB_t, inB_t]
    omega
  simp [indAns, indF, h, e]
theorem comm_at {a b : Op} {v : Bool} (h : indB a b = v) : PCall Try.prog 13 [a.av, b.av] (fun r => r = .bool v) := by
  rw [← h]
  exact commute_pc a b
theorem intsS_pc (l : List Int) : PCall Try.prog 17 [ints l, ints l] (fun r => r = .bool true) := (ints_pc l l).mono fun r hr => by rw [hr, decide_eq_true rfl]
theorem intsN_pc : PCall Try.prog 17 [.nilS, .nilS] (fun r => r = .bool true) := pcall_le (intsS_pc []) ⟨ALe.nil 1 8, ALe.nil 1 8, trivial⟩



theorem matchC_pc (t : Task) (s : List Int) (a b : Int) (wa : -9223372036854775808 ≤ a ∧ a ≤ 9223372036854775807) (wb : -9223372036854775808 ≤ b ∧ b ≤ 9223372036854775807) : PCall Try.prog 3 [t.av, ints s, .int a, .int b] (fun r => r = .bool true) := by
  by_cases hs : stFault t s = (0, 0)
  · obtain ⟨hw, hset⟩ := stFault_ok.1 hs
    have h1 := rst_s hs
    have h2 := stubC_ok t s hs
    have h3 := ref_pc t s hw
    have h40 := hw.n40
    
    
    
    generalize stubT t s = S at *
    by_cases hf : taskFault t = (0, 0)
    · have htf := tf_s hf
      
      by_cases hra : 0 ≤ a ∧ a < t.ops.length
      · by_cases hrb : 0 ≤ b ∧ b < t.ops.length
        · obtain ⟨e1, e2⟩ := indAns_ok hf hra hrb
          cases hv : indB t.ops[a.toNat]! t.ops[b.toNat]!
          · rw [hv] at e1
            have hi := indep_at e1 e2
            rw [getBang (l := t.ops) (k := a.toNat) (by omega), getBang (l := t.ops) (k := b.toNat) (by omega)] at hv
            have hcm := comm_at hv
            clear e1 e2 hv
            
            
            (refine enterS Try.func3 Try.ntmps3 ?_)
            (repeat' (first | (refine hK _ ?_; clear hK K) | (refine aw_seq (fun K hK => ?_)) | (refine gR ?_; refine regS ?_) | (refine gD 5 ?_; refine drS (.it 0 1 (.it 1 0 (.it 2 0 (.it 3 0 (.it 4 0 (.it 5 0 (.it 6 0 (.it 7 0 (.it 8 0 (.it 9 0 (.it 10 0 (.it 11 0 (.it 12 0 (.it 13 0 (.it 14 0 (.it 15 0 (.it 16 0 (.it 17 0 (.it 18 0 (.it 19 0 (.it 20 0 (.it 21 0 (.it 22 0 (.it 23 2 (.it 24 0 (.it 25 0 (.it 26 0 .nil))))))))))))))))))))))))))) [1, 2, 3, 4, 5, 6, 7, 8, 9, 10, 11, 12, 13, 14, 15, 16, 17, 18, 19, 20, 21, 22, 23, 24, 25, 26] ?_) | (refine gC 8 ?_; refine callS (htf) ?_) | (refine gC 9 ?_; refine callS (in_pc _ _ _) ?_) | (refine gC 10 ?_; refine callS (at_pc _ _) ?_) | (refine gC 11 ?_; refine callS (hi) ?_) | (refine gCd 12 ?_; refine callD (apart_pc) ?_) | (refine gCd 13 ?_; refine callD (hcm) ?_) | (refine gC 14 ?_; refine callS (h1) ?_) | (refine gC 15 ?_; refine callS (h3) ?_) | (refine gC 16 ?_; refine callS (h2) ?_) | (refine gC 17 ?_; refine callS (intsS_pc _) ?_) | (refine gC 17 ?_; refine callS (intsN_pc) ?_) | (refine stk_op (fun K hK => ?_); (first | (refine aop_pv (pv_fieldAddrF (by rfl) (by rfl) (by first | decide | (simp; done) | (simp; omega))) ?_) | (refine aop_pv (pv_fieldAddrIF (by rfl) (by rfl) (by first | decide | (simp; done) | (simp; omega))) ?_) | (refine aop_pv (pv_eql (by rfl) (by rfl)) ?_) | (refine aop_pv (pv_eqlB (by rfl) (by rfl)) ?_) | (refine aop_pv (pv_eqlA (by rfl) (by rfl) (by kernel_rfl)) ?_))) | (refine adx_op (fun K hK => ?_); (first | (refine aopx_pv (pv_neq (by rfl) (by rfl)) ?_) | (refine aopx_pv (pv_neqB (by rfl) (by rfl)) ?_) | (refine aopx_pv (pv_neqA (by rfl) (by rfl) (by kernel_rfl)) ?_) | (refine aopx_pv (pv_fieldAddrF (by rfl) (by rfl) (by first | decide | (simp; done) | (simp; omega))) ?_) | (refine aopx_pv (pv_fieldAddrIF (by rfl) (by rfl) (by first | decide | (simp; done) | (simp; omega))) ?_) | (refine aopx_pv (pv_eql (by rfl) (by rfl)) ?_) | (refine aopx_pv (pv_eqlB (by rfl) (by rfl)) ?_) | (refine aopx_pv (pv_eqlA (by rfl) (by rfl) (by kernel_rfl)) ?_))) | (refine And.intro ?_ ?_) | (refine gDx ?_; refine adxS ?_) | (refine gE ?_; (first | (refine exN ?_) | (refine exS (fun _ => ?_)))) | (refine gG ?_; refine guardS (fun hc => ?_) (fun hc => ?_) <;> (try (first | contradiction | (exfalso; omega)))) | (refine gGd ?_; refine guardD (fun hc => ?_) (fun hc => ?_) <;> (try (first | contradiction | (exfalso; omega)))) | (refine gQ ?_; (first | (refine condT ?_) | (refine condF ?_) | (refine condS (fun hc => ?_) (fun hc => ?_) <;> (try (first | contradiction | (exfalso; omega)))))) | (refine gWd ?_; refine wdrS ?_) | (refine gW ?_; refine wopsS ?_) | (refine aw_block ?_) | (refine gX ?_; refine exitS ?_) | (refine gT ?_; refine retS ?_) | (refine gS ?_; refine skipS ?_) | (apply_assumption (exfalso := false) (symm := false))))
            all_goals (refine fin_le (Le.refl _) (rv_one (rv1_tmp (by rfl))) (by first | rfl | (simp only [go_sem, Nat.reduceAdd, Nat.reduceMul, reduceIte, Nat.reduceEqDiff, Nat.reduceLeDiff, Int.reduceToNat, Int.reducePow, Int.reduceBEq, Int.reduceBNe, Int.reduceLT, Int.reduceLE, decide_true, decide_false])) ?_)
            all_goals rfl
          · rw [hv] at e1
            have hi := indep_at e1 e2
            rw [getBang (l := t.ops) (k := a.toNat) (by omega), getBang (l := t.ops) (k := b.toNat) (by omega)] at hv
            have hcm := comm_at hv
            clear e1 e2 hv
            
            
            (refine enterS Try.func3 Try.ntmps3 ?_)
            (repeat' (first | (refine hK _ ?_; clear hK K) | (refine aw_seq (fun K hK => ?_)) | (refine gR ?_; refine regS ?_) | (refine gD 5 ?_; refine drS (.it 0 1 (.it 1 0 (.it 2 0 (.it 3 0 (.it 4 0 (.it 5 0 (.it 6 0 (.it 7 0 (.it 8 0 (.it 9 0 (.it 10 0 (.it 11 0 (.it 12 0 (.it 13 0 (.it 14 0 (.it 15 0 (.it 16 0 (.it 17 0 (.it 18 0 (.it 19 0 (.it 20 0 (.it 21 0 (.it 22 0 (.it 23 2 (.it 24 0 (.it 25 0 (.it 26 0 .nil))))))))))))))))))))))))))) [1, 2, 3, 4, 5, 6, 7, 8, 9, 10, 11, 12, 13, 14, 15, 16, 17, 18, 19, 20, 21, 22, 23, 24, 25, 26] ?_) | (refine gC 8 ?_; refine callS (htf) ?_) | (refine gC 9 ?_; refine callS (in_pc _ _ _) ?_) | (refine gC 10 ?_; refine callS (at_pc _ _) ?_) | (refine gC 11 ?_; refine callS (hi) ?_) | (refine gCd 12 ?_; refine callD (apart_pc) ?_) | (refine gCd 13 ?_; refine callD (hcm) ?_) | (refine gC 14 ?_; refine callS (h1) ?_) | (refine gC 15 ?_; refine callS (h3) ?_) | (refine gC 16 ?_; refine callS (h2) ?_) | (refine gC 17 ?_; refine callS (intsS_pc _) ?_) | (refine gC 17 ?_; refine callS (intsN_pc) ?_) | (refine stk_op (fun K hK => ?_); (first | (refine aop_pv (pv_fieldAddrF (by rfl) (by rfl) (by first | decide | (simp; done) | (simp; omega))) ?_) | (refine aop_pv (pv_fieldAddrIF (by rfl) (by rfl) (by first | decide | (simp; done) | (simp; omega))) ?_) | (refine aop_pv (pv_eql (by rfl) (by rfl)) ?_) | (refine aop_pv (pv_eqlB (by rfl) (by rfl)) ?_) | (refine aop_pv (pv_eqlA (by rfl) (by rfl) (by kernel_rfl)) ?_))) | (refine adx_op (fun K hK => ?_); (first | (refine aopx_pv (pv_neq (by rfl) (by rfl)) ?_) | (refine aopx_pv (pv_neqB (by rfl) (by rfl)) ?_) | (refine aopx_pv (pv_neqA (by rfl) (by rfl) (by kernel_rfl)) ?_) | (refine aopx_pv (pv_fieldAddrF (by rfl) (by rfl) (by first | decide | (simp; done) | (simp; omega))) ?_) | (refine aopx_pv (pv_fieldAddrIF (by rfl) (by rfl) (by first | decide | (simp; done) | (simp; omega))) ?_) | (refine aopx_pv (pv_eql (by rfl) (by rfl)) ?_) | (refine aopx_pv (pv_eqlB (by rfl) (by rfl)) ?_) | (refine aopx_pv (pv_eqlA (by rfl) (by rfl) (by kernel_rfl)) ?_))) | (refine And.intro ?_ ?_) | (refine gDx ?_; refine adxS ?_) | (refine gE ?_; (first | (refine exN ?_) | (refine exS (fun _ => ?_)))) | (refine gG ?_; refine guardS (fun hc => ?_) (fun hc => ?_) <;> (try (first | contradiction | (exfalso; omega)))) | (refine gGd ?_; refine guardD (fun hc => ?_) (fun hc => ?_) <;> (try (first | contradiction | (exfalso; omega)))) | (refine gQ ?_; (first | (refine condT ?_) | (refine condF ?_) | (refine condS (fun hc => ?_) (fun hc => ?_) <;> (try (first | contradiction | (exfalso; omega)))))) | (refine gWd ?_; refine wdrS ?_) | (refine gW ?_; refine wopsS ?_) | (refine aw_block ?_) | (refine gX ?_; refine exitS ?_) | (refine gT ?_; refine retS ?_) | (refine gS ?_; refine skipS ?_) | (apply_assumption (exfalso := false) (symm := false))))
            all_goals (refine fin_le (Le.refl _) (rv_one (rv1_tmp (by rfl))) (by first | rfl | (simp only [go_sem, Nat.reduceAdd, Nat.reduceMul, reduceIte, Nat.reduceEqDiff, Nat.reduceLeDiff, Int.reduceToNat, Int.reducePow, Int.reduceBEq, Int.reduceBNe, Int.reduceLT, Int.reduceLE, decide_true, decide_false])) ?_)
            all_goals rfl
        · obtain ⟨e1, e2⟩ := indAns_rng (a := a) (b := b) hf (fun h => hrb h.2)
          have hi := indep_at e1 e2
          clear e1 e2
          
          (refine enterS Try.func3 Try.ntmps3 ?_)
          (repeat' (first | (refine hK _ ?_; clear hK K) | (refine aw_seq (fun K hK => ?_)) | (refine gR ?_; refine regS ?_) | (refine gD 5 ?_; refine drS (.it 0 1 (.it 1 0 (.it 2 0 (.it 3 0 (.it 4 0 (.it 5 0 (.it 6 0 (.it 7 0 (.it 8 0 (.it 9 0 (.it 10 0 (.it 11 0 (.it 12 0 (.it 13 0 (.it 14 0 (.it 15 0 (.it 16 0 (.it 17 0 (.it 18 0 (.it 19 0 (.it 20 0 (.it 21 0 (.it 22 0 (.it 23 2 (.it 24 0 (.it 25 0 (.it 26 0 .nil))))))))))))))))))))))))))) [1, 2, 3, 4, 5, 6, 7, 8, 9, 10, 11, 12, 13, 14, 15, 16, 17, 18, 19, 20, 21, 22, 23, 24, 25, 26] ?_) | (refine gC 8 ?_; refine callS (htf) ?_) | (refine gC 9 ?_; refine callS (in_pc _ _ _) ?_) | (refine gC 10 ?_; refine callS (at_pc _ _) ?_) | (refine gC 11 ?_; refine callS (hi) ?_) | (refine gCd 12 ?_; refine callD (apart_pc) ?_) | (refine gCd 13 ?_; refine callD (hcm) ?_) | (refine gC 14 ?_; refine callS (h1) ?_) | (refine gC 15 ?_; refine callS (h3) ?_) | (refine gC 16 ?_; refine callS (h2) ?_) | (refine gC 17 ?_; refine callS (intsS_pc _) ?_) | (refine gC 17 ?_; refine callS (intsN_pc) ?_) | (refine stk_op (fun K hK => ?_); (first | (refine aop_pv (pv_fieldAddrF (by rfl) (by rfl) (by first | decide | (simp; done) | (simp; omega))) ?_) | (refine aop_pv (pv_fieldAddrIF (by rfl) (by rfl) (by first | decide | (simp; done) | (simp; omega))) ?_) | (refine aop_pv (pv_eql (by rfl) (by rfl)) ?_) | (refine aop_pv (pv_eqlB (by rfl) (by rfl)) ?_) | (refine aop_pv (pv_eqlA (by rfl) (by rfl) (by kernel_rfl)) ?_))) | (refine adx_op (fun K hK => ?_); (first | (refine aopx_pv (pv_neq (by rfl) (by rfl)) ?_) | (refine aopx_pv (pv_neqB (by rfl) (by rfl)) ?_) | (refine aopx_pv (pv_neqA (by rfl) (by rfl) (by kernel_rfl)) ?_) | (refine aopx_pv (pv_fieldAddrF (by rfl) (by rfl) (by first | decide | (simp; done) | (simp; omega))) ?_) | (refine aopx_pv (pv_fieldAddrIF (by rfl) (by rfl) (by first | decide | (simp; done) | (simp; omega))) ?_) | (refine aopx_pv (pv_eql (by rfl) (by rfl)) ?_) | (refine aopx_pv (pv_eqlB (by rfl) (by rfl)) ?_) | (refine aopx_pv (pv_eqlA (by rfl) (by rfl) (by kernel_rfl)) ?_))) | (refine And.intro ?_ ?_) | (refine gDx ?_; refine adxS ?_) | (refine gE ?_; (first | (refine exN ?_) | (refine exS (fun _ => ?_)))) | (refine gG ?_; refine guardS (fun hc => ?_) (fun hc => ?_) <;> (try (first | contradiction | (exfalso; omega)))) | (refine gGd ?_; refine guardD (fun hc => ?_) (fun hc => ?_) <;> (try (first | contradiction | (exfalso; omega)))) | (refine gQ ?_; (first | (refine condT ?_) | (refine condF ?_) | (refine condS (fun hc => ?_) (fun hc => ?_) <;> (try (first | contradiction | (exfalso; omega)))))) | (refine gWd ?_; refine wdrS ?_) | (refine gW ?_; refine wopsS ?_) | (refine aw_block ?_) | (refine gX ?_; refine exitS ?_) | (refine gT ?_; refine retS ?_) | (refine gS ?_; refine skipS ?_) | (apply_assumption (exfalso := false) (symm := false))))
          all_goals (refine fin_le (Le.refl _) (rv_one (rv1_tmp (by rfl))) (by first | rfl | (simp only [go_sem, Nat.reduceAdd, Nat.reduceMul, reduceIte, Nat.reduceEqDiff, Nat.reduceLeDiff, Int.reduceToNat, Int.reducePow, Int.reduceBEq, Int.reduceBNe, Int.reduceLT, Int.reduceLE, decide_true, decide_false])) ?_)
          all_goals rfl
      · obtain ⟨e1, e2⟩ := indAns_rng (a := a) (b := b) hf (fun h => hra h.1)
        have hi := indep_at e1 e2
        clear e1 e2
        
        (refine enterS Try.func3 Try.ntmps3 ?_)
        (repeat' (first | (refine hK _ ?_; clear hK K) | (refine aw_seq (fun K hK => ?_)) | (refine gR ?_; refine regS ?_) | (refine gD 5 ?_; refine drS (.it 0 1 (.it 1 0 (.it 2 0 (.it 3 0 (.it 4 0 (.it 5 0 (.it 6 0 (.it 7 0 (.it 8 0 (.it 9 0 (.it 10 0 (.it 11 0 (.it 12 0 (.it 13 0 (.it 14 0 (.it 15 0 (.it 16 0 (.it 17 0 (.it 18 0 (.it 19 0 (.it 20 0 (.it 21 0 (.it 22 0 (.it 23 2 (.it 24 0 (.it 25 0 (.it 26 0 .nil))))))))))))))))))))))))))) [1, 2, 3, 4, 5, 6, 7, 8, 9, 10, 11, 12, 13, 14, 15, 16, 17, 18, 19, 20, 21, 22, 23, 24, 25, 26] ?_) | (refine gC 8 ?_; refine callS (htf) ?_) | (refine gC 9 ?_; refine callS (in_pc _ _ _) ?_) | (refine gC 10 ?_; refine callS (at_pc _ _) ?_) | (refine gC 11 ?_; refine callS (hi) ?_) | (refine gCd 12 ?_; refine callD (apart_pc) ?_) | (refine gCd 13 ?_; refine callD (hcm) ?_) | (refine gC 14 ?_; refine callS (h1) ?_) | (refine gC 15 ?_; refine callS (h3) ?_) | (refine gC 16 ?_; refine callS (h2) ?_) | (refine gC 17 ?_; refine callS (intsS_pc _) ?_) | (refine gC 17 ?_; refine callS (intsN_pc) ?_) | (refine stk_op (fun K hK => ?_); (first | (refine aop_pv (pv_fieldAddrF (by rfl) (by rfl) (by first | decide | (simp; done) | (simp; omega))) ?_) | (refine aop_pv (pv_fieldAddrIF (by rfl) (by rfl) (by first | decide | (simp; done) | (simp; omega))) ?_) | (refine aop_pv (pv_eql (by rfl) (by rfl)) ?_) | (refine aop_pv (pv_eqlB (by rfl) (by rfl)) ?_) | (refine aop_pv (pv_eqlA (by rfl) (by rfl) (by kernel_rfl)) ?_))) | (refine adx_op (fun K hK => ?_); (first | (refine aopx_pv (pv_neq (by rfl) (by rfl)) ?_) | (refine aopx_pv (pv_neqB (by rfl) (by rfl)) ?_) | (refine aopx_pv (pv_neqA (by rfl) (by rfl) (by kernel_rfl)) ?_) | (refine aopx_pv (pv_fieldAddrF (by rfl) (by rfl) (by first | decide | (simp; done) | (simp; omega))) ?_) | (refine aopx_pv (pv_fieldAddrIF (by rfl) (by rfl) (by first | decide | (simp; done) | (simp; omega))) ?_) | (refine aopx_pv (pv_eql (by rfl) (by rfl)) ?_) | (refine aopx_pv (pv_eqlB (by rfl) (by rfl)) ?_) | (refine aopx_pv (pv_eqlA (by rfl) (by rfl) (by kernel_rfl)) ?_))) | (refine And.intro ?_ ?_) | (refine gDx ?_; refine adxS ?_) | (refine gE ?_; (first | (refine exN ?_) | (refine exS (fun _ => ?_)))) | (refine gG ?_; refine guardS (fun hc => ?_) (fun hc => ?_) <;> (try (first | contradiction | (exfalso; omega)))) | (refine gGd ?_; refine guardD (fun hc => ?_) (fun hc => ?_) <;> (try (first | contradiction | (exfalso; omega)))) | (refine gQ ?_; (first | (refine condT ?_) | (refine condF ?_) | (refine condS (fun hc => ?_) (fun hc => ?_) <;> (try (first | contradiction | (exfalso; omega)))))) | (refine gWd ?_; refine wdrS ?_) | (refine gW ?_; refine wopsS ?_) | (refine aw_block ?_) | (refine gX ?_; refine exitS ?_) | (refine gT ?_; refine retS ?_) | (refine gS ?_; refine skipS ?_) | (apply_assumption (exfalso := false) (symm := false))))
        all_goals (refine fin_le (Le.refl _) (rv_one (rv1_tmp (by rfl))) (by first | rfl | (simp only [go_sem, Nat.reduceAdd, Nat.reduceMul, reduceIte, Nat.reduceEqDiff, Nat.reduceLeDiff, Int.reduceToNat, Int.reducePow, Int.reduceBEq, Int.reduceBNe, Int.reduceLT, Int.reduceLE, decide_true, decide_false])) ?_)
        all_goals rfl
    · exact absurd (taskFault_ok.2 hw) hf
  · have h0 := stFault_code hs
    have h1 := rst_s (t := t) (s := s) rfl
    have h2 := stubC_no t s hs
    obtain ⟨q, hq⟩ : ∃ q, stFault t s = q := ⟨_, rfl⟩
    rw [hq] at h0 h1 h2
    
    
    
    by_cases hw0 : taskFault t = (0, 0)
    · have h40 := (taskFault_ok.1 hw0).n40
      by_cases hf : taskFault t = (0, 0)
      · have htf := tf_s hf
        
        by_cases hra : 0 ≤ a ∧ a < t.ops.length
        · by_cases hrb : 0 ≤ b ∧ b < t.ops.length
          · obtain ⟨e1, e2⟩ := indAns_ok hf hra hrb
            cases hv : indB t.ops[a.toNat]! t.ops[b.toNat]!
            · rw [hv] at e1
              have hi := indep_at e1 e2
              rw [getBang (l := t.ops) (k := a.toNat) (by omega), getBang (l := t.ops) (k := b.toNat) (by omega)] at hv
              have hcm := comm_at hv
              clear e1 e2 hv
              
              
              (refine enterS Try.func3 Try.ntmps3 ?_)
              (repeat' (first | (refine hK _ ?_; clear hK K) | (refine aw_seq (fun K hK => ?_)) | (refine gR ?_; refine regS ?_) | (refine gD 5 ?_; refine drS (.it 0 1 (.it 1 0 (.it 2 0 (.it 3 0 (.it 4 0 (.it 5 0 (.it 6 0 (.it 7 0 (.it 8 0 (.it 9 0 (.it 10 0 (.it 11 0 (.it 12 0 (.it 13 0 (.it 14 0 (.it 15 0 (.it 16 0 (.it 17 0 (.it 18 0 (.it 19 0 (.it 20 0 (.it 21 0 (.it 22 0 (.it 23 2 (.it 24 0 (.it 25 0 (.it 26 0 .nil))))))))))))))))))))))))))) [1, 2, 3, 4, 5, 6, 7, 8, 9, 10, 11, 12, 13, 14, 15, 16, 17, 18, 19, 20, 21, 22, 23, 24, 25, 26] ?_) | (refine gC 8 ?_; refine callS (htf) ?_) | (refine gC 9 ?_; refine callS (in_pc _ _ _) ?_) | (refine gC 10 ?_; refine callS (at_pc _ _) ?_) | (refine gC 11 ?_; refine callS (hi) ?_) | (refine gCd 12 ?_; refine callD (apart_pc) ?_) | (refine gCd 13 ?_; refine callD (hcm) ?_) | (refine gC 14 ?_; refine callS (h1) ?_) | (refine gC 16 ?_; refine callS (h2) ?_) | (refine gC 17 ?_; refine callS (intsS_pc _) ?_) | (refine gC 17 ?_; refine callS (intsN_pc) ?_) | (refine stk_op (fun K hK => ?_); (first | (refine aop_pv (pv_fieldAddrF (by rfl) (by rfl) (by first | decide | (simp; done) | (simp; omega))) ?_) | (refine aop_pv (pv_fieldAddrIF (by rfl) (by rfl) (by first | decide | (simp; done) | (simp; omega))) ?_) | (refine aop_pv (pv_eql (by rfl) (by rfl)) ?_) | (refine aop_pv (pv_eqlB (by rfl) (by rfl)) ?_) | (refine aop_pv (pv_eqlA (by rfl) (by rfl) (by kernel_rfl)) ?_))) | (refine adx_op (fun K hK => ?_); (first | (refine aopx_pv (pv_neq (by rfl) (by rfl)) ?_) | (refine aopx_pv (pv_neqB (by rfl) (by rfl)) ?_) | (refine aopx_pv (pv_neqA (by rfl) (by rfl) (by kernel_rfl)) ?_) | (refine aopx_pv (pv_fieldAddrF (by rfl) (by rfl) (by first | decide | (simp; done) | (simp; omega))) ?_) | (refine aopx_pv (pv_fieldAddrIF (by rfl) (by rfl) (by first | decide | (simp; done) | (simp; omega))) ?_) | (refine aopx_pv (pv_eql (by rfl) (by rfl)) ?_) | (refine aopx_pv (pv_eqlB (by rfl) (by rfl)) ?_) | (refine aopx_pv (pv_eqlA (by rfl) (by rfl) (by kernel_rfl)) ?_))) | (refine And.intro ?_ ?_) | (refine gDx ?_; refine adxS ?_) | (refine gE ?_; (first | (refine exN ?_) | (refine exS (fun _ => ?_)))) | (refine gG ?_; refine guardS (fun hc => ?_) (fun hc => ?_) <;> (try (first | contradiction | (exfalso; omega)))) | (refine gGd ?_; refine guardD (fun hc => ?_) (fun hc => ?_) <;> (try (first | contradiction | (exfalso; omega)))) | (refine gQ ?_; (first | (refine condT ?_) | (refine condF ?_) | (refine condS (fun hc => ?_) (fun hc => ?_) <;> (try (first | contradiction | (exfalso; omega)))))) | (refine gWd ?_; refine wdrS ?_) | (refine gW ?_; refine wopsS ?_) | (refine aw_block ?_) | (refine gX ?_; refine exitS ?_) | (refine gT ?_; refine retS ?_) | (refine gS ?_; refine skipS ?_) | (apply_assumption (exfalso := false) (symm := false))))
              all_goals (refine fin_le (Le.refl _) (rv_one (rv1_tmp (by rfl))) (by first | rfl | (simp only [go_sem, Nat.reduceAdd, Nat.reduceMul, reduceIte, Nat.reduceEqDiff, Nat.reduceLeDiff, Int.reduceToNat, Int.reducePow, Int.reduceBEq, Int.reduceBNe, Int.reduceLT, Int.reduceLE, decide_true, decide_false])) ?_)
              all_goals rfl
            · rw [hv] at e1
              have hi := indep_at e1 e2
              rw [getBang (l := t.ops) (k := a.toNat) (by omega), getBang (l := t.ops) (k := b.toNat) (by omega)] at hv
              have hcm := comm_at hv
              clear e1 e2 hv
              
              
              (refine enterS Try.func3 Try.ntmps3 ?_)
              (repeat' (first | (refine hK _ ?_; clear hK K) | (refine aw_seq (fun K hK => ?_)) | (refine gR ?_; refine regS ?_) | (refine gD 5 ?_; refine drS (.it 0 1 (.it 1 0 (.it 2 0 (.it 3 0 (.it 4 0 (.it 5 0 (.it 6 0 (.it 7 0 (.it 8 0 (.it 9 0 (.it 10 0 (.it 11 0 (.it 12 0 (.it 13 0 (.it 14 0 (.it 15 0 (.it 16 0 (.it 17 0 (.it 18 0 (.it 19 0 (.it 20 0 (.it 21 0 (.it 22 0 (.it 23 2 (.it 24 0 (.it 25 0 (.it 26 0 .nil))))))))))))))))))))))))))) [1, 2, 3, 4, 5, 6, 7, 8, 9, 10, 11, 12, 13, 14, 15, 16, 17, 18, 19, 20, 21, 22, 23, 24, 25, 26] ?_) | (refine gC 8 ?_; refine callS (htf) ?_) | (refine gC 9 ?_; refine callS (in_pc _ _ _) ?_) | (refine gC 10 ?_; refine callS (at_pc _ _) ?_) | (refine gC 11 ?_; refine callS (hi) ?_) | (refine gCd 12 ?_; refine callD (apart_pc) ?_) | (refine gCd 13 ?_; refine callD (hcm) ?_) | (refine gC 14 ?_; refine callS (h1) ?_) | (refine gC 16 ?_; refine callS (h2) ?_) | (refine gC 17 ?_; refine callS (intsS_pc _) ?_) | (refine gC 17 ?_; refine callS (intsN_pc) ?_) | (refine stk_op (fun K hK => ?_); (first | (refine aop_pv (pv_fieldAddrF (by rfl) (by rfl) (by first | decide | (simp; done) | (simp; omega))) ?_) | (refine aop_pv (pv_fieldAddrIF (by rfl) (by rfl) (by first | decide | (simp; done) | (simp; omega))) ?_) | (refine aop_pv (pv_eql (by rfl) (by rfl)) ?_) | (refine aop_pv (pv_eqlB (by rfl) (by rfl)) ?_) | (refine aop_pv (pv_eqlA (by rfl) (by rfl) (by kernel_rfl)) ?_))) | (refine adx_op (fun K hK => ?_); (first | (refine aopx_pv (pv_neq (by rfl) (by rfl)) ?_) | (refine aopx_pv (pv_neqB (by rfl) (by rfl)) ?_) | (refine aopx_pv (pv_neqA (by rfl) (by rfl) (by kernel_rfl)) ?_) | (refine aopx_pv (pv_fieldAddrF (by rfl) (by rfl) (by first | decide | (simp; done) | (simp; omega))) ?_) | (refine aopx_pv (pv_fieldAddrIF (by rfl) (by rfl) (by first | decide | (simp; done) | (simp; omega))) ?_) | (refine aopx_pv (pv_eql (by rfl) (by rfl)) ?_) | (refine aopx_pv (pv_eqlB (by rfl) (by rfl)) ?_) | (refine aopx_pv (pv_eqlA (by rfl) (by rfl) (by kernel_rfl)) ?_))) | (refine And.intro ?_ ?_) | (refine gDx ?_; refine adxS ?_) | (refine gE ?_; (first | (refine exN ?_) | (refine exS (fun _ => ?_)))) | (refine gG ?_; refine guardS (fun hc => ?_) (fun hc => ?_) <;> (try (first | contradiction | (exfalso; omega)))) | (refine gGd ?_; refine guardD (fun hc => ?_) (fun hc => ?_) <;> (try (first | contradiction | (exfalso; omega)))) | (refine gQ ?_; (first | (refine condT ?_) | (refine condF ?_) | (refine condS (fun hc => ?_) (fun hc => ?_) <;> (try (first | contradiction | (exfalso; omega)))))) | (refine gWd ?_; refine wdrS ?_) | (refine gW ?_; refine wopsS ?_) | (refine aw_block ?_) | (refine gX ?_; refine exitS ?_) | (refine gT ?_; refine retS ?_) | (refine gS ?_; refine skipS ?_) | (apply_assumption (exfalso := false) (symm := false))))
              all_goals (refine fin_le (Le.refl _) (rv_one (rv1_tmp (by rfl))) (by first | rfl | (simp only [go_sem, Nat.reduceAdd, Nat.reduceMul, reduceIte, Nat.reduceEqDiff, Nat.reduceLeDiff, Int.reduceToNat, Int.reducePow, Int.reduceBEq, Int.reduceBNe, Int.reduceLT, Int.reduceLE, decide_true, decide_false])) ?_)
              all_goals rfl
          · obtain ⟨e1, e2⟩ := indAns_rng (a := a) (b := b) hf (fun h => hrb h.2)
            have hi := indep_at e1 e2
            clear e1 e2
            
            (refine enterS Try.func3 Try.ntmps3 ?_)
            (repeat' (first | (refine hK _ ?_; clear hK K) | (refine aw_seq (fun K hK => ?_)) | (refine gR ?_; refine regS ?_) | (refine gD 5 ?_; refine drS (.it 0 1 (.it 1 0 (.it 2 0 (.it 3 0 (.it 4 0 (.it 5 0 (.it 6 0 (.it 7 0 (.it 8 0 (.it 9 0 (.it 10 0 (.it 11 0 (.it 12 0 (.it 13 0 (.it 14 0 (.it 15 0 (.it 16 0 (.it 17 0 (.it 18 0 (.it 19 0 (.it 20 0 (.it 21 0 (.it 22 0 (.it 23 2 (.it 24 0 (.it 25 0 (.it 26 0 .nil))))))))))))))))))))))))))) [1, 2, 3, 4, 5, 6, 7, 8, 9, 10, 11, 12, 13, 14, 15, 16, 17, 18, 19, 20, 21, 22, 23, 24, 25, 26] ?_) | (refine gC 8 ?_; refine callS (htf) ?_) | (refine gC 9 ?_; refine callS (in_pc _ _ _) ?_) | (refine gC 10 ?_; refine callS (at_pc _ _) ?_) | (refine gC 11 ?_; refine callS (hi) ?_) | (refine gCd 12 ?_; refine callD (apart_pc) ?_) | (refine gCd 13 ?_; refine callD (hcm) ?_) | (refine gC 14 ?_; refine callS (h1) ?_) | (refine gC 16 ?_; refine callS (h2) ?_) | (refine gC 17 ?_; refine callS (intsS_pc _) ?_) | (refine gC 17 ?_; refine callS (intsN_pc) ?_) | (refine stk_op (fun K hK => ?_); (first | (refine aop_pv (pv_fieldAddrF (by rfl) (by rfl) (by first | decide | (simp; done) | (simp; omega))) ?_) | (refine aop_pv (pv_fieldAddrIF (by rfl) (by rfl) (by first | decide | (simp; done) | (simp; omega))) ?_) | (refine aop_pv (pv_eql (by rfl) (by rfl)) ?_) | (refine aop_pv (pv_eqlB (by rfl) (by rfl)) ?_) | (refine aop_pv (pv_eqlA (by rfl) (by rfl) (by kernel_rfl)) ?_))) | (refine adx_op (fun K hK => ?_); (first | (refine aopx_pv (pv_neq (by rfl) (by rfl)) ?_) | (refine aopx_pv (pv_neqB (by rfl) (by rfl)) ?_) | (refine aopx_pv (pv_neqA (by rfl) (by rfl) (by kernel_rfl)) ?_) | (refine aopx_pv (pv_fieldAddrF (by rfl) (by rfl) (by first | decide | (simp; done) | (simp; omega))) ?_) | (refine aopx_pv (pv_fieldAddrIF (by rfl) (by rfl) (by first | decide | (simp; done) | (simp; omega))) ?_) | (refine aopx_pv (pv_eql (by rfl) (by rfl)) ?_) | (refine aopx_pv (pv_eqlB (by rfl) (by rfl)) ?_) | (refine aopx_pv (pv_eqlA (by rfl) (by rfl) (by kernel_rfl)) ?_))) | (refine And.intro ?_ ?_) | (refine gDx ?_; refine adxS ?_) | (refine gE ?_; (first | (refine exN ?_) | (refine exS (fun _ => ?_)))) | (refine gG ?_; refine guardS (fun hc => ?_) (fun hc => ?_) <;> (try (first | contradiction | (exfalso; omega)))) | (refine gGd ?_; refine guardD (fun hc => ?_) (fun hc => ?_) <;> (try (first | contradiction | (exfalso; omega)))) | (refine gQ ?_; (first | (refine condT ?_) | (refine condF ?_) | (refine condS (fun hc => ?_) (fun hc => ?_) <;> (try (first | contradiction | (exfalso; omega)))))) | (refine gWd ?_; refine wdrS ?_) | (refine gW ?_; refine wopsS ?_) | (refine aw_block ?_) | (refine gX ?_; refine exitS ?_) | (refine gT ?_; refine retS ?_) | (refine gS ?_; refine skipS ?_) | (apply_assumption (exfalso := false) (symm := false))))
            all_goals (refine fin_le (Le.refl _) (rv_one (rv1_tmp (by rfl))) (by first | rfl | (simp only [go_sem, Nat.reduceAdd, Nat.reduceMul, reduceIte, Nat.reduceEqDiff, Nat.reduceLeDiff, Int.reduceToNat, Int.reducePow, Int.reduceBEq, Int.reduceBNe, Int.reduceLT, Int.reduceLE, decide_true, decide_false])) ?_)
            all_goals rfl
        · obtain ⟨e1, e2⟩ := indAns_rng (a := a) (b := b) hf (fun h => hra h.1)
          have hi := indep_at e1 e2
          clear e1 e2
          
          (refine enterS Try.func3 Try.ntmps3 ?_)
          (repeat' (first | (refine hK _ ?_; clear hK K) | (refine aw_seq (fun K hK => ?_)) | (refine gR ?_; refine regS ?_) | (refine gD 5 ?_; refine drS (.it 0 1 (.it 1 0 (.it 2 0 (.it 3 0 (.it 4 0 (.it 5 0 (.it 6 0 (.it 7 0 (.it 8 0 (.it 9 0 (.it 10 0 (.it 11 0 (.it 12 0 (.it 13 0 (.it 14 0 (.it 15 0 (.it 16 0 (.it 17 0 (.it 18 0 (.it 19 0 (.it 20 0 (.it 21 0 (.it 22 0 (.it 23 2 (.it 24 0 (.it 25 0 (.it 26 0 .nil))))))))))))))))))))))))))) [1, 2, 3, 4, 5, 6, 7, 8, 9, 10, 11, 12, 13, 14, 15, 16, 17, 18, 19, 20, 21, 22, 23, 24, 25, 26] ?_) | (refine gC 8 ?_; refine callS (htf) ?_) | (refine gC 9 ?_; refine callS (in_pc _ _ _) ?_) | (refine gC 10 ?_; refine callS (at_pc _ _) ?_) | (refine gC 11 ?_; refine callS (hi) ?_) | (refine gCd 12 ?_; refine callD (apart_pc) ?_) | (refine gCd 13 ?_; refine callD (hcm) ?_) | (refine gC 14 ?_; refine callS (h1) ?_) | (refine gC 16 ?_; refine callS (h2) ?_) | (refine gC 17 ?_; refine callS (intsS_pc _) ?_) | (refine gC 17 ?_; refine callS (intsN_pc) ?_) | (refine stk_op (fun K hK => ?_); (first | (refine aop_pv (pv_fieldAddrF (by rfl) (by rfl) (by first | decide | (simp; done) | (simp; omega))) ?_) | (refine aop_pv (pv_fieldAddrIF (by rfl) (by rfl) (by first | decide | (simp; done) | (simp; omega))) ?_) | (refine aop_pv (pv_eql (by rfl) (by rfl)) ?_) | (refine aop_pv (pv_eqlB (by rfl) (by rfl)) ?_) | (refine aop_pv (pv_eqlA (by rfl) (by rfl) (by kernel_rfl)) ?_))) | (refine adx_op (fun K hK => ?_); (first | (refine aopx_pv (pv_neq (by rfl) (by rfl)) ?_) | (refine aopx_pv (pv_neqB (by rfl) (by rfl)) ?_) | (refine aopx_pv (pv_neqA (by rfl) (by rfl) (by kernel_rfl)) ?_) | (refine aopx_pv (pv_fieldAddrF (by rfl) (by rfl) (by first | decide | (simp; done) | (simp; omega))) ?_) | (refine aopx_pv (pv_fieldAddrIF (by rfl) (by rfl) (by first | decide | (simp; done) | (simp; omega))) ?_) | (refine aopx_pv (pv_eql (by rfl) (by rfl)) ?_) | (refine aopx_pv (pv_eqlB (by rfl) (by rfl)) ?_) | (refine aopx_pv (pv_eqlA (by rfl) (by rfl) (by kernel_rfl)) ?_))) | (refine And.intro ?_ ?_) | (refine gDx ?_; refine adxS ?_) | (refine gE ?_; (first | (refine exN ?_) | (refine exS (fun _ => ?_)))) | (refine gG ?_; refine guardS (fun hc => ?_) (fun hc => ?_) <;> (try (first | contradiction | (exfalso; omega)))) | (refine gGd ?_; refine guardD (fun hc => ?_) (fun hc => ?_) <;> (try (first | contradiction | (exfalso; omega)))) | (refine gQ ?_; (first | (refine condT ?_) | (refine condF ?_) | (refine condS (fun hc => ?_) (fun hc => ?_) <;> (try (first | contradiction | (exfalso; omega)))))) | (refine gWd ?_; refine wdrS ?_) | (refine gW ?_; refine wopsS ?_) | (refine aw_block ?_) | (refine gX ?_; refine exitS ?_) | (refine gT ?_; refine retS ?_) | (refine gS ?_; refine skipS ?_) | (apply_assumption (exfalso := false) (symm := false))))
          all_goals (refine fin_le (Le.refl _) (rv_one (rv1_tmp (by rfl))) (by first | rfl | (simp only [go_sem, Nat.reduceAdd, Nat.reduceMul, reduceIte, Nat.reduceEqDiff, Nat.reduceLeDiff, Int.reduceToNat, Int.reducePow, Int.reduceBEq, Int.reduceBNe, Int.reduceLT, Int.reduceLE, decide_true, decide_false])) ?_)
          all_goals rfl
      · exact absurd hw0 hf
    · have hc := tf_code hw0
      obtain ⟨e1, e2⟩ := indAns_bad (a := a) (b := b) hw0
      have hi := indep_at e1 e2
      have htf := tf_s (t := t) rfl
      have hqe : q = taskFault t := by rw [← hq]; unfold stFault; rw [if_pos hw0]
      subst hqe
      generalize taskFault t = q at *
      clear e1 e2
      
      
      
      (refine enterS Try.func3 Try.ntmps3 ?_)
      (repeat' (first | (refine hK _ ?_; clear hK K) | (refine aw_seq (fun K hK => ?_)) | (refine gR ?_; refine regS ?_) | (refine gD 5 ?_; refine drS (.it 0 1 (.it 1 0 (.it 2 0 (.it 3 0 (.it 4 0 (.it 5 0 (.it 6 0 (.it 7 0 (.it 8 0 (.it 9 0 (.it 10 0 (.it 11 0 (.it 12 0 (.it 13 0 (.it 14 0 (.it 15 0 (.it 16 0 (.it 17 0 (.it 18 0 (.it 19 0 (.it 20 0 (.it 21 0 (.it 22 0 (.it 23 2 (.it 24 0 (.it 25 0 (.it 26 0 .nil))))))))))))))))))))))))))) [1, 2, 3, 4, 5, 6, 7, 8, 9, 10, 11, 12, 13, 14, 15, 16, 17, 18, 19, 20, 21, 22, 23, 24, 25, 26] ?_) | (refine gC 8 ?_; refine callS (htf) ?_) | (refine gC 9 ?_; refine callS (in_pc _ _ _) ?_) | (refine gC 10 ?_; refine callS (at_pc _ _) ?_) | (refine gC 11 ?_; refine callS (hi) ?_) | (refine gCd 12 ?_; refine callD (apart_pc) ?_) | (refine gC 14 ?_; refine callS (h1) ?_) | (refine gC 16 ?_; refine callS (h2) ?_) | (refine gC 17 ?_; refine callS (intsS_pc _) ?_) | (refine gC 17 ?_; refine callS (intsN_pc) ?_) | (refine stk_op (fun K hK => ?_); (first | (refine aop_pv (pv_fieldAddrF (by rfl) (by rfl) (by first | decide | (simp; done) | (simp; omega))) ?_) | (refine aop_pv (pv_fieldAddrIF (by rfl) (by rfl) (by first | decide | (simp; done) | (simp; omega))) ?_) | (refine aop_pv (pv_eql (by rfl) (by rfl)) ?_) | (refine aop_pv (pv_eqlB (by rfl) (by rfl)) ?_) | (refine aop_pv (pv_eqlA (by rfl) (by rfl) (by kernel_rfl)) ?_))) | (refine adx_op (fun K hK => ?_); (first | (refine aopx_pv (pv_neq (by rfl) (by rfl)) ?_) | (refine aopx_pv (pv_neqB (by rfl) (by rfl)) ?_) | (refine aopx_pv (pv_neqA (by rfl) (by rfl) (by kernel_rfl)) ?_) | (refine aopx_pv (pv_fieldAddrF (by rfl) (by rfl) (by first | decide | (simp; done) | (simp; omega))) ?_) | (refine aopx_pv (pv_fieldAddrIF (by rfl) (by rfl) (by first | decide | (simp; done) | (simp; omega))) ?_) | (refine aopx_pv (pv_eql (by rfl) (by rfl)) ?_) | (refine aopx_pv (pv_eqlB (by rfl) (by rfl)) ?_) | (refine aopx_pv (pv_eqlA (by rfl) (by rfl) (by kernel_rfl)) ?_))) | (refine And.intro ?_ ?_) | (refine gDx ?_; refine adxS ?_) | (refine gE ?_; (first | (refine exN ?_) | (refine exS (fun _ => ?_)))) | (refine gG ?_; refine guardS (fun hc => ?_) (fun hc => ?_) <;> (try (first | contradiction | (exfalso; omega)))) | (refine gGd ?_; refine guardD (fun hc => ?_) (fun hc => ?_) <;> (try (first | contradiction | (exfalso; omega)))) | (refine gQ ?_; (first | (refine condT ?_) | (refine condF ?_) | (refine condS (fun hc => ?_) (fun hc => ?_) <;> (try (first | contradiction | (exfalso; omega)))))) | (refine gWd ?_; refine wdrS ?_) | (refine gW ?_; refine wopsS ?_) | (refine aw_block ?_) | (refine gX ?_; refine exitS ?_) | (refine gT ?_; refine retS ?_) | (refine gS ?_; refine skipS ?_) | (apply_assumption (exfalso := false) (symm := false))))
      all_goals (refine fin_le (Le.refl _) (rv_one (rv1_tmp (by rfl))) (by first | rfl | (simp only [go_sem, Nat.reduceAdd, Nat.reduceMul, reduceIte, Nat.reduceEqDiff, Nat.reduceLeDiff, Int.reduceToNat, Int.reducePow, Int.reduceBEq, Int.reduceBNe, Int.reduceLT, Int.reduceLE, decide_true, decide_false])) ?_)
      all_goals rfl
end Go.Proofs.Ythdlckclpmfidaa
