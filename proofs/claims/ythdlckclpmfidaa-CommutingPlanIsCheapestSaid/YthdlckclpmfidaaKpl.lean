import Derived.Test.YthdlckclpmfidaaSto



namespace Go.Proofs.Ythdlckclpmfidaa
open Go.Ab
open Go
set_option linter.unusedSimpArgs false
set_option linter.unusedVariables false
set_option maxRecDepth 10000
attribute [local irreducible] PV AOp AOps AW PCall OCall MCall WCall Ab.Fin OFin OFin2 MFin RV RV1 Le AStk AGrd ADr ADx ADo AOpX AAny wops wdr wgd wdt
set_option maxHeartbeats 4000000
/-! the states of a plan, with faults -/
def stFault (t : Task) (s : List Int) : Int × Int := if taskFault t ≠ (0, 0) then taskFault t else if isSet s t.facts = true then (0, 0) else (5, -4)
theorem stFault_pc (t : Task) (s : List Int) : PCall Try.prog 40 [t.av, ints s] (fun r => r = faultP (stFault t s)) := by
  
  by_cases hf : taskFault t = (0, 0)
  · have hs := isSet_pc s t.facts
    
    
    have e : stFault t s = if isSet s t.facts = true then (0, 0) else (5, -4) := by unfold stFault; rw [if_neg (by simp [hf])]
    rw [e]
    generalize isSet s t.facts = b at *
    cases b
    · (refine enterS Try.func40 Try.ntmps40 ?_)
      (repeat' (first | (refine hK _ ?_; clear hK K) | (refine aw_seq (fun K hK => ?_)) | (refine gR ?_; refine regS ?_) | (refine gC 32 ?_; refine callS (val_at hf) ?_) | (refine gC 52 ?_; refine callS (hs) ?_) | (refine stk_op (fun K hK => ?_); (first | (refine aop_pv (pv_neq (by rfl) (by rfl)) ?_) | (refine aop_pv (pv_neqB (by rfl) (by rfl)) ?_) | (refine aop_pv (pv_neqA (by rfl) (by rfl) (by kernel_rfl)) ?_) | (refine aop_pv (pv_fieldAddrF (by rfl) (by rfl) (by first | decide | (simp; done) | (simp; omega))) ?_) | (refine aop_pv (pv_fieldAddrIF (by rfl) (by rfl) (by first | decide | (simp; done) | (simp; omega))) ?_))) | (refine gE ?_; (first | (refine exN ?_) | (refine exS (fun _ => ?_)))) | (refine gQ ?_; (first | (refine condT ?_) | (refine condF ?_) | (refine condS (fun hc => ?_) (fun hc => ?_) <;> (try (first | contradiction | (exfalso; omega)))))) | (refine gW ?_; refine wopsS ?_) | (refine aw_block ?_) | (refine gX ?_; refine exitS ?_) | (refine gT ?_; refine retS ?_) | (refine gS ?_; refine skipS ?_) | (apply_assumption (exfalso := false) (symm := false))))
      all_goals (refine fin_le (Le.refl _) (rv_one (rv1_cell (by first | exact pv_load (by rfl) (by rfl) (by rfl) (by rfl) | exact pv_loadA (by rfl) (by rfl) (by rfl) (by first | decide | simp)))) (by first | rfl | (simp only [go_sem, Nat.reduceAdd, Nat.reduceMul, reduceIte, Nat.reduceEqDiff, Nat.reduceLeDiff, Int.reduceToNat, Int.reducePow, Int.reduceBEq, Int.reduceBNe, Int.reduceLT, Int.reduceLE, decide_true, decide_false])) ?_)
      all_goals rfl
    · (refine enterS Try.func40 Try.ntmps40 ?_)
      (repeat' (first | (refine hK _ ?_; clear hK K) | (refine aw_seq (fun K hK => ?_)) | (refine gR ?_; refine regS ?_) | (refine gC 32 ?_; refine callS (val_at hf) ?_) | (refine gC 52 ?_; refine callS (hs) ?_) | (refine stk_op (fun K hK => ?_); (first | (refine aop_pv (pv_neq (by rfl) (by rfl)) ?_) | (refine aop_pv (pv_neqB (by rfl) (by rfl)) ?_) | (refine aop_pv (pv_neqA (by rfl) (by rfl) (by kernel_rfl)) ?_) | (refine aop_pv (pv_fieldAddrF (by rfl) (by rfl) (by first | decide | (simp; done) | (simp; omega))) ?_) | (refine aop_pv (pv_fieldAddrIF (by rfl) (by rfl) (by first | decide | (simp; done) | (simp; omega))) ?_))) | (refine gE ?_; (first | (refine exN ?_) | (refine exS (fun _ => ?_)))) | (refine gQ ?_; (first | (refine condT ?_) | (refine condF ?_) | (refine condS (fun hc => ?_) (fun hc => ?_) <;> (try (first | contradiction | (exfalso; omega)))))) | (refine gW ?_; refine wopsS ?_) | (refine aw_block ?_) | (refine gX ?_; refine exitS ?_) | (refine gT ?_; refine retS ?_) | (refine gS ?_; refine skipS ?_) | (apply_assumption (exfalso := false) (symm := false))))
      all_goals (refine fin_le (Le.refl _) (rv_one (rv1_cell (by first | exact pv_load (by rfl) (by rfl) (by rfl) (by rfl) | exact pv_loadA (by rfl) (by rfl) (by rfl) (by first | decide | simp)))) (by first | rfl | (simp only [go_sem, Nat.reduceAdd, Nat.reduceMul, reduceIte, Nat.reduceEqDiff, Nat.reduceLeDiff, Int.reduceToNat, Int.reducePow, Int.reduceBEq, Int.reduceBNe, Int.reduceLT, Int.reduceLE, decide_true, decide_false])) ?_)
      all_goals rfl
  · have hac := tf_code hf
    have e : stFault t s = taskFault t := by unfold stFault; rw [if_pos hf]
    rw [e]
    
    
    (refine enterS Try.func40 Try.ntmps40 ?_)
    (repeat' (first | (refine hK _ ?_; clear hK K) | (refine aw_seq (fun K hK => ?_)) | (refine gR ?_; refine regS ?_) | (refine gC 32 ?_; refine callS (validate_pc _) ?_) | (refine stk_op (fun K hK => ?_); (first | (refine aop_pv (pv_neq (by rfl) (by rfl)) ?_) | (refine aop_pv (pv_neqB (by rfl) (by rfl)) ?_) | (refine aop_pv (pv_neqA (by rfl) (by rfl) (by kernel_rfl)) ?_) | (refine aop_pv (pv_fieldAddrF (by rfl) (by rfl) (by first | decide | (simp; done) | (simp; omega))) ?_) | (refine aop_pv (pv_fieldAddrIF (by rfl) (by rfl) (by first | decide | (simp; done) | (simp; omega))) ?_))) | (refine gE ?_; (first | (refine exN ?_) | (refine exS (fun _ => ?_)))) | (refine gQ ?_; (first | (refine condT ?_) | (refine condF ?_) | (refine condS (fun hc => ?_) (fun hc => ?_) <;> (try (first | contradiction | (exfalso; omega)))))) | (refine gW ?_; refine wopsS ?_) | (refine aw_block ?_) | (refine gX ?_; refine exitS ?_) | (refine gT ?_; refine retS ?_) | (refine gS ?_; refine skipS ?_) | (apply_assumption (exfalso := false) (symm := false))))
    all_goals (refine fin_le (Le.refl _) (rv_one (rv1_cell (by first | exact pv_load (by rfl) (by rfl) (by rfl) (by rfl) | exact pv_loadA (by rfl) (by rfl) (by rfl) (by first | decide | simp)))) (by first | rfl | (simp only [go_sem, Nat.reduceAdd, Nat.reduceMul, reduceIte, Nat.reduceEqDiff, Nat.reduceLeDiff, Int.reduceToNat, Int.reducePow, Int.reduceBEq, Int.reduceBNe, Int.reduceLT, Int.reduceLE, decide_true, decide_false])) ?_)
    all_goals rfl
theorem stFault_code {t : Task} {s : List Int} (h : stFault t s ≠ (0, 0)) : (stFault t s).1 ≠ 0 := by
  unfold stFault at h ⊢
  split
  · rename_i h1; exact tf_code h1
  · rename_i h1
    rw [if_neg h1] at h
    split
    · rename_i h2; rw [if_pos h2] at h; simp at h
    · simp
theorem stFault_ok {t : Task} {s : List Int} : stFault t s = (0, 0) ↔ WfT t ∧ isSet s t.facts = true := by
  unfold stFault
  constructor
  · intro h
    split at h
    · rename_i h1; exact absurd h h1
    · rename_i h1
      split at h
      · rename_i h2; exact ⟨taskFault_ok.1 (Decidable.not_not.1 h1), h2⟩
      · simp at h
  · rintro ⟨h1, h2⟩
    rw [if_neg (by simp [taskFault_ok.2 h1]), if_pos h2]
def playF (t : Task) (s plan : List Int) : Int × Int :=
  if stFault t s ≠ (0, 0) then stFault t s else if stepsFault t.ops.length plan ≠ (0, 0) then stepsFault t.ops.length plan else if (runL t s plan).length ≤ plan.length then (11, (runL t s plan).length - 1) else (0, 0)
theorem playF_code {t : Task} {s plan : List Int} (h : playF t s plan ≠ (0, 0)) : (playF t s plan).1 ≠ 0 := by
  unfold playF at h ⊢
  split
  · rename_i h1; exact stFault_code h1
  · rename_i h1
    rw [if_neg h1] at h
    split
    · rename_i h2; exact sf_code h2
    · rename_i h2
      rw [if_neg h2] at h
      split
      · simp
      · rename_i h3; rw [if_neg h3] at h; simp at h
structure PlayOk (t : Task) (s plan : List Int) : Prop where
  wf : WfT t
  set : isSet s t.facts = true
  len : plan.length ≤ 60
  ins : InOps t plan
  all : (runL t s plan).length = plan.length + 1
theorem runL_len {t : Task} : ∀ (plan s : List Int), (runL t s plan).length ≤ plan.length + 1
  | [], s => by simp [runL]
  | x :: r, s => by
    cases hs : subB (t.ops[x.toNat]!).pre s with
    | true =>
      have := runL_len (t := t) r (aft t.facts s t.ops[x.toNat]!)
      rw [runL_go hs, List.length_cons, List.length_cons]; omega
    | false => rw [runL_stop hs]; simp
theorem playF_ok {t : Task} {s plan : List Int} (h : playF t s plan = (0, 0)) : PlayOk t s plan := by
  unfold playF at h
  split at h
  · rename_i h1; exact absurd h h1
  · rename_i h1
    obtain ⟨hw, hs⟩ := stFault_ok.1 (Decidable.not_not.1 h1)
    split at h
    · rename_i h2; exact absurd h h2
    · rename_i h2
      obtain ⟨h60, hin⟩ := sf_in (Decidable.not_not.1 h2)
      split at h
      · simp at h
      · have := runL_len (t := t) plan s
        exact ⟨hw, hs, h60, hin, by omega⟩
theorem stepsF_at {n : Int} {plan : List Int} {p : Int × Int} (e : stepsFault n plan = p) : PCall Try.prog 50 [.int n, ints plan] (fun r => r = faultP p) := by
  have := stepsF_pc n plan
  rw [e] at this
  exact this
theorem stFault_at {t : Task} {s : List Int} {p : Int × Int} (e : stFault t s = p) : PCall Try.prog 40 [t.av, ints s] (fun r => r = faultP p) := by
  have := stFault_pc t s
  rw [e] at this
  exact this

theorem play_ok (t : Task) (s plan : List Int) (h : playF t s plan = (0, 0)) : PCall Try.prog 30 [t.av, ints s, ints plan] (fun r => r = .tup [rowsI (runL t s plan), fault 0 0]) := by
  obtain ⟨hw, hs, h60, hin, hall⟩ := playF_ok h
  have hsf := stFault_at (stFault_ok.2 ⟨hw, hs⟩)
  have hst := stepsF_at (sf_of h60 hin)
  have hrun := run_pc t s plan hw hs hin (by omega)
  generalize runL t s plan = l at *
  
  
  
  (refine enterS Try.func30 Try.ntmps30 ?_)
  (repeat' (first | (refine hK _ ?_; clear hK K) | (refine aw_seq (fun K hK => ?_)) | (refine gR ?_; refine regS ?_) | (refine gD 5 ?_; refine drS (.it 0 0 (.it 1 0 (.it 2 3 .nil))) [0, 1] ?_) | (refine gC 40 ?_; refine callS (hsf) ?_) | (refine gC 50 ?_; refine callS (hst) ?_) | (refine gC 51 ?_; refine callS (hrun) ?_) | (refine stk_op (fun K hK => ?_); (first | (refine aop_pv (pv_eql (by rfl) (by rfl)) ?_) | (refine aop_pv (pv_eqlB (by rfl) (by rfl)) ?_) | (refine aop_pv (pv_eqlA (by rfl) (by rfl) (by kernel_rfl)) ?_) | (refine aop_pv (pv_fieldAddrF (by rfl) (by rfl) (by first | decide | (simp; done) | (simp; omega))) ?_) | (refine aop_pv (pv_fieldAddrIF (by rfl) (by rfl) (by first | decide | (simp; done) | (simp; omega))) ?_) | (refine aop_pv (pv_neq (by rfl) (by rfl)) ?_) | (refine aop_pv (pv_neqB (by rfl) (by rfl)) ?_) | (refine aop_pv (pv_neqA (by rfl) (by rfl) (by kernel_rfl)) ?_))) | (refine And.intro ?_ ?_) | (refine gDx ?_; refine adxS ?_) | (refine gO ?_; refine adoS ?_) | (refine gE ?_; (first | (refine exN ?_) | (refine exS (fun _ => ?_)))) | (refine gQ ?_; (first | (refine condT ?_) | (refine condF ?_) | (refine condS (fun hc => ?_) (fun hc => ?_) <;> (try (first | contradiction | (exfalso; omega)))))) | (refine gWd ?_; refine wdrS ?_) | (refine gW ?_; refine wopsS ?_) | (refine aw_block ?_) | (refine gX ?_; refine exitS ?_) | (refine gT ?_; refine retS ?_) | (refine gS ?_; refine skipS ?_) | (apply_assumption (exfalso := false) (symm := false))))
  all_goals (refine fin_le (Le.refl _) (rv_two (rv1_tmp (by rfl)) (rv1_cell (by first | exact pv_load (by rfl) (by rfl) (by rfl) (by rfl) | exact pv_loadA (by rfl) (by rfl) (by rfl) (by first | decide | simp)))) (by first | rfl | (simp only [go_sem, Nat.reduceAdd, Nat.reduceMul, reduceIte, Nat.reduceEqDiff, Nat.reduceLeDiff, Int.reduceToNat, Int.reducePow, Int.reduceBEq, Int.reduceBNe, Int.reduceLT, Int.reduceLE, decide_true, decide_false])) ?_)
  all_goals rfl
theorem play_no (t : Task) (s plan : List Int) (h : playF t s plan ≠ (0, 0)) : PCall Try.prog 30 [t.av, ints s, ints plan] (fun r => r = .tup [.nilS, faultP (playF t s plan)]) := by
  by_cases h1 : stFault t s = (0, 0)
  · obtain ⟨hw, hs⟩ := stFault_ok.1 h1
    have hsf := stFault_at h1
    by_cases h2 : stepsFault t.ops.length plan = (0, 0)
    · obtain ⟨h60, hin⟩ := sf_in h2
      have hst := stepsF_at h2
      have hrun := run_pc t s plan hw hs hin (by omega)
      have e : playF t s plan = if (runL t s plan).length ≤ plan.length then ((11 : Int), ((runL t s plan).length : Int) - 1) else (0, 0) := by unfold playF; rw [if_neg (by simp [h1]), if_neg (by simp [h2])]
      have hl : (runL t s plan).length ≤ plan.length := by
        rw [e] at h
        split at h
        · assumption
        · exact absurd rfl h
      rw [e, if_pos hl]
      generalize runL t s plan = l at *
      
      
      
      
      (refine enterS Try.func30 Try.ntmps30 ?_)
      (repeat' (first | (refine hK _ ?_; clear hK K) | (refine aw_seq (fun K hK => ?_)) | (refine gR ?_; refine regS ?_) | (refine gD 5 ?_; refine drS (.it 0 0 (.it 1 0 (.it 2 3 .nil))) [0, 1] ?_) | (refine gC 40 ?_; refine callS (hsf) ?_) | (refine gC 50 ?_; refine callS (hst) ?_) | (refine gC 51 ?_; refine callS (hrun) ?_) | (refine stk_op (fun K hK => ?_); (first | (refine aop_pv (pv_eql (by rfl) (by rfl)) ?_) | (refine aop_pv (pv_eqlB (by rfl) (by rfl)) ?_) | (refine aop_pv (pv_eqlA (by rfl) (by rfl) (by kernel_rfl)) ?_) | (refine aop_pv (pv_fieldAddrF (by rfl) (by rfl) (by first | decide | (simp; done) | (simp; omega))) ?_) | (refine aop_pv (pv_fieldAddrIF (by rfl) (by rfl) (by first | decide | (simp; done) | (simp; omega))) ?_) | (refine aop_pv (pv_neq (by rfl) (by rfl)) ?_) | (refine aop_pv (pv_neqB (by rfl) (by rfl)) ?_) | (refine aop_pv (pv_neqA (by rfl) (by rfl) (by kernel_rfl)) ?_))) | (refine And.intro ?_ ?_) | (refine gDx ?_; refine adxS ?_) | (refine gO ?_; refine adoS ?_) | (refine gE ?_; (first | (refine exN ?_) | (refine exS (fun _ => ?_)))) | (refine gQ ?_; (first | (refine condT ?_) | (refine condF ?_) | (refine condS (fun hc => ?_) (fun hc => ?_) <;> (try (first | contradiction | (exfalso; omega)))))) | (refine gWd ?_; refine wdrS ?_) | (refine gW ?_; refine wopsS ?_) | (refine aw_block ?_) | (refine gX ?_; refine exitS ?_) | (refine gT ?_; refine retS ?_) | (refine gS ?_; refine skipS ?_) | (apply_assumption (exfalso := false) (symm := false))))
      all_goals (refine fin_le (Le.refl _) (rv_two (rv1_tmp (by rfl)) (rv1_cell (by first | exact pv_load (by rfl) (by rfl) (by rfl) (by rfl) | exact pv_loadA (by rfl) (by rfl) (by rfl) (by first | decide | simp)))) (by first | rfl | (simp only [go_sem, Nat.reduceAdd, Nat.reduceMul, reduceIte, Nat.reduceEqDiff, Nat.reduceLeDiff, Int.reduceToNat, Int.reducePow, Int.reduceBEq, Int.reduceBNe, Int.reduceLT, Int.reduceLE, decide_true, decide_false])) ?_)
      all_goals rfl
    · have hst := stepsF_pc t.ops.length plan
      have hac := sf_code h2
      have e : playF t s plan = stepsFault t.ops.length plan := by unfold playF; rw [if_neg (by simp [h1]), if_pos h2]
      rw [e]
      generalize stepsFault t.ops.length plan = p at *
      
      
      
      (refine enterS Try.func30 Try.ntmps30 ?_)
      (repeat' (first | (refine hK _ ?_; clear hK K) | (refine aw_seq (fun K hK => ?_)) | (refine gR ?_; refine regS ?_) | (refine gD 5 ?_; refine drS (.it 0 0 (.it 1 0 (.it 2 3 .nil))) [0, 1] ?_) | (refine gC 40 ?_; refine callS (hsf) ?_) | (refine gC 50 ?_; refine callS (hst) ?_) | (refine stk_op (fun K hK => ?_); (first | (refine aop_pv (pv_eql (by rfl) (by rfl)) ?_) | (refine aop_pv (pv_eqlB (by rfl) (by rfl)) ?_) | (refine aop_pv (pv_eqlA (by rfl) (by rfl) (by kernel_rfl)) ?_) | (refine aop_pv (pv_fieldAddrF (by rfl) (by rfl) (by first | decide | (simp; done) | (simp; omega))) ?_) | (refine aop_pv (pv_fieldAddrIF (by rfl) (by rfl) (by first | decide | (simp; done) | (simp; omega))) ?_) | (refine aop_pv (pv_neq (by rfl) (by rfl)) ?_) | (refine aop_pv (pv_neqB (by rfl) (by rfl)) ?_) | (refine aop_pv (pv_neqA (by rfl) (by rfl) (by kernel_rfl)) ?_))) | (refine And.intro ?_ ?_) | (refine gDx ?_; refine adxS ?_) | (refine gO ?_; refine adoS ?_) | (refine gE ?_; (first | (refine exN ?_) | (refine exS (fun _ => ?_)))) | (refine gQ ?_; (first | (refine condT ?_) | (refine condF ?_) | (refine condS (fun hc => ?_) (fun hc => ?_) <;> (try (first | contradiction | (exfalso; omega)))))) | (refine gWd ?_; refine wdrS ?_) | (refine gW ?_; refine wopsS ?_) | (refine aw_block ?_) | (refine gX ?_; refine exitS ?_) | (refine gT ?_; refine retS ?_) | (refine gS ?_; refine skipS ?_) | (apply_assumption (exfalso := false) (symm := false))))
      all_goals (refine fin_le (Le.refl _) (rv_two (rv1_tmp (by rfl)) (rv1_cell (by first | exact pv_load (by rfl) (by rfl) (by rfl) (by rfl) | exact pv_loadA (by rfl) (by rfl) (by rfl) (by first | decide | simp)))) (by first | rfl | (simp only [go_sem, Nat.reduceAdd, Nat.reduceMul, reduceIte, Nat.reduceEqDiff, Nat.reduceLeDiff, Int.reduceToNat, Int.reducePow, Int.reduceBEq, Int.reduceBNe, Int.reduceLT, Int.reduceLE, decide_true, decide_false])) ?_)
      all_goals rfl
  · have hsf := stFault_pc t s
    have hac := stFault_code h1
    have e : playF t s plan = stFault t s := by unfold playF; rw [if_pos h1]
    rw [e]
    generalize stFault t s = p at *
    
    
    (refine enterS Try.func30 Try.ntmps30 ?_)
    (repeat' (first | (refine hK _ ?_; clear hK K) | (refine aw_seq (fun K hK => ?_)) | (refine gR ?_; refine regS ?_) | (refine gD 5 ?_; refine drS (.it 0 0 (.it 1 0 (.it 2 3 .nil))) [0, 1] ?_) | (refine gC 40 ?_; refine callS (hsf) ?_) | (refine stk_op (fun K hK => ?_); (first | (refine aop_pv (pv_eql (by rfl) (by rfl)) ?_) | (refine aop_pv (pv_eqlB (by rfl) (by rfl)) ?_) | (refine aop_pv (pv_eqlA (by rfl) (by rfl) (by kernel_rfl)) ?_) | (refine aop_pv (pv_fieldAddrF (by rfl) (by rfl) (by first | decide | (simp; done) | (simp; omega))) ?_) | (refine aop_pv (pv_fieldAddrIF (by rfl) (by rfl) (by first | decide | (simp; done) | (simp; omega))) ?_) | (refine aop_pv (pv_neq (by rfl) (by rfl)) ?_) | (refine aop_pv (pv_neqB (by rfl) (by rfl)) ?_) | (refine aop_pv (pv_neqA (by rfl) (by rfl) (by kernel_rfl)) ?_))) | (refine And.intro ?_ ?_) | (refine gDx ?_; refine adxS ?_) | (refine gO ?_; refine adoS ?_) | (refine gE ?_; (first | (refine exN ?_) | (refine exS (fun _ => ?_)))) | (refine gQ ?_; (first | (refine condT ?_) | (refine condF ?_) | (refine condS (fun hc => ?_) (fun hc => ?_) <;> (try (first | contradiction | (exfalso; omega)))))) | (refine gWd ?_; refine wdrS ?_) | (refine gW ?_; refine wopsS ?_) | (refine aw_block ?_) | (refine gX ?_; refine exitS ?_) | (refine gT ?_; refine retS ?_) | (refine gS ?_; refine skipS ?_) | (apply_assumption (exfalso := false) (symm := false))))
    all_goals (refine fin_le (Le.refl _) (rv_two (rv1_tmp (by rfl)) (rv1_cell (by first | exact pv_load (by rfl) (by rfl) (by rfl) (by rfl) | exact pv_loadA (by rfl) (by rfl) (by rfl) (by first | decide | simp)))) (by first | rfl | (simp only [go_sem, Nat.reduceAdd, Nat.reduceMul, reduceIte, Nat.reduceEqDiff, Nat.reduceLeDiff, Int.reduceToNat, Int.reducePow, Int.reduceBEq, Int.reduceBNe, Int.reduceLT, Int.reduceLE, decide_true, decide_false])) ?_)
    all_goals rfl

/-! groups, with faults -/
end Go.Proofs.Ythdlckclpmfidaa
