import Derived.Test.YtokmhfjledbglaaFnc



namespace Go.Proofs.Ytokmhfjledbglaa
open Go.Ab
open Go
set_option linter.unusedSimpArgs false
set_option linter.unusedVariables false
set_option maxRecDepth 10000
attribute [local irreducible] PV AOp AOps AW PCall OCall MCall WCall Ab.Fin OFin OFin2 MFin RV RV1 Le AStk AGrd ADr ADx ADo AOpX AAny
set_option maxHeartbeats 4000000
/-! the closed example of package invariant -/
theorem lists_pc (a b : List (List Int)) : PCall Try.prog 14 [rows a, rows b] (fun r => r = .bool (decide (a = b))) := by
  (refine enterS Try.func14 Try.ntmps14 ?_)
  (refine aw_bound (i := 0) rfl (fun hb0 => ?_); (try simp only [List.length_map] at hb0))
  (refine aw_bound (i := 1) rfl (fun hb1 => ?_); (try simp only [List.length_map] at hb1))
  (repeat' (first | (refine hK _ ?_; clear hK K) | (refine aw_seq (fun K hK => ?_)) | (refine gR ?_; refine regS ?_) | (refine gD 6 ?_; refine drS (.it 0 0 (.it 1 0 (.it 2 0 (.it 3 0 (.it 4 0 (.it 5 0 (.it 6 0 (.it 7 0 (.it 8 1 (.it 9 0 .nil)))))))))) [0, 1, 2, 3, 4, 5, 6, 7, 9] ?_) | (refine gCd 34 ?_; refine callD (ints_pc _ _) ?_) | (refine stk_op (fun K hK => ?_); (first | (refine aop_pv (pv_neq (by rfl) (by rfl)) ?_) | (refine aop_pv (pv_neqB (by rfl) (by rfl)) ?_) | (refine aop_pv (pv_neqA (by rfl) (by rfl) (by kernel_rfl)) ?_))) | (refine And.intro ?_ ?_) | (refine gDx ?_; refine adxS ?_) | (refine gE ?_; (first | (refine exN ?_) | (refine exS (fun _ => ?_)))) | (refine gQ ?_; (first | (refine condT ?_) | (refine condF ?_) | (refine condS (fun hc => ?_) (fun hc => ?_) <;> (try (first | contradiction | (exfalso; omega)))))) | (refine gWd ?_; refine wdrS ?_) | (refine gW ?_; refine wopsS ?_) | (refine aw_block ?_) | (refine gX ?_; refine exitS ?_) | (refine gT ?_; refine retS ?_) | (refine gS ?_; refine skipS ?_) | (apply_assumption (exfalso := false) (symm := false))))
  · (refine fin_le (Le.refl _) (rv_one (rv1_tmp (by rfl))) (by first | rfl | (simp only [go_sem, Nat.reduceAdd, Nat.reduceMul, reduceIte, Nat.reduceEqDiff, Nat.reduceLeDiff, Int.reduceToNat, Int.reducePow, Int.reduceBEq, Int.reduceBNe, Int.reduceLT, Int.reduceLE, decide_true, decide_false])) ?_)
    rw [decide_eq_false (by rintro rfl; omega)]
  refine aw_loop_at [4, 5, 11, 12, 13, 14, 15, 16, 17, 18, 19, 20, 21, 22, 23, 24, 25, 26] (fun k : Nat => k ≤ a.length ∧ a.take k = b.take k) (fun k => a.length - k) (fun k => [(5, .int k)]) (fun _ => []) 0 ⟨by omega, by simp⟩ ?_ ?_
  · (refine atS ?_)
    (exact weakS)
  · rintro k ⟨hk, hn⟩ K hK
    (refine atS ?_)
    by_cases hlt : k < a.length
    · have hlb : k < b.length := by omega
      (repeat' (first | (refine hK _ ?_; clear hK K) | (refine aw_seq (fun K hK => ?_)) | (refine gR ?_; refine regS ?_) | (refine gD 6 ?_; refine drS (.it 0 0 (.it 1 0 (.it 2 0 (.it 3 0 (.it 4 0 (.it 5 0 (.it 6 0 (.it 7 0 (.it 8 1 (.it 9 0 .nil)))))))))) [0, 1, 2, 3, 4, 5, 6, 7, 9] ?_) | (refine gCd 34 ?_; refine callD (ints_pc _ _) ?_) | (refine stk_op (fun K hK => ?_); (first | (refine aop_pv (pv_neq (by rfl) (by rfl)) ?_) | (refine aop_pv (pv_neqB (by rfl) (by rfl)) ?_) | (refine aop_pv (pv_neqA (by rfl) (by rfl) (by kernel_rfl)) ?_))) | (refine And.intro ?_ ?_) | (refine gDx ?_; refine adxS ?_) | (refine gE ?_; (first | (refine exN ?_) | (refine exS (fun _ => ?_)))) | (refine gQ ?_; (first | (refine condT ?_) | (refine condF ?_) | (refine condS (fun hc => ?_) (fun hc => ?_) <;> (try (first | contradiction | (exfalso; omega)))))) | (refine gWd ?_; refine wdrS ?_) | (refine gW ?_; refine wopsS ?_) | (refine aw_block ?_) | (refine gX ?_; refine exitS ?_) | (refine gT ?_; refine retS ?_) | (refine gS ?_; refine skipS ?_) | (apply_assumption (exfalso := false) (symm := false))))
      · (refine fin_le (Le.refl _) (rv_one (rv1_tmp (by rfl))) (by first | rfl | (simp only [go_sem, Nat.reduceAdd, Nat.reduceMul, reduceIte, Nat.reduceEqDiff, Nat.reduceLeDiff, Int.reduceToNat, Int.reducePow, Int.reduceBEq, Int.reduceBNe, Int.reduceLT, Int.reduceLE, decide_true, decide_false])) ?_)
        rw [decide_eq_false]
        rintro rfl
        simp_all
      · have hc2 : a[k] = b[k] := by simp_all
        (refine ⟨k + 1, ⟨by omega, by rw [List.take_succ_eq_append_getElem hlt, List.take_succ_eq_append_getElem hlb, hn, hc2]⟩, by omega, ?_⟩; (refine atS ?_); (exact weakS))
    · (repeat' (first | (refine hK _ ?_; clear hK K) | (refine aw_seq (fun K hK => ?_)) | (refine gR ?_; refine regS ?_) | (refine gD 6 ?_; refine drS (.it 0 0 (.it 1 0 (.it 2 0 (.it 3 0 (.it 4 0 (.it 5 0 (.it 6 0 (.it 7 0 (.it 8 1 (.it 9 0 .nil)))))))))) [0, 1, 2, 3, 4, 5, 6, 7, 9] ?_) | (refine gCd 34 ?_; refine callD (ints_pc _ _) ?_) | (refine stk_op (fun K hK => ?_); (first | (refine aop_pv (pv_neq (by rfl) (by rfl)) ?_) | (refine aop_pv (pv_neqB (by rfl) (by rfl)) ?_) | (refine aop_pv (pv_neqA (by rfl) (by rfl) (by kernel_rfl)) ?_))) | (refine And.intro ?_ ?_) | (refine gDx ?_; refine adxS ?_) | (refine gE ?_; (first | (refine exN ?_) | (refine exS (fun _ => ?_)))) | (refine gQ ?_; (first | (refine condT ?_) | (refine condF ?_) | (refine condS (fun hc => ?_) (fun hc => ?_) <;> (try (first | contradiction | (exfalso; omega)))))) | (refine gWd ?_; refine wdrS ?_) | (refine gW ?_; refine wopsS ?_) | (refine aw_block ?_) | (refine gX ?_; refine exitS ?_) | (refine gT ?_; refine retS ?_) | (refine gS ?_; refine skipS ?_) | (apply_assumption (exfalso := false) (symm := false))))
      (refine fin_le (Le.refl _) (rv_one (rv1_tmp (by rfl))) (by first | rfl | (simp only [go_sem, Nat.reduceAdd, Nat.reduceMul, reduceIte, Nat.reduceEqDiff, Nat.reduceLeDiff, Int.reduceToNat, Int.reducePow, Int.reduceBEq, Int.reduceBNe, Int.reduceLT, Int.reduceLE, decide_true, decide_false])) ?_)
      rw [List.take_of_length_le (by omega), List.take_of_length_le (by omega)] at hn
      rw [hn]; simp


def stepsE : Task := ⟨3, [0], [2], [⟨[0], [1], [0], 2⟩, ⟨[1], [2], [1], 3⟩]⟩
def stepsE2 : Task := ⟨3, [0, 1], [2], [⟨[0], [1], [0], 2⟩, ⟨[1], [2], [1], 3⟩]⟩
theorem stepsE_pc : PCall Try.prog 27 [] (fun r => r = stepsE.av) := by
  (refine enterS Try.func27 Try.ntmps27 ?_)
  (repeat' (first | (refine hK _ ?_; clear hK K) | (refine aw_seq (fun K hK => ?_)) | (refine gR ?_; refine regS ?_) | (refine gE ?_; (first | (refine exN ?_) | (refine exS (fun _ => ?_)))) | (refine gQ ?_; (first | (refine condT ?_) | (refine condF ?_) | (refine condS (fun hc => ?_) (fun hc => ?_) <;> (try (first | contradiction | (exfalso; omega)))))) | (refine gW ?_; refine wopsS ?_) | (refine aw_block ?_) | (refine gX ?_; refine exitS ?_) | (refine gT ?_; refine retS ?_) | (refine gS ?_; refine skipS ?_) | (apply_assumption (exfalso := false) (symm := false))))
  (refine fin_le (Le.refl _) (rv_one (rv1_cell (by first | exact pv_load (by rfl) (by rfl) (by rfl) (by rfl) | exact pv_loadA (by rfl) (by rfl) (by rfl) (by first | decide | simp)))) (by first | rfl | (simp only [go_sem, Nat.reduceAdd, Nat.reduceMul, reduceIte, Nat.reduceEqDiff, Nat.reduceLeDiff, Int.reduceToNat, Int.reducePow, Int.reduceBEq, Int.reduceBNe, Int.reduceLT, Int.reduceLE, decide_true, decide_false])) ?_)
  rfl
theorem wfStepsE : WfT stepsE := taskFault_ok.1 (by decide +kernel)
theorem wfStepsE2 : WfT stepsE2 := taskFault_ok.1 (by decide +kernel)
theorem findE : PCall Try.prog 13 [stepsE.av] (fun r => r = .tup [rows [[0, 1, 2]], fault 0 0]) := (find_ok stepsE wfStepsE (by decide)).mono fun r ⟨ls, h1, h2, h3⟩ => by
  rw [h3, sorted_groups h1 h2]
  have : groupsL (groupB stepsE) stepsE.facts.toNat = [[0, 1, 2]] := by decide +kernel
  rw [this]
theorem indE1 : PCall Try.prog 10 [stepsE.av, ints [0, 1, 2]] (fun r => r = .tup [.bool true, fault 0 0]) := (ind_ok stepsE [0, 1, 2] wfStepsE (by decide +kernel)).mono fun r hr => by rw [hr, show groupB stepsE [0, 1, 2] = true by decide +kernel]
theorem indE2 : PCall Try.prog 10 [stepsE2.av, ints [0, 1]] (fun r => r = .tup [.bool false, fault 0 0]) := (ind_ok stepsE2 [0, 1] wfStepsE2 (by decide +kernel)).mono fun r hr => by rw [hr, show groupB stepsE2 [0, 1] = false by decide +kernel]
theorem indE3 : PCall Try.prog 10 [stepsE2.av, ints [1, 0]] (fun r => r = .tup [.bool false, fault 5 (-8)]) := (ind_no stepsE2 [1, 0] (by decide +kernel)).mono fun r hr => by rw [hr, show indF stepsE2 [1, 0] = (5, -8) by decide +kernel]
theorem listsE : PCall Try.prog 14 [rows [[0, 1, 2]], rows [[0, 1, 2]]] (fun r => r = .bool true) := (lists_pc _ _).mono fun r hr => by rw [hr]; rfl







theorem groups_pc : PCall Try.prog 11 [] (fun r => r = .bool true) := by
  (refine enterS Try.func11 Try.ntmps11 ?_)
  (repeat' (first | (refine hK _ ?_; clear hK K) | (refine aw_seq (fun K hK => ?_)) | (refine gR ?_; refine regS ?_) | (refine gD 7 ?_; refine drS (.it 0 0 (.it 1 0 (.it 2 0 (.it 3 0 (.it 4 0 (.it 5 0 (.it 6 0 (.it 7 0 (.it 8 0 (.it 9 0 (.it 10 0 (.it 11 0 (.it 12 0 (.it 13 0 (.it 14 0 (.it 15 0 (.it 16 0 (.it 17 0 (.it 18 0 (.it 19 0 (.it 20 0 (.it 21 0 (.it 22 2 (.it 23 2 (.it 24 2 (.it 25 0 (.it 26 0 (.it 27 0 (.it 28 2 (.it 29 0 (.it 30 0 (.it 31 0 .nil)))))))))))))))))))))))))))))))) [0, 1, 2, 3, 4, 5, 6, 7, 8, 9, 10, 11, 12, 13, 14, 15, 16, 17, 18, 19, 20, 21, 22, 23, 24, 25, 26, 27, 28, 29, 30, 31] ?_) | (refine gC 27 ?_; refine callS (stepsE_pc) ?_) | (refine gC 10 ?_; refine callS (indE1) ?_) | (refine gC 10 ?_; refine callS (indE2) ?_) | (refine gC 10 ?_; refine callS (indE3) ?_) | (refine gC 13 ?_; refine callS (findE) ?_) | (refine gCd 14 ?_; refine callD (listsE) ?_) | (refine gCd 9 ?_; refine callD (at_pc _ _) ?_) | (refine stk_op (fun K hK => ?_); (first | (refine aop_pv (pv_fieldAddrF (by rfl) (by rfl) (by first | decide | (simp; done) | (simp; omega))) ?_) | (refine aop_pv (pv_fieldAddrIF (by rfl) (by rfl) (by first | decide | (simp; done) | (simp; omega))) ?_))) | (refine adx_op (fun K hK => ?_); (first | (refine aopx_pv (pv_fieldAddrF (by rfl) (by rfl) (by first | decide | (simp; done) | (simp; omega))) ?_) | (refine aopx_pv (pv_fieldAddrIF (by rfl) (by rfl) (by first | decide | (simp; done) | (simp; omega))) ?_) | (refine aopx_pv (pv_eql (by rfl) (by rfl)) ?_) | (refine aopx_pv (pv_eqlB (by rfl) (by rfl)) ?_) | (refine aopx_pv (pv_eqlA (by rfl) (by rfl) (by kernel_rfl)) ?_) | (refine aopx_buildSlice (d := 58) (by exact ⟨by decide, by decide, by decide⟩) (by rfl) (by rfl) (by rfl) (by rfl) ?_) | (refine aopx_buildSlice (d := 59) (by exact ⟨by decide, by decide, by decide⟩) (by rfl) (by rfl) (by rfl) (by rfl) ?_))) | (refine And.intro ?_ ?_) | (refine gDx ?_; refine adxS ?_) | (refine gE ?_; (first | (refine exN ?_) | (refine exS (fun _ => ?_)))) | (refine gGd ?_; refine guardD (fun hc => ?_) (fun hc => ?_) <;> (try (first | contradiction | (exfalso; omega)))) | (refine gQ ?_; (first | (refine condT ?_) | (refine condF ?_) | (refine condS (fun hc => ?_) (fun hc => ?_) <;> (try (first | contradiction | (exfalso; omega)))))) | (refine gWd ?_; refine wdrS ?_) | (refine gW ?_; refine wopsS ?_) | (refine aw_block ?_) | (refine gX ?_; refine exitS ?_) | (refine gT ?_; refine retS ?_) | (refine gS ?_; refine skipS ?_) | (apply_assumption (exfalso := false) (symm := false))))
  (refine fin_le (Le.refl _) (rv_one (rv1_tmp (by rfl))) (by first | rfl | (simp only [go_sem, Nat.reduceAdd, Nat.reduceMul, reduceIte, Nat.reduceEqDiff, Nat.reduceLeDiff, Int.reduceToNat, Int.reducePow, Int.reduceBEq, Int.reduceBNe, Int.reduceLT, Int.reduceLE, decide_true, decide_false])) ?_)
  rfl



end Go.Proofs.Ytokmhfjledbglaa
