import Derived.Test.YtokmhfjledbglaaMvl



namespace Go.Proofs.Ytokmhfjledbglaa
open Go.Ab
open Go
set_option linter.unusedSimpArgs false
set_option linter.unusedVariables false
set_option maxRecDepth 10000
attribute [local irreducible] PV AOp AOps AW PCall OCall MCall WCall HCall Ab.Fin OFin OFin2 MFin HFin RV RV1 Le AStk AGrd ADr ADx ADo AOpX AAny
set_option maxHeartbeats 4000000
/-! whether a multi-valued task is valid -/
def okO (m : MTask) (o : MOp) : Prop := asB m o.pre = true ∧ asB m o.post = true ∧ 0 ≤ o.cost ∧ o.cost ≤ 100
theorem mval_pc (m : MTask) : PCall Try.prog 39 [m.av] (fun r => (∃ a b : Int, a ≠ 0 ∧ r = fault a b) ∨ (MValid m ∧ r = fault 0 0)) := by
  obtain ⟨wd, hw⟩ : ∃ b, m.sizes.any wideN = b := ⟨_, rfl⟩
  obtain ⟨bi, hi⟩ : ∃ b, stB m m.init = b := ⟨_, rfl⟩
  obtain ⟨bg, hg⟩ : ∃ b, asB m m.goal = b := ⟨_, rfl⟩
  have c1 : PCall Try.prog 31 [ints m.sizes, .fn 55 []] (fun r => r = .bool wd) := (containsFunc_pc m.sizes 55 [] rfl wideN (wideN_pc _)).mono fun r hr => by rw [hr, hw]
  have c2 : PCall Try.prog 56 [m.av, ints m.init] (fun r => r = .bool bi) := (isStateM_pc m m.init).mono fun r hr => by rw [hr, hi]
  have c3 : PCall Try.prog 57 [m.av, asgs m.goal] (fun r => r = .bool bg) := (assigns_pc m m.goal).mono fun r hr => by rw [hr, hg]
  
  
  
  
  (refine enterS Try.func39 Try.ntmps39 ?_)
  
  (repeat' (first | (refine hK _ ?_; clear hK K) | (refine aw_seq (fun K hK => ?_)) | (refine gR ?_; refine regS ?_) | (refine gC 31 ?_; refine callS (c1) ?_) | (refine gC 56 ?_; refine callS (c2) ?_) | (refine gC 57 ?_; refine callS (c3) ?_) | (refine stk_op (fun K hK => ?_); (first | (refine aop_pv (pv_fieldAddrF (by rfl) (by rfl) (by first | decide | (simp; done) | (simp; omega))) ?_) | (refine aop_pv (pv_fieldAddrIF (by rfl) (by rfl) (by first | decide | (simp; done) | (simp; omega))) ?_) | (refine aop_pv (pv_eql (by rfl) (by rfl)) ?_) | (refine aop_pv (pv_eqlB (by rfl) (by rfl)) ?_) | (refine aop_pv (pv_eqlA (by rfl) (by rfl) (by kernel_rfl)) ?_))) | (refine gE ?_; (first | (refine exN ?_) | (refine exS (fun _ => ?_)))) | (refine gG ?_; refine guardS (fun hc => ?_) (fun hc => ?_) <;> (try (first | contradiction | (exfalso; omega)))) | (refine gQ ?_; (first | (refine condT ?_) | (refine condF ?_) | (refine condS (fun hc => ?_) (fun hc => ?_) <;> (try (first | contradiction | (exfalso; omega)))))) | (refine gW ?_; refine wopsS ?_) | (refine aw_block ?_) | (refine gX ?_; refine exitS ?_) | (refine gT ?_; refine retS ?_) | (refine gS ?_; refine skipS ?_) | (apply_assumption (exfalso := false) (symm := false))))
  all_goals try ((refine fin_le (Le.refl _) (rv_one (rv1_cell (by first | exact pv_load (by rfl) (by rfl) (by rfl) (by rfl) | exact pv_loadA (by rfl) (by rfl) (by rfl) (by first | decide | simp)))) (by first | rfl | (simp only [go_sem, Nat.reduceAdd, Nat.reduceMul, reduceIte, Nat.reduceEqDiff, Nat.reduceLeDiff, Int.reduceToNat, Int.reducePow, Int.reduceBEq, Int.reduceBNe, Int.reduceLT, Int.reduceLE, decide_true, decide_false])) ?_); exact .inl ⟨_, _, by decide, rfl⟩; done)
  refine aw_loop_at [4, 5, 47, 48, 49, 50, 51, 52, 53, 54, 55, 56, 57, 58, 59, 60, 61, 62, 63, 64, 65, 66, 67, 68, 69, 70, 71, 72, 73, 74, 75, 76, 77, 78] (fun k : Nat => k ≤ m.ops.length ∧ ∀ i (h : i < m.ops.length), i < k → okO m m.ops[i]) (fun k => m.ops.length - k) (fun k => [(47, .int k)]) (fun _ => [(1, ⟨50, m.cs, true⟩), (2, ⟨27, [.int 0, .int 0], true⟩)]) 0 ⟨by omega, by omega⟩ ?_ ?_
  · (refine atS ?_)
    (exact weakS)
  · rintro k ⟨hk, hall⟩ K hK
    (refine atS ?_)
    by_cases hlt : k < m.ops.length
    · obtain ⟨b1, h1⟩ : ∃ b, asB m m.ops[k].pre = b := ⟨_, rfl⟩
      obtain ⟨b2, h2⟩ : ∃ b, asB m m.ops[k].post = b := ⟨_, rfl⟩
      have c4 : PCall Try.prog 57 [m.av, asgs m.ops[k].pre] (fun r => r = .bool b1) := (assigns_pc m m.ops[k].pre).mono fun r hr => by rw [hr, h1]
      have c5 : PCall Try.prog 57 [m.av, asgs m.ops[k].post] (fun r => r = .bool b2) := (assigns_pc m m.ops[k].post).mono fun r hr => by rw [hr, h2]
      
      
      
      
      (repeat' (first | (refine hK _ ?_; clear hK K) | (refine aw_seq (fun K hK => ?_)) | (refine gR ?_; refine regS ?_) | (refine gC 57 ?_; refine callS (c4) ?_) | (refine gC 57 ?_; refine callS (c5) ?_) | (refine stk_op (fun K hK => ?_); (first | (refine aop_pv (pv_fieldAddrF (by rfl) (by rfl) (by first | decide | (simp; done) | (simp; omega))) ?_) | (refine aop_pv (pv_fieldAddrIF (by rfl) (by rfl) (by first | decide | (simp; done) | (simp; omega))) ?_))) | (refine gE ?_; (first | (refine exN ?_) | (refine exS (fun _ => ?_)))) | (refine gG ?_; refine guardS (fun hc => ?_) (fun hc => ?_) <;> (try (first | contradiction | (exfalso; omega)))) | (refine gQ ?_; (first | (refine condT ?_) | (refine condF ?_) | (refine condS (fun hc => ?_) (fun hc => ?_) <;> (try (first | contradiction | (exfalso; omega)))))) | (refine gW ?_; refine wopsS ?_) | (refine aw_block ?_) | (refine gX ?_; refine exitS ?_) | (refine gT ?_; refine retS ?_) | (refine gS ?_; refine skipS ?_) | (apply_assumption (exfalso := false) (symm := false))))
      all_goals try ((refine fin_le (Le.refl _) (rv_one (rv1_cell (by first | exact pv_load (by rfl) (by rfl) (by rfl) (by rfl) | exact pv_loadA (by rfl) (by rfl) (by rfl) (by first | decide | simp)))) (by first | rfl | (simp only [go_sem, Nat.reduceAdd, Nat.reduceMul, reduceIte, Nat.reduceEqDiff, Nat.reduceLeDiff, Int.reduceToNat, Int.reducePow, Int.reduceBEq, Int.reduceBNe, Int.reduceLT, Int.reduceLE, decide_true, decide_false])) ?_); exact .inl ⟨_, _, by decide, rfl⟩; done)
      refine ⟨k + 1, ⟨by omega, fun i h hik => ?_⟩, by omega, ?_⟩
      · rcases Nat.lt_or_ge i k with h' | h'
        · exact hall i h h'
        · obtain rfl : i = k := by omega
          exact ⟨by simp_all, by simp_all, by omega, by omega⟩
      · (refine atS ?_)
        (exact weakS)
    · obtain rfl : k = m.ops.length := by omega
      
      (repeat' (first | (refine hK _ ?_; clear hK K) | (refine aw_seq (fun K hK => ?_)) | (refine gR ?_; refine regS ?_) | (refine gE ?_; (first | (refine exN ?_) | (refine exS (fun _ => ?_)))) | (refine gQ ?_; (first | (refine condT ?_) | (refine condF ?_) | (refine condS (fun hc => ?_) (fun hc => ?_) <;> (try (first | contradiction | (exfalso; omega)))))) | (refine gW ?_; refine wopsS ?_) | (refine aw_block ?_) | (refine gX ?_; refine exitS ?_) | (refine gT ?_; refine retS ?_) | (refine gS ?_; refine skipS ?_) | (apply_assumption (exfalso := false) (symm := false))))
      (refine fin_le (Le.refl _) (rv_one (rv1_cell (by first | exact pv_load (by rfl) (by rfl) (by rfl) (by rfl) | exact pv_loadA (by rfl) (by rfl) (by rfl) (by first | decide | simp)))) (by first | rfl | (simp only [go_sem, Nat.reduceAdd, Nat.reduceMul, reduceIte, Nat.reduceEqDiff, Nat.reduceLeDiff, Int.reduceToNat, Int.reducePow, Int.reduceBEq, Int.reduceBNe, Int.reduceLT, Int.reduceLE, decide_true, decide_false])) ?_)
      right
      refine ⟨⟨by omega, by omega, fun n hn => ?_, by simp_all, by simp_all, by omega, fun o ho => ?_⟩, rfl⟩
      · have hw0 : m.sizes.any wideN = false := by simp_all
        have := List.any_eq_false.1 hw0 n hn
        simp [wideN] at this
        omega
      · obtain ⟨i, h, rfl⟩ := List.getElem_of_mem ho
        exact hall i h h


end Go.Proofs.Ytokmhfjledbglaa
