import Derived.Test.YthndlimdehfneaaCor
import Derived.Test.YthndlimdehfneaaSto
import Derived.Test.YthndlimdehfneaaPrm




namespace Go.Proofs.Ythndlimdehfneaa
open Go.Ab
open Go
set_option linter.unusedSimpArgs false
set_option linter.unusedVariables false
set_option maxRecDepth 10000
attribute [local irreducible] PV AOp AOps AW PCall OCall MCall WCall Ab.Fin OFin OFin2 MFin RV RV1 Le AStk AGrd ADr ADx ADo AOpX AAny
set_option maxHeartbeats 4000000
@[go_sem] theorem zeroT_facts : zeroT.facts = 0 := rfl
theorem relax_at {t u : Task} {f : Int × Int} (e : relaxOf t = (u, f)) : PCall Try.prog 49 [t.av] (fun r => r = .tup [u.av, faultP f]) := by
  have := relax_pc t
  rw [e] at this
  exact this
theorem scale_at {t u : Task} {b : Int} {f : Int × Int} (e : scaleOf t b = (u, f)) : PCall Try.prog 50 [t.av, .int b] (fun r => r = .tup [u.av, faultP f]) := by
  have := scale_pc t b
  rw [e] at this
  exact this
theorem forbid_at {t u : Task} {b : Int} {f : Int × Int} (e : forbidOf t b = (u, f)) : PCall Try.prog 44 [t.av, .int b] (fun r => r = .tup [u.av, faultP f]) := by
  have := forbid_pc t b
  rw [e] at this
  exact this
theorem require_at {t u : Task} {b : Int} {f : Int × Int} (e : requireOf t b = (u, f)) : PCall Try.prog 43 [t.av, .int b] (fun r => r = .tup [u.av, faultP f]) := by
  have := require_pc t b
  rw [e] at this
  exact this
theorem product_at {a b t : Task} {f : Int × Int} (e : prodOf a b = (t, f)) : PCall Try.prog 47 [a.av, b.av] (fun r => r = .tup [t.av, faultP f]) := by
  have := product_pc a b
  rw [e] at this
  exact this
/-! what the changes of a task yield -/
theorem scale_cases {t : Task} (hf : taskFault t = (0, 0)) (b : Int) : (∃ p, p.1 ≠ 0 ∧ scaleOf t b = (zeroT, p)) ∨ (scaleOf t b = (scaleT t b, (0, 0)) ∧ 0 ≤ b ∧ b ≤ 100 ∧ ∀ o ∈ t.ops, o.cost * b ≤ 100) := by
  by_cases hb : b < 0 ∨ 100 < b
  · exact .inl ⟨(3, -8), by simp, by unfold scaleOf; rw [if_neg (by simp [hf]), if_pos hb]⟩
  · cases hfs : firstSome (scaleAt b t.ops) t.ops.length with
    | none =>
      refine .inr ⟨by unfold scaleOf; rw [if_neg (by simp [hf]), if_neg hb, hfs], by omega, by omega, fun o ho => ?_⟩
      obtain ⟨k, hk, rfl⟩ := List.getElem_of_mem ho
      have := firstSome_none.1 hfs k hk
      rw [scaleAt_eq hk] at this
      split at this
      · cases this
      · omega
    | some p =>
      refine .inl ⟨p, ?_, by unfold scaleOf; rw [if_neg (by simp [hf]), if_neg hb, hfs]⟩
      obtain ⟨i, hi, hg⟩ := firstSome_of hfs
      rw [scaleAt_eq hi] at hg
      split at hg
      · injection hg with hg; rw [← hg]; simp
      · cases hg
theorem planF_of {t : Task} {plan : List Int} (hw : WfT t) (h60 : plan.length ≤ 60) (hp : InOps t plan) : planF t plan = (0, 0) := planF_in.2 ⟨hw, h60, hp⟩
/-! the law of relaxed plans -/








theorem relaxedLaw_pc (t : Task) (plan : List Int) (b : Int) : PCall Try.prog 13 [t.av, ints plan, .int b] (fun r => r = .bool true) := by
  by_cases hf : taskFault t = (0, 0)
  · have hw := taskFault_ok.1 hf
    have e1 : relaxOf t = (relaxT t, (0, 0)) := by unfold relaxOf; rw [if_neg (by simp [hf])]
    by_cases hp : planF t plan = (0, 0)
    · obtain ⟨_, h60, hin⟩ := planF_in.1 hp
      have hwr := relax_wf hw
      have hinr : InOps (relaxT t) plan := fun x hx => by have := hin x hx; simpa [relaxT] using this
      have hpr := planF_of hwr h60 hinr
      have hmono : worksB t t.init (natP plan) = true → worksB (relaxT t) (relaxT t).init (natP plan) = true := fun h => worksB_iff.2 (relax_works hw.f0 (worksB_iff.1 h))
      have e2 := solvesOf_ok hp
      have e3 := solvesOf_ok hpr
      generalize worksB (relaxT t) (relaxT t).init (natP plan) = x at *
      rcases scale_cases hf b with ⟨p, hpc, e4⟩ | ⟨e4, hb0, hb1, hbc⟩
      · cases hB : worksB t t.init (natP plan) with
        | true =>
          rw [hB] at e2
          obtain rfl := hmono hB
          (refine enterS Try.func13 Try.ntmps13 ?_)
          (repeat' (first | (refine hK _ ?_; clear hK K) | (refine aw_seq (fun K hK => ?_)) | (refine gR ?_; refine regS ?_) | (refine gE ?_; (first | (refine exN ?_) | (refine exS (fun _ => ?_)))) | (refine gC 49 ?_; refine callS (relax_at e1) ?_) | (refine gC 24 ?_; refine callS (solves_at e2) ?_) | (refine gC 24 ?_; refine callS (solves_at e3) ?_) | (refine gC 24 ?_; refine callS (solves_at e5) ?_) | (refine gC 45 ?_; refine callS (changes_pc) ?_) | (refine gC 50 ?_; refine callS (scale_at e4) ?_) | (refine gC 51 ?_; refine callS (cost_at e6) ?_) | (refine gC 51 ?_; refine callS (cost_at e7) ?_) | (refine stk_op (fun K hK => ?_); (first | (refine aop_pv (pv_fieldAddrF (by rfl) (by rfl) (by first | decide | (simp; done) | (simp; omega))) ?_) | (refine aop_pv (pv_fieldAddrIF (by rfl) (by rfl) (by first | decide | (simp; done) | (simp; omega))) ?_) | (refine aop_pv (pv_neq (by rfl) (by rfl)) ?_) | (refine aop_pv (pv_neqB (by rfl) (by rfl)) ?_) | (refine aop_pv (pv_neqA (by rfl) (by rfl) (by kernel_rfl)) ?_) | (refine aop_pv (pv_eql (by rfl) (by rfl)) ?_) | (refine aop_pv (pv_eqlB (by rfl) (by rfl)) ?_) | (refine aop_pv (pv_eqlA (by rfl) (by rfl) (by kernel_rfl)) ?_))) | (refine gQ ?_; (first | (refine condT ?_) | (refine condF ?_) | (refine condS (fun hc => ?_) (fun hc => ?_) <;> (try (first | contradiction | (exfalso; omega)))))) | (refine gG ?_; refine guardS (fun hc => ?_) (fun hc => ?_) <;> (try (first | contradiction | (exfalso; omega)))) | (refine gW ?_; refine wopsS ?_) | (refine aw_block ?_) | (refine gX ?_; refine exitS ?_) | (refine gT ?_; refine retS ?_) | (refine gS ?_; refine skipS ?_) | (apply_assumption (exfalso := false) (symm := false))))
          all_goals (refine fin_le (Le.refl _) (rv_one (rv1_tmp (by rfl))) (by first | rfl | (simp only [go_sem, Nat.reduceAdd, Nat.reduceMul, reduceIte, Nat.reduceEqDiff, Nat.reduceLeDiff, Int.reduceToNat, Int.reducePow, Int.reduceBEq, Int.reduceBNe, Int.reduceLT, Int.reduceLE, decide_true, decide_false])) ?_)
          all_goals first | rfl | simp
        | false =>
          rw [hB] at e2
          (refine enterS Try.func13 Try.ntmps13 ?_)
          (repeat' (first | (refine hK _ ?_; clear hK K) | (refine aw_seq (fun K hK => ?_)) | (refine gR ?_; refine regS ?_) | (refine gE ?_; (first | (refine exN ?_) | (refine exS (fun _ => ?_)))) | (refine gC 49 ?_; refine callS (relax_at e1) ?_) | (refine gC 24 ?_; refine callS (solves_at e2) ?_) | (refine gC 24 ?_; refine callS (solves_at e3) ?_) | (refine gC 24 ?_; refine callS (solves_at e5) ?_) | (refine gC 45 ?_; refine callS (changes_pc) ?_) | (refine gC 50 ?_; refine callS (scale_at e4) ?_) | (refine gC 51 ?_; refine callS (cost_at e6) ?_) | (refine gC 51 ?_; refine callS (cost_at e7) ?_) | (refine stk_op (fun K hK => ?_); (first | (refine aop_pv (pv_fieldAddrF (by rfl) (by rfl) (by first | decide | (simp; done) | (simp; omega))) ?_) | (refine aop_pv (pv_fieldAddrIF (by rfl) (by rfl) (by first | decide | (simp; done) | (simp; omega))) ?_) | (refine aop_pv (pv_neq (by rfl) (by rfl)) ?_) | (refine aop_pv (pv_neqB (by rfl) (by rfl)) ?_) | (refine aop_pv (pv_neqA (by rfl) (by rfl) (by kernel_rfl)) ?_) | (refine aop_pv (pv_eql (by rfl) (by rfl)) ?_) | (refine aop_pv (pv_eqlB (by rfl) (by rfl)) ?_) | (refine aop_pv (pv_eqlA (by rfl) (by rfl) (by kernel_rfl)) ?_))) | (refine gQ ?_; (first | (refine condT ?_) | (refine condF ?_) | (refine condS (fun hc => ?_) (fun hc => ?_) <;> (try (first | contradiction | (exfalso; omega)))))) | (refine gG ?_; refine guardS (fun hc => ?_) (fun hc => ?_) <;> (try (first | contradiction | (exfalso; omega)))) | (refine gW ?_; refine wopsS ?_) | (refine aw_block ?_) | (refine gX ?_; refine exitS ?_) | (refine gT ?_; refine retS ?_) | (refine gS ?_; refine skipS ?_) | (apply_assumption (exfalso := false) (symm := false))))
          all_goals (refine fin_le (Le.refl _) (rv_one (rv1_tmp (by rfl))) (by first | rfl | (simp only [go_sem, Nat.reduceAdd, Nat.reduceMul, reduceIte, Nat.reduceEqDiff, Nat.reduceLeDiff, Int.reduceToNat, Int.reducePow, Int.reduceBEq, Int.reduceBNe, Int.reduceLT, Int.reduceLE, decide_true, decide_false])) ?_)
          all_goals first | rfl | simp
      · have hws := scale_wf hw hb0 hbc
        have hins : InOps (scaleT t b) plan := fun x hx => by have := hin x hx; simpa [scaleT] using this
        have hps := planF_of hws h60 hins
        have e5 := solvesOf_ok hps
        have e6 := costOf_ok hp
        have e7 := costOf_ok hps
        rw [scale_cost] at e7
        rw [worksB_eq (u := t) (q := natP plan) (scale_works t b _ _)] at e5
        have e5 : solvesOf (scaleT t b) plan = (worksB t t.init (natP plan), (0, 0)) := e5
        have hcb := cost_bound hw (natP plan)
        have hnl : (natP plan).length ≤ 60 := by simp [natP]; omega
        generalize costT t (natP plan) = m at *
        have hm0 := Int.mul_nonneg hb0 hcb.1
        have hm1 : b * m ≤ 100 * 6000 := Int.mul_le_mul hb1 (by omega) hcb.1 (by omega)
        cases hB : worksB t t.init (natP plan) with
        | true =>
          rw [hB] at e2 e5
          obtain rfl := hmono hB
          (refine enterS Try.func13 Try.ntmps13 ?_)
          (repeat' (first | (refine hK _ ?_; clear hK K) | (refine aw_seq (fun K hK => ?_)) | (refine gR ?_; refine regS ?_) | (refine gE ?_; (first | (refine exN ?_) | (refine exS (fun _ => ?_)))) | (refine gC 49 ?_; refine callS (relax_at e1) ?_) | (refine gC 24 ?_; refine callS (solves_at e2) ?_) | (refine gC 24 ?_; refine callS (solves_at e3) ?_) | (refine gC 24 ?_; refine callS (solves_at e5) ?_) | (refine gC 45 ?_; refine callS (changes_pc) ?_) | (refine gC 50 ?_; refine callS (scale_at e4) ?_) | (refine gC 51 ?_; refine callS (cost_at e6) ?_) | (refine gC 51 ?_; refine callS (cost_at e7) ?_) | (refine stk_op (fun K hK => ?_); (first | (refine aop_pv (pv_fieldAddrF (by rfl) (by rfl) (by first | decide | (simp; done) | (simp; omega))) ?_) | (refine aop_pv (pv_fieldAddrIF (by rfl) (by rfl) (by first | decide | (simp; done) | (simp; omega))) ?_) | (refine aop_pv (pv_neq (by rfl) (by rfl)) ?_) | (refine aop_pv (pv_neqB (by rfl) (by rfl)) ?_) | (refine aop_pv (pv_neqA (by rfl) (by rfl) (by kernel_rfl)) ?_) | (refine aop_pv (pv_eql (by rfl) (by rfl)) ?_) | (refine aop_pv (pv_eqlB (by rfl) (by rfl)) ?_) | (refine aop_pv (pv_eqlA (by rfl) (by rfl) (by kernel_rfl)) ?_))) | (refine gQ ?_; (first | (refine condT ?_) | (refine condF ?_) | (refine condS (fun hc => ?_) (fun hc => ?_) <;> (try (first | contradiction | (exfalso; omega)))))) | (refine gG ?_; refine guardS (fun hc => ?_) (fun hc => ?_) <;> (try (first | contradiction | (exfalso; omega)))) | (refine gW ?_; refine wopsS ?_) | (refine aw_block ?_) | (refine gX ?_; refine exitS ?_) | (refine gT ?_; refine retS ?_) | (refine gS ?_; refine skipS ?_) | (apply_assumption (exfalso := false) (symm := false))))
          all_goals (refine fin_le (Le.refl _) (rv_one (rv1_tmp (by rfl))) (by first | rfl | (simp only [go_sem, Nat.reduceAdd, Nat.reduceMul, reduceIte, Nat.reduceEqDiff, Nat.reduceLeDiff, Int.reduceToNat, Int.reducePow, Int.reduceBEq, Int.reduceBNe, Int.reduceLT, Int.reduceLE, decide_true, decide_false])) ?_)
          all_goals first | rfl | simp
        | false =>
          rw [hB] at e2 e5
          (refine enterS Try.func13 Try.ntmps13 ?_)
          (repeat' (first | (refine hK _ ?_; clear hK K) | (refine aw_seq (fun K hK => ?_)) | (refine gR ?_; refine regS ?_) | (refine gE ?_; (first | (refine exN ?_) | (refine exS (fun _ => ?_)))) | (refine gC 49 ?_; refine callS (relax_at e1) ?_) | (refine gC 24 ?_; refine callS (solves_at e2) ?_) | (refine gC 24 ?_; refine callS (solves_at e3) ?_) | (refine gC 24 ?_; refine callS (solves_at e5) ?_) | (refine gC 45 ?_; refine callS (changes_pc) ?_) | (refine gC 50 ?_; refine callS (scale_at e4) ?_) | (refine gC 51 ?_; refine callS (cost_at e6) ?_) | (refine gC 51 ?_; refine callS (cost_at e7) ?_) | (refine stk_op (fun K hK => ?_); (first | (refine aop_pv (pv_fieldAddrF (by rfl) (by rfl) (by first | decide | (simp; done) | (simp; omega))) ?_) | (refine aop_pv (pv_fieldAddrIF (by rfl) (by rfl) (by first | decide | (simp; done) | (simp; omega))) ?_) | (refine aop_pv (pv_neq (by rfl) (by rfl)) ?_) | (refine aop_pv (pv_neqB (by rfl) (by rfl)) ?_) | (refine aop_pv (pv_neqA (by rfl) (by rfl) (by kernel_rfl)) ?_) | (refine aop_pv (pv_eql (by rfl) (by rfl)) ?_) | (refine aop_pv (pv_eqlB (by rfl) (by rfl)) ?_) | (refine aop_pv (pv_eqlA (by rfl) (by rfl) (by kernel_rfl)) ?_))) | (refine gQ ?_; (first | (refine condT ?_) | (refine condF ?_) | (refine condS (fun hc => ?_) (fun hc => ?_) <;> (try (first | contradiction | (exfalso; omega)))))) | (refine gG ?_; refine guardS (fun hc => ?_) (fun hc => ?_) <;> (try (first | contradiction | (exfalso; omega)))) | (refine gW ?_; refine wopsS ?_) | (refine aw_block ?_) | (refine gX ?_; refine exitS ?_) | (refine gT ?_; refine retS ?_) | (refine gS ?_; refine skipS ?_) | (apply_assumption (exfalso := false) (symm := false))))
          all_goals (refine fin_le (Le.refl _) (rv_one (rv1_tmp (by rfl))) (by first | rfl | (simp only [go_sem, Nat.reduceAdd, Nat.reduceMul, reduceIte, Nat.reduceEqDiff, Nat.reduceLeDiff, Int.reduceToNat, Int.reducePow, Int.reduceBEq, Int.reduceBNe, Int.reduceLT, Int.reduceLE, decide_true, decide_false])) ?_)
          all_goals first | rfl | simp
    · have hpc := planF_code hp
      have e2 := solvesOf_bad hp
      generalize planF t plan = p at *
      (refine enterS Try.func13 Try.ntmps13 ?_)
      (repeat' (first | (refine hK _ ?_; clear hK K) | (refine aw_seq (fun K hK => ?_)) | (refine gR ?_; refine regS ?_) | (refine gE ?_; (first | (refine exN ?_) | (refine exS (fun _ => ?_)))) | (refine gC 49 ?_; refine callS (relax_at e1) ?_) | (refine gC 24 ?_; refine callS (solves_at e2) ?_) | (refine gC 24 ?_; refine callS (solves_at e3) ?_) | (refine gC 24 ?_; refine callS (solves_at e5) ?_) | (refine gC 45 ?_; refine callS (changes_pc) ?_) | (refine gC 50 ?_; refine callS (scale_at e4) ?_) | (refine gC 51 ?_; refine callS (cost_at e6) ?_) | (refine gC 51 ?_; refine callS (cost_at e7) ?_) | (refine stk_op (fun K hK => ?_); (first | (refine aop_pv (pv_fieldAddrF (by rfl) (by rfl) (by first | decide | (simp; done) | (simp; omega))) ?_) | (refine aop_pv (pv_fieldAddrIF (by rfl) (by rfl) (by first | decide | (simp; done) | (simp; omega))) ?_) | (refine aop_pv (pv_neq (by rfl) (by rfl)) ?_) | (refine aop_pv (pv_neqB (by rfl) (by rfl)) ?_) | (refine aop_pv (pv_neqA (by rfl) (by rfl) (by kernel_rfl)) ?_) | (refine aop_pv (pv_eql (by rfl) (by rfl)) ?_) | (refine aop_pv (pv_eqlB (by rfl) (by rfl)) ?_) | (refine aop_pv (pv_eqlA (by rfl) (by rfl) (by kernel_rfl)) ?_))) | (refine gQ ?_; (first | (refine condT ?_) | (refine condF ?_) | (refine condS (fun hc => ?_) (fun hc => ?_) <;> (try (first | contradiction | (exfalso; omega)))))) | (refine gG ?_; refine guardS (fun hc => ?_) (fun hc => ?_) <;> (try (first | contradiction | (exfalso; omega)))) | (refine gW ?_; refine wopsS ?_) | (refine aw_block ?_) | (refine gX ?_; refine exitS ?_) | (refine gT ?_; refine retS ?_) | (refine gS ?_; refine skipS ?_) | (apply_assumption (exfalso := false) (symm := false))))
      all_goals (refine fin_le (Le.refl _) (rv_one (rv1_tmp (by rfl))) (by first | rfl | (simp only [go_sem, Nat.reduceAdd, Nat.reduceMul, reduceIte, Nat.reduceEqDiff, Nat.reduceLeDiff, Int.reduceToNat, Int.reducePow, Int.reduceBEq, Int.reduceBNe, Int.reduceLT, Int.reduceLE, decide_true, decide_false])) ?_)
      all_goals first | rfl | simp
  · have hac := tf_code hf
    have e1 : relaxOf t = (zeroT, taskFault t) := by unfold relaxOf; rw [if_pos hf]
    have e2 := solvesOf_bad (plan := plan) (by rw [planF_bad hf]; exact hf)
    rw [planF_bad hf] at e2
    generalize taskFault t = p at *
    (refine enterS Try.func13 Try.ntmps13 ?_)
    (repeat' (first | (refine hK _ ?_; clear hK K) | (refine aw_seq (fun K hK => ?_)) | (refine gR ?_; refine regS ?_) | (refine gE ?_; (first | (refine exN ?_) | (refine exS (fun _ => ?_)))) | (refine gC 49 ?_; refine callS (relax_at e1) ?_) | (refine gC 24 ?_; refine callS (solves_at e2) ?_) | (refine gC 24 ?_; refine callS (solves_at e3) ?_) | (refine gC 24 ?_; refine callS (solves_at e5) ?_) | (refine gC 45 ?_; refine callS (changes_pc) ?_) | (refine gC 50 ?_; refine callS (scale_at e4) ?_) | (refine gC 51 ?_; refine callS (cost_at e6) ?_) | (refine gC 51 ?_; refine callS (cost_at e7) ?_) | (refine stk_op (fun K hK => ?_); (first | (refine aop_pv (pv_fieldAddrF (by rfl) (by rfl) (by first | decide | (simp; done) | (simp; omega))) ?_) | (refine aop_pv (pv_fieldAddrIF (by rfl) (by rfl) (by first | decide | (simp; done) | (simp; omega))) ?_) | (refine aop_pv (pv_neq (by rfl) (by rfl)) ?_) | (refine aop_pv (pv_neqB (by rfl) (by rfl)) ?_) | (refine aop_pv (pv_neqA (by rfl) (by rfl) (by kernel_rfl)) ?_) | (refine aop_pv (pv_eql (by rfl) (by rfl)) ?_) | (refine aop_pv (pv_eqlB (by rfl) (by rfl)) ?_) | (refine aop_pv (pv_eqlA (by rfl) (by rfl) (by kernel_rfl)) ?_))) | (refine gQ ?_; (first | (refine condT ?_) | (refine condF ?_) | (refine condS (fun hc => ?_) (fun hc => ?_) <;> (try (first | contradiction | (exfalso; omega)))))) | (refine gG ?_; refine guardS (fun hc => ?_) (fun hc => ?_) <;> (try (first | contradiction | (exfalso; omega)))) | (refine gW ?_; refine wopsS ?_) | (refine aw_block ?_) | (refine gX ?_; refine exitS ?_) | (refine gT ?_; refine retS ?_) | (refine gS ?_; refine skipS ?_) | (apply_assumption (exfalso := false) (symm := false))))
    all_goals (refine fin_le (Le.refl _) (rv_one (rv1_tmp (by rfl))) (by first | rfl | (simp only [go_sem, Nat.reduceAdd, Nat.reduceMul, reduceIte, Nat.reduceEqDiff, Nat.reduceLeDiff, Int.reduceToNat, Int.reducePow, Int.reduceBEq, Int.reduceBNe, Int.reduceLT, Int.reduceLE, decide_true, decide_false])) ?_)
    all_goals first | rfl | simp



end Go.Proofs.Ythndlimdehfneaa
