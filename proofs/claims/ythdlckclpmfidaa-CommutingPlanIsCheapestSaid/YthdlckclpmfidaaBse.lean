import Derived.Test.YthdlckclpmfidaaBsc



namespace Go.Proofs.Ythdlckclpmfidaa
open Go.Ab
open Go
set_option linter.unusedSimpArgs false
set_option linter.unusedVariables false
set_option maxRecDepth 10000
attribute [local irreducible] PV AOp AOps AW PCall OCall MCall Ab.Fin OFin OFin2 MFin RV RV1 Le AStk AGrd ADr ADx ADo AOpX AAny
set_option maxHeartbeats 4000000
/-! the least cost -/
theorem costs0_pc (t : Task) (s : List Int) (l : List (List Int)) (hw : WfT t) (hl : ReachL t s l) : PCall Try.prog 20 [t.av, rowsI l] (fun r => ∃ z D, r = ints (z :: D) ∧ LeastC t s z) :=
  (costs_pc t s l hw hl).mono fun r ⟨D, hr, hC, hF⟩ => by
    have h0 : 0 < l.length := (List.getElem?_eq_some_iff.1 hl.head).1
    have hD := hC.len
    have := hC.at0 hl hw.f0 (fun o ho => (hw.ops o ho).2.1) hF (by omega)
    cases D with
    | nil => simp at hD; omega
    | cons z D => exact ⟨z, D, hr, this⟩
/-- The least cost, or -1 where more than 2000 states can be reached. -/
def BestOk (t : Task) (s : List Int) (z : Int) : Prop := (z = -1 ∧ ManyT t s) ∨ LeastC t s z
theorem reached_pc (t : Task) (hw : WfT t) : PCall Try.prog 19 [t.av] (fun r => (∃ l, r = .tup [rowsI l, .bool true] ∧ ReachL t t.init l) ∨ (r = .tup [.nilS, .bool false] ∧ ManyT t t.init)) := by
  have hi := hw.init
  
  (refine enterS Try.func19 Try.ntmps19 ?_)
  (repeat' (first | (refine hK _ ?_; clear hK K) | (refine aw_seq (fun K hK => ?_)) | (refine gR ?_; refine regS ?_) | (refine gC 44 ?_; refine callS (reachedFrom_pc _ _ (by assumption) (by assumption)) ?_) | (refine stk_op (fun K hK => ?_); (first | (refine aop_pv (pv_fieldAddrF (by rfl) (by rfl) (by first | decide | (simp; done) | (simp; omega))) ?_) | (refine aop_pv (pv_fieldAddrIF (by rfl) (by rfl) (by first | decide | (simp; done) | (simp; omega))) ?_) | (refine aop_call (reachedFrom_pc _ _ hw hi) (by rfl) (fun x hx => ?_); obtain (⟨l, rfl, hl⟩ | ⟨rfl, hl⟩) := hx))) | (refine gE ?_; (first | (refine exN ?_) | (refine exS (fun _ => ?_)))) | (refine gQ ?_; (first | (refine condT ?_) | (refine condF ?_) | (refine condS (fun hc => ?_) (fun hc => ?_) <;> (try (first | contradiction | (exfalso; omega)))))) | (refine gW ?_; refine wopsS ?_) | (refine aw_block ?_) | (refine gX ?_; refine exitS ?_) | (refine gT ?_; refine retS ?_) | (refine gS ?_; refine skipS ?_) | (apply_assumption (exfalso := false) (symm := false))))
  · (refine fin_le (Le.refl _) (rv_two (rv1_tmp (by rfl)) (rv1_tmp (by rfl))) (by first | rfl | (simp only [go_sem, Nat.reduceAdd, Nat.reduceMul, reduceIte, Nat.reduceEqDiff, Nat.reduceLeDiff, Int.reduceToNat, Int.reducePow, Int.reduceBEq, Int.reduceBNe, Int.reduceLT, Int.reduceLE, decide_true, decide_false])) ?_)
    exact .inl ⟨l, rfl, hl⟩
  · (refine fin_le (Le.refl _) (rv_two (rv1_tmp (by rfl)) (rv1_tmp (by rfl))) (by first | rfl | (simp only [go_sem, Nat.reduceAdd, Nat.reduceMul, reduceIte, Nat.reduceEqDiff, Nat.reduceLeDiff, Int.reduceToNat, Int.reducePow, Int.reduceBEq, Int.reduceBNe, Int.reduceLT, Int.reduceLE, decide_true, decide_false])) ?_)
    exact .inr ⟨rfl, hl⟩



end Go.Proofs.Ythdlckclpmfidaa
