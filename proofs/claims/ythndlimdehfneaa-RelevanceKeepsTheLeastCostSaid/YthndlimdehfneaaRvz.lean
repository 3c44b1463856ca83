import Derived.Test.YthndlimdehfneaaRvy



namespace Go.Proofs.Ythndlimdehfneaa
open Go.Ab
open Go
set_option linter.unusedSimpArgs false
set_option linter.unusedVariables false
set_option maxRecDepth 10000
attribute [local irreducible] PV AOp AOps AW PCall OCall MCall WCall Ab.Fin OFin OFin2 MFin RV RV1 Le AStk AGrd ADr ADx ADo AOpX AAny
set_option maxHeartbeats 20000000
@[local go_sem] theorem cast_0R : ((0 : Nat) : Int) = 0 := rfl
@[local go_sem] theorem cast_1R : ((1 : Nat) : Int) = 1 := rfl
@[local go_sem] theorem cast_2R : ((2 : Nat) : Int) = 2 := rfl
/-! the closed example of relevance -/
def stepsV : Task := ⟨3, [0], [2], [⟨[0], [1], [0], 2⟩, ⟨[1], [2], [1], 3⟩]⟩
def stepsG : Task := ⟨3, [0], [1], [⟨[0], [1], [0], 2⟩, ⟨[1], [2], [1], 3⟩]⟩
def wantV : Task := ⟨2, [0], [1], [⟨[0], [1], [0], 2⟩]⟩
theorem stepsV_pc : PCall Try.prog 57 [] (fun r => r = stepsV.av) := by
  (refine enterS Try.func57 Try.ntmps57 ?_)
  (repeat' (first | (refine hK _ ?_; clear hK K) | (refine aw_seq (fun K hK => ?_)) | (refine gR ?_; refine regS ?_) | (refine gE ?_; (first | (refine exN ?_) | (refine exS (fun _ => ?_)))) | (refine gQ ?_; (first | (refine condT ?_) | (refine condF ?_) | (refine condS (fun hc => ?_) (fun hc => ?_) <;> (try (first | contradiction | (exfalso; omega)))))) | (refine gW ?_; refine wopsS ?_) | (refine aw_block ?_) | (refine gX ?_; refine exitS ?_) | (refine gT ?_; refine retS ?_) | (refine gS ?_; refine skipS ?_) | (apply_assumption (exfalso := false) (symm := false))))
  (refine fin_le (Le.refl _) (rv_one (rv1_cell (by first | exact pv_load (by rfl) (by rfl) (by rfl) (by rfl) | exact pv_loadA (by rfl) (by rfl) (by rfl) (by first | decide | simp)))) (by first | rfl | (simp only [go_sem, Nat.reduceAdd, Nat.reduceMul, reduceIte, Nat.reduceEqDiff, Nat.reduceLeDiff, Int.reduceToNat, Int.reducePow, Int.reduceBEq, Int.reduceBNe, Int.reduceLT, Int.reduceLE, decide_true, decide_false])) ?_)
  rfl
theorem stepsG_f : taskFault stepsG = (0, 0) := by decide
theorem stepsG_rel : relF stepsG = [0, 1] := by
  refine (relF_eq (taskFault_ok.1 stepsG_f) (F := [0, 1]) (by decide) (by decide) (fun p hp => ?_) (by decide)).symm
  have h1 : Rel stepsG 1 := .goal (by decide)
  simp only [List.mem_cons, List.not_mem_nil, or_false] at hp
  rcases hp with rfl | rfl
  · exact .pre (o := ⟨[0], [1], [0], 2⟩) (by decide) (x := 1) (by decide) h1 (by decide)
  · exact h1
theorem stepsG_ops : relO stepsG = [0] := by
  unfold relO; rw [stepsG_rel]; decide
theorem stepsG_prune : pruneT stepsG = wantV := by
  unfold pruneT prK; rw [stepsG_ops, stepsG_rel]; decide
theorem g_facts : PCall Try.prog 16 [stepsG.av] (fun r => r = .tup [ints [0, 1], fault 0 0]) := by
  have := facts_ok stepsG stepsG_f
  rw [stepsG_rel] at this
  exact this
theorem g_prune : PCall Try.prog 17 [stepsG.av] (fun r => r = .tup [wantV.av, ints [0, 1], ints [0], fault 0 0]) := by
  have := prune_ok stepsG stepsG_f
  rw [stepsG_prune, stepsG_rel, stepsG_ops] at this
  exact this
theorem g_bad : PCall Try.prog 16 [.agg [.int (-1), .nilS, .nilS, .nilS]] (fun r => r = .tup [.nilS, fault 3 (-1)]) :=
  pcall_le (facts_bad ⟨-1, [], [], []⟩ (3, -1) (by decide) (by decide)) ⟨ALe.agg ⟨ALe.rfl' _, ALe.nil 1 8, ALe.nil 1 8, ALe.nil 4 80, trivial⟩, trivial⟩
theorem g_same : PCall Try.prog 21 [wantV.av, wantV.av] (fun r => r = .bool true) := (sameTask_pc wantV wantV).mono fun x hx => by rw [hx, decide_eq_true rfl]
theorem g_ints2 : PCall Try.prog 20 [ints [0, 1], ints [0, 1]] (fun r => r = .bool true) := (ints_pc [0, 1] [0, 1]).mono fun x hx => by rw [hx]; rfl
theorem g_ints1 : PCall Try.prog 20 [ints [0], ints [0]] (fun r => r = .bool true) := (ints_pc [0] [0]).mono fun x hx => by rw [hx]; rfl








theorem prunes_pc : PCall Try.prog 18 [] (fun r => r = .bool true) := by
  (refine enterS Try.func18 Try.ntmps18 ?_)
  (repeat' (first | (refine hK _ ?_; clear hK K) | (refine aw_seq (fun K hK => ?_)) | (refine gR ?_; refine regS ?_) | (refine gD 7 ?_; refine drS (.it 0 0 (.it 1 0 (.it 2 0 (.it 3 0 (.it 4 0 (.it 5 0 (.it 6 0 (.it 7 0 (.it 8 0 (.it 9 0 (.it 10 2 (.it 11 2 (.it 12 0 (.it 13 0 (.it 14 0 (.it 15 0 (.it 16 2 (.it 17 0 (.it 18 0 (.it 19 0 (.it 20 2 (.it 21 2 (.it 22 0 (.it 23 0 (.it 24 0 (.it 25 2 (.it 26 2 (.it 27 0 (.it 28 0 (.it 29 0 (.it 30 2 (.it 31 0 (.it 32 0 (.it 33 0 .nil)))))))))))))))))))))))))))))))))) [0, 1, 2, 3, 4, 5, 6, 7, 8, 9, 10, 11, 12, 13, 14, 15, 16, 17, 18, 19, 20, 21, 22, 23, 24, 25, 26, 27, 28, 29, 30, 31, 32, 33] ?_) | (refine gE ?_; (first | (refine exN ?_) | (refine exS (fun _ => ?_)))) | (refine gC 57 ?_; refine callS (stepsV_pc) ?_) | (refine gC 16 ?_; refine callS (g_facts) ?_) | (refine gC 16 ?_; refine callS (g_bad) ?_) | (refine gC 17 ?_; refine callS (g_prune) ?_) | (refine gCd 20 ?_; refine callD (g_ints2) ?_) | (refine gCd 20 ?_; refine callD (g_ints1) ?_) | (refine gCd 21 ?_; refine callD (g_same) ?_) | (refine gCd 28 ?_; refine callD (at_pc _ _) ?_) | (refine stk_op (fun K hK => ?_); (first | (refine aop_pv (pv_fieldAddrF (by rfl) (by rfl) (by first | decide | (simp; done) | (simp; omega))) ?_) | (refine aop_pv (pv_fieldAddrIF (by rfl) (by rfl) (by first | decide | (simp; done) | (simp; omega))) ?_))) | (refine adx_op (fun K hK => ?_); (first | (refine aopx_pv (pv_fieldAddrF (by rfl) (by rfl) (by first | decide | (simp; done) | (simp; omega))) ?_) | (refine aopx_pv (pv_fieldAddrIF (by rfl) (by rfl) (by first | decide | (simp; done) | (simp; omega))) ?_) | (refine aopx_pv (pv_eql (by rfl) (by rfl)) ?_) | (refine aopx_pv (pv_eqlB (by rfl) (by rfl)) ?_) | (refine aopx_pv (pv_eqlA (by rfl) (by rfl) (by kernel_rfl)) ?_) | (refine aopx_buildSlice (d := 49) (by exact ⟨by decide, by decide, by decide⟩) (by rfl) (by rfl) (by rfl) (by rfl) ?_) | (refine aopx_buildSlice (d := 59) (by exact ⟨by decide, by decide, by decide⟩) (by rfl) (by rfl) (by rfl) (by rfl) ?_) | (refine aopx_buildSlice (d := 64) (by exact ⟨by decide, by decide, by decide⟩) (by rfl) (by rfl) (by rfl) (by rfl) ?_))) | (refine And.intro ?_ ?_) | (refine gDx ?_; refine adxS ?_) | (refine gQ ?_; (first | (refine condT ?_) | (refine condF ?_) | (refine condS (fun hc => ?_) (fun hc => ?_) <;> (try (first | contradiction | (exfalso; omega)))))) | (refine gGd ?_; refine guardD (fun hc => ?_) (fun hc => ?_) <;> (try (first | contradiction | (exfalso; omega)))) | (refine gW ?_; refine wopsS ?_) | (refine gWd ?_; refine wdrS ?_) | (refine aw_block ?_) | (refine gX ?_; refine exitS ?_) | (refine gT ?_; refine retS ?_) | (refine gS ?_; refine skipS ?_) | (apply_assumption (exfalso := false) (symm := false))))
  (refine fin_le (Le.refl _) (rv_one (rv1_tmp (by rfl))) (by first | rfl | (simp only [go_sem, Nat.reduceAdd, Nat.reduceMul, reduceIte, Nat.reduceEqDiff, Nat.reduceLeDiff, Int.reduceToNat, Int.reducePow, Int.reduceBEq, Int.reduceBNe, Int.reduceLT, Int.reduceLE, decide_true, decide_false])) ?_)
  rfl


/-! the law of relevance -/
theorem ref_at {t : Task} {p : Int × Int} (e : taskFault t = p) : PCall Try.prog 15 [t.av] (fun r => r = faultP p) := by
  have := taskFault_pc t
  rw [e] at this
  exact this
@[go_sem] theorem zeroT_factsV : zeroT.facts = 0 := rfl
theorem sameV (t : Task) : PCall Try.prog 21 [t.av, t.av] (fun r => r = .bool true) := (sameTask_pc t t).mono fun x hx => by rw [hx, decide_eq_true rfl]
theorem intsV (x : List Int) : PCall Try.prog 20 [ints x, ints x] (fun r => r = .bool true) := (ints_pc x x).mono fun y hy => by rw [hy, decide_eq_true rfl]



theorem relevanceLaw_pc (t : Task) : PCall Try.prog 3 [t.av] (fun r => r = .bool true) := by
  by_cases h : taskFault t = (0, 0)
  · have hw := taskFault_ok.1 h
    have hf := h
    
    
    
    (refine enterS Try.func3 Try.ntmps3 ?_)
    (repeat' (first | (refine hK _ ?_; clear hK K) | (refine aw_seq (fun K hK => ?_)) | (refine gR ?_; refine regS ?_) | (refine gE ?_; (first | (refine exN ?_) | (refine exS (fun _ => ?_)))) | (refine gC 15 ?_; refine callS (ref_at hf) ?_) | (refine gC 16 ?_; refine callS (facts_ok _ hf) ?_) | (refine gC 17 ?_; refine callS (prune_ok _ hf) ?_) | (refine gC 18 ?_; refine callS (prunes_pc) ?_) | (refine gC 19 ?_; refine callS (prunedOf_pc _ hw) ?_) | (refine gC 20 ?_; refine callS (intsV _) ?_) | (refine gC 21 ?_; refine callS (sameV _) ?_) | (refine stk_op (fun K hK => ?_); (first | (refine aop_pv (pv_neq (by rfl) (by rfl)) ?_) | (refine aop_pv (pv_neqB (by rfl) (by rfl)) ?_) | (refine aop_pv (pv_neqA (by rfl) (by rfl) (by kernel_rfl)) ?_) | (refine aop_pv (pv_fieldAddrF (by rfl) (by rfl) (by first | decide | (simp; done) | (simp; omega))) ?_) | (refine aop_pv (pv_fieldAddrIF (by rfl) (by rfl) (by first | decide | (simp; done) | (simp; omega))) ?_) | (refine aop_pv (pv_eql (by rfl) (by rfl)) ?_) | (refine aop_pv (pv_eqlB (by rfl) (by rfl)) ?_) | (refine aop_pv (pv_eqlA (by rfl) (by rfl) (by kernel_rfl)) ?_))) | (refine gQ ?_; (first | (refine condT ?_) | (refine condF ?_) | (refine condS (fun hc => ?_) (fun hc => ?_) <;> (try (first | contradiction | (exfalso; omega)))))) | (refine gG ?_; refine guardS (fun hc => ?_) (fun hc => ?_) <;> (try (first | contradiction | (exfalso; omega)))) | (refine gW ?_; refine wopsS ?_) | (refine aw_block ?_) | (refine gX ?_; refine exitS ?_) | (refine gT ?_; refine retS ?_) | (refine gS ?_; refine skipS ?_) | (apply_assumption (exfalso := false) (symm := false))))
    all_goals (refine fin_le (Le.refl _) (rv_one (rv1_tmp (by rfl))) (by first | rfl | (simp only [go_sem, Nat.reduceAdd, Nat.reduceMul, reduceIte, Nat.reduceEqDiff, Nat.reduceLeDiff, Int.reduceToNat, Int.reducePow, Int.reduceBEq, Int.reduceBNe, Int.reduceLT, Int.reduceLE, decide_true, decide_false])) ?_)
    all_goals first | rfl | simp
  · have hac := tf_code h
    obtain ⟨p, hf⟩ : ∃ p, taskFault t = p := ⟨_, rfl⟩
    rw [hf] at hac
    
    
    
    (refine enterS Try.func3 Try.ntmps3 ?_)
    (repeat' (first | (refine hK _ ?_; clear hK K) | (refine aw_seq (fun K hK => ?_)) | (refine gR ?_; refine regS ?_) | (refine gE ?_; (first | (refine exN ?_) | (refine exS (fun _ => ?_)))) | (refine gC 15 ?_; refine callS (ref_at hf) ?_) | (refine gC 16 ?_; refine callS (facts_bad _ _ hf hac) ?_) | (refine gC 17 ?_; refine callS (prune_bad _ _ hf hac) ?_) | (refine gC 18 ?_; refine callS (prunes_pc) ?_) | (refine gC 20 ?_; refine callS (intsV _) ?_) | (refine gC 21 ?_; refine callS (sameV _) ?_) | (refine stk_op (fun K hK => ?_); (first | (refine aop_pv (pv_neq (by rfl) (by rfl)) ?_) | (refine aop_pv (pv_neqB (by rfl) (by rfl)) ?_) | (refine aop_pv (pv_neqA (by rfl) (by rfl) (by kernel_rfl)) ?_) | (refine aop_pv (pv_fieldAddrF (by rfl) (by rfl) (by first | decide | (simp; done) | (simp; omega))) ?_) | (refine aop_pv (pv_fieldAddrIF (by rfl) (by rfl) (by first | decide | (simp; done) | (simp; omega))) ?_) | (refine aop_pv (pv_eql (by rfl) (by rfl)) ?_) | (refine aop_pv (pv_eqlB (by rfl) (by rfl)) ?_) | (refine aop_pv (pv_eqlA (by rfl) (by rfl) (by kernel_rfl)) ?_))) | (refine gQ ?_; (first | (refine condT ?_) | (refine condF ?_) | (refine condS (fun hc => ?_) (fun hc => ?_) <;> (try (first | contradiction | (exfalso; omega)))))) | (refine gG ?_; refine guardS (fun hc => ?_) (fun hc => ?_) <;> (try (first | contradiction | (exfalso; omega)))) | (refine gW ?_; refine wopsS ?_) | (refine aw_block ?_) | (refine gX ?_; refine exitS ?_) | (refine gT ?_; refine retS ?_) | (refine gS ?_; refine skipS ?_) | (apply_assumption (exfalso := false) (symm := false))))
    all_goals (refine fin_le (Le.refl _) (rv_one (rv1_tmp (by rfl))) (by first | rfl | (simp only [go_sem, Nat.reduceAdd, Nat.reduceMul, reduceIte, Nat.reduceEqDiff, Nat.reduceLeDiff, Int.reduceToNat, Int.reducePow, Int.reduceBEq, Int.reduceBNe, Int.reduceLT, Int.reduceLE, decide_true, decide_false])) ?_)
    all_goals first | rfl | simp

end Go.Proofs.Ythndlimdehfneaa
