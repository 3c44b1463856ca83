import Derived.Test.YthndlimdehfneaaRvi
import Derived.Test.YthndlimdehfneaaSto




namespace Go.Proofs.Ythndlimdehfneaa
open Go.Ab
open Go
set_option linter.unusedSimpArgs false
set_option linter.unusedVariables false
set_option maxRecDepth 10000
attribute [local irreducible] PV AOp AOps AW PCall OCall MCall WCall Ab.Fin OFin OFin2 MFin RV RV1 Le AStk AGrd ADr ADx ADo AOpX AAny
set_option maxHeartbeats 4000000
attribute [local go_sem] cast_0R
/-! leaving out the steps of a solution that are not relevant leaves a solution -/
theorem skip_works {t : Task} (hw : WfT t) : ∀ (plan : List Int) (s u : List Int), InOps t plan → (∀ p ∈ relF t, p ∈ s → p ∈ u) → WorksT t s (natP plan) → WorksT t u (natP (plan.filter (hasB (relO t))))
  | [], s, u, hin, h, hs => by
    obtain ⟨e, h1, h2⟩ := hs
    obtain rfl : s = e := by simpa [natP, endsT] using h1
    refine ⟨u, rfl, subB_iff.2 fun x hx => h x ((relF_mem hw).2 (.goal hx)) (subB_iff.1 h2 x hx)⟩
  | x :: r, s, u, hin, h, hs => by
    have hb := hin x (by simp)
    have hr : InOps t r := fun y hy => hin y (by simp [hy])
    have hlt : x.toNat < t.ops.length := by omega
    obtain ⟨o, h1, h2, h3⟩ := works_cons.1 (show WorksT t s (x.toNat :: natP r) from hs)
    rw [List.getElem?_eq_getElem hlt] at h1
    obtain rfl := Option.some.inj h1
    cases hx : hasB (relO t) x with
    | true =>
      rw [List.filter_cons_of_pos hx]
      rw [hasB_t] at hx
      obtain ⟨_, hm⟩ := relO_mem.1 hx
      rw [getBang hlt] at hm
      obtain ⟨y, hy1, hy2⟩ := meetB_iff.1 hm
      refine works_cons.2 ⟨t.ops[x.toNat], List.getElem?_eq_getElem hlt, subB_iff.2 fun p hp => ?_, ?_⟩
      · exact h p ((relF_mem hw).2 (.pre (List.getElem_mem hlt) hy1 ((relF_mem hw).1 hy2) hp)) (subB_iff.1 h2 p hp)
      · refine skip_works hw r _ _ hr (fun p hp hps => ?_) h3
        rw [aft_mem] at hps ⊢
        exact ⟨hps.1, hps.2.imp id fun hq => ⟨h p hp hq.1, hq.2⟩⟩
    | false =>
      rw [List.filter_cons_of_neg (by rw [hx]; simp)]
      rw [hasB_f] at hx
      refine skip_works hw r _ _ hr (fun p hp hps => ?_) h3
      rw [aft_mem] at hps
      rcases hps.2 with hq | hq
      · exact absurd (relO_mem.2 ⟨hb, by rw [getBang hlt]; exact meetB_iff.2 ⟨p, hq, hp⟩⟩) hx
      · exact h p hp hq.1
noncomputable def skipK (t : Task) (plan : List Int) (k : Nat) : List Int := (plan.take k).filter (hasB (relO t))
theorem skipK_zero {t : Task} {plan : List Int} : skipK t plan 0 = [] := by simp [skipK]
theorem skipK_yes {t : Task} {plan : List Int} {k : Nat} (hk : k < plan.length) (h : hasB (relO t) plan[k] = true) : skipK t plan (k + 1) = skipK t plan k ++ [plan[k]] := by
  rw [skipK, List.take_succ_eq_append_getElem hk, List.filter_append, List.filter_cons_of_pos h]; rfl
theorem skipK_no {t : Task} {plan : List Int} {k : Nat} (hk : k < plan.length) (h : hasB (relO t) plan[k] = false) : skipK t plan (k + 1) = skipK t plan k := by
  rw [skipK, List.take_succ_eq_append_getElem hk, List.filter_append, List.filter_cons_of_neg (by rw [h]; simp)]; simp [skipK]
theorem skipK_len {t : Task} {plan : List Int} {k : Nat} : (skipK t plan k).length ≤ k := by
  unfold skipK
  have h1 := List.length_filter_le (hasB (relO t)) (plan.take k)
  have h2 := List.length_take_le k plan
  omega
theorem skip_solves {t : Task} {plan : List Int} (h : planF t plan = (0, 0)) (hs : worksB t t.init (natP plan) = true) : solvesOf t (skipK t plan plan.length) = (true, (0, 0)) := by
  obtain ⟨hw, h60, hin⟩ := planF_in.1 h
  have hl := skipK_len (t := t) (plan := plan) (k := plan.length)
  have hq : skipK t plan plan.length = plan.filter (hasB (relO t)) := by rw [skipK, List.take_length]
  have hin2 : InOps t (skipK t plan plan.length) := fun x hx => by
    rw [hq, List.mem_filter] at hx
    exact hin x hx.1
  rw [solvesOf_ok (planF_in.2 ⟨hw, by omega, hin2⟩)]
  have := skip_works hw plan t.init t.init hin (fun _ _ h => h) (worksB_iff.1 hs)
  rw [hq, worksB_iff.2 this]

theorem skipLaw_pc (t : Task) (plan : List Int) : PCall Try.prog 6 [t.av, ints plan] (fun r => r = .bool true) := by
  by_cases hf : taskFault t = (0, 0)
  · have hw := taskFault_ok.1 hf
    
    by_cases hp : planF t plan = (0, 0)
    · obtain ⟨_, h60, hin⟩ := planF_in.1 hp
      have e2 := solvesOf_ok hp
      cases hB : worksB t t.init (natP plan) with
      | true =>
        rw [hB] at e2
        have e3 := skip_solves hp hB
        
        (refine enterS Try.func6 Try.ntmps6 ?_)
        (repeat' (first | (refine hK _ ?_; clear hK K) | (refine aw_seq (fun K hK => ?_)) | (refine gR ?_; refine regS ?_) | (refine gE ?_; (first | (refine exN ?_) | (refine exS (fun _ => ?_)))) | (refine gC 17 ?_; refine callS (prune_ok t hf) ?_) | (refine gC 24 ?_; refine callS (solves_at e2) ?_) | (refine gC 18 ?_; refine callS (prunes_pc) ?_) | (refine gC 26 ?_; refine callS (has_pc _ _) ?_) | (refine stk_op (fun K hK => ?_); (first | (refine aop_pv (pv_fieldAddrF (by rfl) (by rfl) (by first | decide | (simp; done) | (simp; omega))) ?_) | (refine aop_pv (pv_fieldAddrIF (by rfl) (by rfl) (by first | decide | (simp; done) | (simp; omega))) ?_) | (refine aop_pv (pv_neq (by rfl) (by rfl)) ?_) | (refine aop_pv (pv_neqB (by rfl) (by rfl)) ?_) | (refine aop_pv (pv_neqA (by rfl) (by rfl) (by kernel_rfl)) ?_) | (refine aop_pv (pv_eql (by rfl) (by rfl)) ?_) | (refine aop_pv (pv_eqlB (by rfl) (by rfl)) ?_) | (refine aop_pv (pv_eqlA (by rfl) (by rfl) (by kernel_rfl)) ?_) | (refine appendS ?_) | (refine virtS 66 72 1 8 3 ?_; refine appendS ?_))) | (refine gQ ?_; (first | (refine condT ?_) | (refine condF ?_) | (refine condS (fun hc => ?_) (fun hc => ?_) <;> (try (first | contradiction | (exfalso; omega)))))) | (refine gG ?_; refine guardS (fun hc => ?_) (fun hc => ?_) <;> (try (first | contradiction | (exfalso; omega)))) | (refine gW ?_; refine wopsS ?_) | (refine aw_block ?_) | (refine gX ?_; refine exitS ?_) | (refine gT ?_; refine retS ?_) | (refine gS ?_; refine skipS ?_) | (apply_assumption (exfalso := false) (symm := false))))
        (refine awVirt 11 100 1 8 3 ?_)
        refine aw_loop_at [11, 12, 54, 55, 56, 57, 58, 59, 60, 61, 62, 63, 64, 65, 66, 67, 68, 69, 70, 71, 72] (fun k : Nat => k ≤ plan.length) (fun k => plan.length - k) (fun k => [(12, .int k), (11, .sl 1 8 100 0 (skipK t plan k).length)]) (fun k => [(2, ⟨25, t.cs, true⟩), (100, ⟨3, (skipK t plan k).map AV.int, false⟩)]) 0 (by omega) ?_ ?_
        · rw [skipK_zero]
          (simp only [sets, havoc, go_sem, Nat.reduceAdd, Nat.reduceMul, reduceIte, Nat.reduceEqDiff, Nat.reduceLeDiff, Int.reduceToNat, Int.reducePow, Int.reduceBEq, Int.reduceBNe, Int.reduceLT, Int.reduceLE, decide_true, decide_false])
          (exact weakS)
        · rintro k hk K hK
          (simp only [sets, havoc, go_sem, Nat.reduceAdd, Nat.reduceMul, reduceIte, Nat.reduceEqDiff, Nat.reduceLeDiff, Int.reduceToNat, Int.reducePow, Int.reduceBEq, Int.reduceBNe, Int.reduceLT, Int.reduceLE, decide_true, decide_false])
          have hrl := skipK_len (t := t) (plan := plan) (k := k)
          by_cases hlt : k < plan.length
          · (repeat' (first | (refine hK _ ?_; clear hK K) | (refine aw_seq (fun K hK => ?_)) | (refine gR ?_; refine regS ?_) | (refine gE ?_; (first | (refine exN ?_) | (refine exS (fun _ => ?_)))) | (refine gC 17 ?_; refine callS (prune_ok t hf) ?_) | (refine gC 24 ?_; refine callS (solves_at e2) ?_) | (refine gC 18 ?_; refine callS (prunes_pc) ?_) | (refine gC 26 ?_; refine callS (has_pc _ _) ?_) | (refine stk_op (fun K hK => ?_); (first | (refine aop_pv (pv_fieldAddrF (by rfl) (by rfl) (by first | decide | (simp; done) | (simp; omega))) ?_) | (refine aop_pv (pv_fieldAddrIF (by rfl) (by rfl) (by first | decide | (simp; done) | (simp; omega))) ?_) | (refine aop_pv (pv_neq (by rfl) (by rfl)) ?_) | (refine aop_pv (pv_neqB (by rfl) (by rfl)) ?_) | (refine aop_pv (pv_neqA (by rfl) (by rfl) (by kernel_rfl)) ?_) | (refine aop_pv (pv_eql (by rfl) (by rfl)) ?_) | (refine aop_pv (pv_eqlB (by rfl) (by rfl)) ?_) | (refine aop_pv (pv_eqlA (by rfl) (by rfl) (by kernel_rfl)) ?_) | (refine appendS ?_) | (refine virtS 66 72 1 8 3 ?_; refine appendS ?_))) | (refine gQ ?_; (first | (refine condT ?_) | (refine condF ?_) | (refine condS (fun hc => ?_) (fun hc => ?_) <;> (try (first | contradiction | (exfalso; omega)))))) | (refine gG ?_; refine guardS (fun hc => ?_) (fun hc => ?_) <;> (try (first | contradiction | (exfalso; omega)))) | (refine gW ?_; refine wopsS ?_) | (refine aw_block ?_) | (refine gX ?_; refine exitS ?_) | (refine gT ?_; refine retS ?_) | (refine gS ?_; refine skipS ?_) | (apply_assumption (exfalso := false) (symm := false))))
            · refine ⟨k + 1, by omega, by omega, ?_⟩
              rw [skipK_yes hlt (by assumption)]
              (simp only [sets, havoc, go_sem, Nat.reduceAdd, Nat.reduceMul, reduceIte, Nat.reduceEqDiff, Nat.reduceLeDiff, Int.reduceToNat, Int.reducePow, Int.reduceBEq, Int.reduceBNe, Int.reduceLT, Int.reduceLE, decide_true, decide_false])
              (exact weakS)
            · refine ⟨k + 1, by omega, by omega, ?_⟩
              rw [skipK_no hlt (by assumption)]
              (simp only [sets, havoc, go_sem, Nat.reduceAdd, Nat.reduceMul, reduceIte, Nat.reduceEqDiff, Nat.reduceLeDiff, Int.reduceToNat, Int.reducePow, Int.reduceBEq, Int.reduceBNe, Int.reduceLT, Int.reduceLE, decide_true, decide_false])
              (exact weakS)
          · obtain rfl : k = plan.length := by omega
            generalize skipK t plan plan.length = m at *
            
            (repeat' (first | (refine hK _ ?_; clear hK K) | (refine aw_seq (fun K hK => ?_)) | (refine gR ?_; refine regS ?_) | (refine gE ?_; (first | (refine exN ?_) | (refine exS (fun _ => ?_)))) | (refine gC 17 ?_; refine callS (prune_ok t hf) ?_) | (refine gC 24 ?_; refine callS (solves_at e2) ?_) | (refine gC 18 ?_; refine callS (prunes_pc) ?_) | (refine gC 26 ?_; refine callS (has_pc _ _) ?_) | (refine stk_op (fun K hK => ?_); (first | ((refine aop_callB (le_sealMap (f := AV.int) 100 8 m.length m (by rfl) (by first | rfl | assumption | simp) (fun _ => rfl) (fun _ => rfl)) (by first | (simp only [go_sem, Nat.reduceAdd, Nat.reduceMul, reduceIte, Nat.reduceEqDiff, Nat.reduceLeDiff, Int.reduceToNat, Int.reducePow, Int.reduceBEq, Int.reduceBNe, Int.reduceLT, Int.reduceLE, decide_true, decide_false, AV.sealSL, sealS_any, sealS_v, sealS_isl, sealS_iptr, sealS_ptr, sealS_sl, sealS_agg, sealS_tup, sealS_fn, purge_agg, purge_tup, purge_fn, and_self, AV.mentL, AV.ment, Bool.or_self]; done) | (simp only [go_sem, Nat.reduceAdd, Nat.reduceMul, reduceIte, Nat.reduceEqDiff, Nat.reduceLeDiff, Int.reduceToNat, Int.reducePow, Int.reduceBEq, Int.reduceBNe, Int.reduceLT, Int.reduceLE, decide_true, decide_false, AV.sealSL, sealS_any, sealS_v, sealS_isl, sealS_iptr, sealS_ptr, sealS_sl, sealS_agg, sealS_tup, sealS_fn, purge_agg, purge_tup, purge_fn, and_self, AV.mentL, AV.ment, Bool.or_self]; rfl)) (solves_at e3) (by rfl) (fun x hx => ?_); obtain rfl := hx; refine ⟨rfl, ?_⟩)) | (refine aop_pv (pv_fieldAddrF (by rfl) (by rfl) (by first | decide | (simp; done) | (simp; omega))) ?_) | (refine aop_pv (pv_fieldAddrIF (by rfl) (by rfl) (by first | decide | (simp; done) | (simp; omega))) ?_) | (refine aop_pv (pv_neq (by rfl) (by rfl)) ?_) | (refine aop_pv (pv_neqB (by rfl) (by rfl)) ?_) | (refine aop_pv (pv_neqA (by rfl) (by rfl) (by kernel_rfl)) ?_) | (refine aop_pv (pv_eql (by rfl) (by rfl)) ?_) | (refine aop_pv (pv_eqlB (by rfl) (by rfl)) ?_) | (refine aop_pv (pv_eqlA (by rfl) (by rfl) (by kernel_rfl)) ?_) | (refine appendS ?_) | (refine virtS 66 72 1 8 3 ?_; refine appendS ?_))) | (refine gQ ?_; (first | (refine condT ?_) | (refine condF ?_) | (refine condS (fun hc => ?_) (fun hc => ?_) <;> (try (first | contradiction | (exfalso; omega)))))) | (refine gG ?_; refine guardS (fun hc => ?_) (fun hc => ?_) <;> (try (first | contradiction | (exfalso; omega)))) | (refine gW ?_; refine wopsS ?_) | (refine aw_block ?_) | (refine gX ?_; refine exitS ?_) | (refine gT ?_; refine retS ?_) | (refine gS ?_; refine skipS ?_) | (apply_assumption (exfalso := false) (symm := false))))
            
            all_goals (refine fin_le (Le.refl _) (rv_one (rv1_tmp (by rfl))) (by first | rfl | (simp only [go_sem, Nat.reduceAdd, Nat.reduceMul, reduceIte, Nat.reduceEqDiff, Nat.reduceLeDiff, Int.reduceToNat, Int.reducePow, Int.reduceBEq, Int.reduceBNe, Int.reduceLT, Int.reduceLE, decide_true, decide_false])) ?_)
            all_goals first | rfl | simp
      | false =>
        rw [hB] at e2
        
        
        (refine enterS Try.func6 Try.ntmps6 ?_)
        (repeat' (first | (refine hK _ ?_; clear hK K) | (refine aw_seq (fun K hK => ?_)) | (refine gR ?_; refine regS ?_) | (refine gE ?_; (first | (refine exN ?_) | (refine exS (fun _ => ?_)))) | (refine gC 17 ?_; refine callS (prune_ok t hf) ?_) | (refine gC 24 ?_; refine callS (solves_at e2) ?_) | (refine gC 18 ?_; refine callS (prunes_pc) ?_) | (refine gC 26 ?_; refine callS (has_pc _ _) ?_) | (refine stk_op (fun K hK => ?_); (first | (refine aop_pv (pv_fieldAddrF (by rfl) (by rfl) (by first | decide | (simp; done) | (simp; omega))) ?_) | (refine aop_pv (pv_fieldAddrIF (by rfl) (by rfl) (by first | decide | (simp; done) | (simp; omega))) ?_) | (refine aop_pv (pv_neq (by rfl) (by rfl)) ?_) | (refine aop_pv (pv_neqB (by rfl) (by rfl)) ?_) | (refine aop_pv (pv_neqA (by rfl) (by rfl) (by kernel_rfl)) ?_) | (refine aop_pv (pv_eql (by rfl) (by rfl)) ?_) | (refine aop_pv (pv_eqlB (by rfl) (by rfl)) ?_) | (refine aop_pv (pv_eqlA (by rfl) (by rfl) (by kernel_rfl)) ?_) | (refine appendS ?_) | (refine virtS 66 72 1 8 3 ?_; refine appendS ?_))) | (refine gQ ?_; (first | (refine condT ?_) | (refine condF ?_) | (refine condS (fun hc => ?_) (fun hc => ?_) <;> (try (first | contradiction | (exfalso; omega)))))) | (refine gG ?_; refine guardS (fun hc => ?_) (fun hc => ?_) <;> (try (first | contradiction | (exfalso; omega)))) | (refine gW ?_; refine wopsS ?_) | (refine aw_block ?_) | (refine gX ?_; refine exitS ?_) | (refine gT ?_; refine retS ?_) | (refine gS ?_; refine skipS ?_) | (apply_assumption (exfalso := false) (symm := false))))
        all_goals (refine fin_le (Le.refl _) (rv_one (rv1_tmp (by rfl))) (by first | rfl | (simp only [go_sem, Nat.reduceAdd, Nat.reduceMul, reduceIte, Nat.reduceEqDiff, Nat.reduceLeDiff, Int.reduceToNat, Int.reducePow, Int.reduceBEq, Int.reduceBNe, Int.reduceLT, Int.reduceLE, decide_true, decide_false])) ?_)
        all_goals first | rfl | simp
    · have hpc := planF_code hp
      have e2 := solvesOf_bad hp
      generalize planF t plan = p at *
      (refine enterS Try.func6 Try.ntmps6 ?_)
      (repeat' (first | (refine hK _ ?_; clear hK K) | (refine aw_seq (fun K hK => ?_)) | (refine gR ?_; refine regS ?_) | (refine gE ?_; (first | (refine exN ?_) | (refine exS (fun _ => ?_)))) | (refine gC 17 ?_; refine callS (prune_ok t hf) ?_) | (refine gC 24 ?_; refine callS (solves_at e2) ?_) | (refine gC 18 ?_; refine callS (prunes_pc) ?_) | (refine gC 26 ?_; refine callS (has_pc _ _) ?_) | (refine stk_op (fun K hK => ?_); (first | (refine aop_pv (pv_fieldAddrF (by rfl) (by rfl) (by first | decide | (simp; done) | (simp; omega))) ?_) | (refine aop_pv (pv_fieldAddrIF (by rfl) (by rfl) (by first | decide | (simp; done) | (simp; omega))) ?_) | (refine aop_pv (pv_neq (by rfl) (by rfl)) ?_) | (refine aop_pv (pv_neqB (by rfl) (by rfl)) ?_) | (refine aop_pv (pv_neqA (by rfl) (by rfl) (by kernel_rfl)) ?_) | (refine aop_pv (pv_eql (by rfl) (by rfl)) ?_) | (refine aop_pv (pv_eqlB (by rfl) (by rfl)) ?_) | (refine aop_pv (pv_eqlA (by rfl) (by rfl) (by kernel_rfl)) ?_) | (refine appendS ?_) | (refine virtS 66 72 1 8 3 ?_; refine appendS ?_))) | (refine gQ ?_; (first | (refine condT ?_) | (refine condF ?_) | (refine condS (fun hc => ?_) (fun hc => ?_) <;> (try (first | contradiction | (exfalso; omega)))))) | (refine gG ?_; refine guardS (fun hc => ?_) (fun hc => ?_) <;> (try (first | contradiction | (exfalso; omega)))) | (refine gW ?_; refine wopsS ?_) | (refine aw_block ?_) | (refine gX ?_; refine exitS ?_) | (refine gT ?_; refine retS ?_) | (refine gS ?_; refine skipS ?_) | (apply_assumption (exfalso := false) (symm := false))))
      all_goals (refine fin_le (Le.refl _) (rv_one (rv1_tmp (by rfl))) (by first | rfl | (simp only [go_sem, Nat.reduceAdd, Nat.reduceMul, reduceIte, Nat.reduceEqDiff, Nat.reduceLeDiff, Int.reduceToNat, Int.reducePow, Int.reduceBEq, Int.reduceBNe, Int.reduceLT, Int.reduceLE, decide_true, decide_false])) ?_)
      all_goals first | rfl | simp
  · have hac := tf_code hf
    have e2 := solvesOf_bad (plan := plan) (by rw [planF_bad hf]; exact hf)
    rw [planF_bad hf] at e2
    obtain ⟨p, hfp⟩ : ∃ p, taskFault t = p := ⟨_, rfl⟩
    rw [hfp] at hac e2
    
    
    (refine enterS Try.func6 Try.ntmps6 ?_)
    (repeat' (first | (refine hK _ ?_; clear hK K) | (refine aw_seq (fun K hK => ?_)) | (refine gR ?_; refine regS ?_) | (refine gE ?_; (first | (refine exN ?_) | (refine exS (fun _ => ?_)))) | (refine gC 17 ?_; refine callS (prune_bad t p hfp hac) ?_) | (refine gC 24 ?_; refine callS (solves_at e2) ?_) | (refine gC 18 ?_; refine callS (prunes_pc) ?_) | (refine gC 26 ?_; refine callS (has_pc _ _) ?_) | (refine stk_op (fun K hK => ?_); (first | (refine aop_pv (pv_fieldAddrF (by rfl) (by rfl) (by first | decide | (simp; done) | (simp; omega))) ?_) | (refine aop_pv (pv_fieldAddrIF (by rfl) (by rfl) (by first | decide | (simp; done) | (simp; omega))) ?_) | (refine aop_pv (pv_neq (by rfl) (by rfl)) ?_) | (refine aop_pv (pv_neqB (by rfl) (by rfl)) ?_) | (refine aop_pv (pv_neqA (by rfl) (by rfl) (by kernel_rfl)) ?_) | (refine aop_pv (pv_eql (by rfl) (by rfl)) ?_) | (refine aop_pv (pv_eqlB (by rfl) (by rfl)) ?_) | (refine aop_pv (pv_eqlA (by rfl) (by rfl) (by kernel_rfl)) ?_) | (refine appendS ?_) | (refine virtS 66 72 1 8 3 ?_; refine appendS ?_))) | (refine gQ ?_; (first | (refine condT ?_) | (refine condF ?_) | (refine condS (fun hc => ?_) (fun hc => ?_) <;> (try (first | contradiction | (exfalso; omega)))))) | (refine gG ?_; refine guardS (fun hc => ?_) (fun hc => ?_) <;> (try (first | contradiction | (exfalso; omega)))) | (refine gW ?_; refine wopsS ?_) | (refine aw_block ?_) | (refine gX ?_; refine exitS ?_) | (refine gT ?_; refine retS ?_) | (refine gS ?_; refine skipS ?_) | (apply_assumption (exfalso := false) (symm := false))))
    all_goals (refine fin_le (Le.refl _) (rv_one (rv1_tmp (by rfl))) (by first | rfl | (simp only [go_sem, Nat.reduceAdd, Nat.reduceMul, reduceIte, Nat.reduceEqDiff, Nat.reduceLeDiff, Int.reduceToNat, Int.reducePow, Int.reduceBEq, Int.reduceBNe, Int.reduceLT, Int.reduceLE, decide_true, decide_false])) ?_)
    all_goals first | rfl | simp

end Go.Proofs.Ythndlimdehfneaa
