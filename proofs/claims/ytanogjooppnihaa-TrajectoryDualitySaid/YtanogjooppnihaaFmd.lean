import Derived.Test.YtanogjooppnihaaFmk


namespace Go.Proofs.Ytanogjooppnihaa
open Go.Ab
open Go
set_option linter.unusedSimpArgs false
set_option linter.unusedVariables false
set_option maxRecDepth 10000
attribute [local irreducible] PV AOp AOps AW PCall OCall MCall WCall HCall Ab.Fin OFin OFin2 MFin HFin RV RV1 Le AStk AGrd ADr ADx ADo AOpX AAny AOpsI wops wdr wgd wdt
set_option maxHeartbeats 4000000
/-! from all states on, and not from some state on -/
def wrapN (l : List FNode) (k : Int) : List FNode := l ++ [⟨k, [(l.length : Int) - 1], 0⟩]
theorem wrapN_len (l : List FNode) (k : Int) : (wrapN l k).length = l.length + 1 := by simp [wrapN]
theorem wrapped_pc (l : List FNode) (k : Int) (h : l.length ≤ 60) : PCall Try.prog 17 [formA l, .int k] (fun r => r = formA (wrapN l k)) := by
  (refine enterS Try.func17 Try.ntmps17 ?_)
  (repeat' (first | (refine hK _ ?_; clear hK K) | (refine aw_seq (fun K hK => ?_)) | (refine gRx 2 (by rfl) ?_; refine regS ?_) | (refine stk_op (fun K hK => ?_); (first | (refine aop_pv (pv_fieldAddrF (by rfl) (by rfl) (by first | decide | (simp; done) | (simp; omega))) ?_) | (refine aop_pv (pv_fieldAddrIF (by rfl) (by rfl) (by first | decide | (simp; done) | (simp; omega))) ?_) | (refine appendS ?_) | (refine virtS 6 9 3 40 48 ?_; refine appendS ?_) | (refine virtS 10 18 3 40 48 ?_; refine appendS ?_))) | (refine gE ?_; (first | (refine exN ?_) | (refine exS (fun _ => ?_)))) | (refine gQ ?_; (first | (refine condT ?_) | (refine condF ?_) | (refine condS (fun hc => ?_) (fun hc => ?_) <;> (try (first | contradiction | (exfalso; omega)))))) | (refine gW ?_; refine wopsS ?_) | (refine aw_block ?_) | (refine gX ?_; refine exitS ?_) | (refine gT ?_; refine retS ?_) | (refine gS ?_; refine skipS ?_) | (apply_assumption (exfalso := false) (symm := false))))
  (refine awVirt 5 100 3 40 48 ?_)
  (repeat' (first | (refine hK _ ?_; clear hK K) | (refine aw_seq (fun K hK => ?_)) | (refine gR ?_; refine regS ?_) | (refine stk_op (fun K hK => ?_); (first | (refine aop_pv (pv_fieldAddrF (by rfl) (by rfl) (by first | decide | (simp; done) | (simp; omega))) ?_) | (refine aop_pv (pv_fieldAddrIF (by rfl) (by rfl) (by first | decide | (simp; done) | (simp; omega))) ?_) | (refine appendS ?_) | (refine virtS 6 9 3 40 48 ?_; refine appendS ?_) | (refine virtS 10 18 3 40 48 ?_; refine appendS ?_))) | (refine gE ?_; (first | (refine exN ?_) | (refine exS (fun _ => ?_)))) | (refine gQ ?_; (first | (refine condT ?_) | (refine condF ?_) | (refine condS (fun hc => ?_) (fun hc => ?_) <;> (try (first | contradiction | (exfalso; omega)))))) | (refine gW ?_; refine wopsS ?_) | (refine aw_block ?_) | (refine gX ?_; refine exitS ?_) | (refine gT ?_; refine retS ?_) | (refine gS ?_; refine skipS ?_) | (apply_assumption (exfalso := false) (symm := false))))
  refine finStep (le_sealDM (f := FNode.av) 100 3 40 (l.length + 1) (wrapN l k) (by rfl) (by rw [fnc_flat, wrapN, fnc_app]; rfl) (wrapN_len l k) (fun _ => rfl) (fun _ => rfl) (by omega)) ?_
  simp only [go_sem, Nat.reduceAdd, Nat.reduceMul, reduceIte, Nat.reduceEqDiff, Nat.reduceLeDiff, Int.reduceToNat, Int.reducePow, Int.reduceBEq, Int.reduceBNe, Int.reduceLT, Int.reduceLE, decide_true, decide_false]
  (refine fin_le (Le.refl _) (rv_one (rv1_cell (by first | exact pv_load (by rfl) (by rfl) (by rfl) (by rfl) | exact pv_loadA (by rfl) (by rfl) (by rfl) (by first | decide | simp)))) (by first | rfl | (simp only [go_sem, Nat.reduceAdd, Nat.reduceMul, reduceIte, Nat.reduceEqDiff, Nat.reduceLeDiff, Int.reduceToNat, Int.reducePow, Int.reduceBEq, Int.reduceBNe, Int.reduceLT, Int.reduceLE, decide_true, decide_false])) ?_)
  rfl

theorem get_app {l r : List FNode} {i : Nat} (h : i < l.length) : (l ++ r)[i]! = l[i]! := by
  rw [List.getElem!_eq_getElem?_getD, List.getElem!_eq_getElem?_getD, List.getElem?_append_left h]
theorem runF_app {facts : Int} {l r : List FNode} : ∀ k, k ≤ l.length → runF facts (l ++ r) k = runF facts l k
  | 0, _ => rfl
  | k + 1, h => by
    rw [runF, runF, runF_app k (by omega), get_app (by omega)]
theorem dec_app {l r : List FNode} : ∀ {t : Fm} {i : Nat}, Dec l t i → Dec (l ++ r) t i
  | .leaf k f, i, ⟨h, hn, hk⟩ => ⟨by rw [List.length_append]; omega, by rw [get_app h]; exact hn, hk⟩
  | .un k f a, i, ⟨h, hk, c, hn, hc, ha⟩ => ⟨by rw [List.length_append]; omega, hk, c, by rw [get_app h]; exact hn, hc, dec_app ha⟩
  | .bin k f a b, i, ⟨h, hk, c, d, hn, hc, hd, ha, hb⟩ => ⟨by rw [List.length_append]; omega, hk, c, d, by rw [get_app h]; exact hn, hc, hd, dec_app ha, dec_app hb⟩
theorem wrap_ok {facts : Int} {l : List FNode} {k : Int} (hk : k = 3 ∨ k = 6 ∨ k = 8 ∨ k = 9) (h : formFault facts l = (0, 0)) (hl : l.length ≤ 59) : formFault facts (wrapN l k) = (0, 0) ∧ rootT (wrapN l k) = .un k 0 (rootT l) := by
  obtain ⟨hfa, hlen, fs, hf, hz⟩ := ff_ok h
  have hd := (ff_dec h).1 (l.length - 1) (by omega)
  have hfl := runF_len hf
  have hg : (wrapN l k)[l.length]! = ⟨k, [(l.length : Int) - 1], 0⟩ := by
    unfold wrapN
    rw [List.getElem!_eq_getElem?_getD, List.getElem?_append_right (Nat.le_refl _), Nat.sub_self]; rfl
  have h1 : runF facts (wrapN l k) l.length = .inr fs := by unfold wrapN; rw [runF_app _ (Nat.le_refl _)]; exact hf
  have h2 : runF facts (wrapN l k) (l.length + 1) = .inr (fs ++ [0]) := by
    refine node_step h1 ?_
    rw [hg]
    unfold nodeE
    have ha : arityZ k = 1 := by unfold arityZ; rw [if_neg (by omega), if_neg (by omega)]
    rw [if_neg (by simp only; omega), if_neg (by simp [ha]), if_neg (by simp only; omega)]
    simp only [List.reverse_cons, List.reverse_nil, List.nil_append, chainK]
    rw [if_neg (by omega), show ((l.length : Int) - 1).toNat = l.length - 1 by omega, hz]
  refine ⟨?_, ?_⟩
  · unfold formFault
    rw [if_neg (by omega), wrapN_len, if_neg (by omega), h2]
    simp only
    rw [if_neg (by rw [Nat.add_sub_cancel, last_get hfl]; simp)]
  · have hdw : Dec (wrapN l k) (.un k 0 (rootT l)) l.length := ⟨by rw [wrapN_len]; omega, hk, l.length - 1, by rw [hg]; congr 2; omega, by omega, dec_app hd⟩
    have := dec_trA hdw (n := (wrapN l k).length) (by rw [wrapN_len]; omega)
    unfold rootT
    rw [wrapN_len, Nat.add_sub_cancel]
    rw [wrapN_len] at this
    exact this
theorem all_any (t : Fm) (f g h : Int) : ∀ ss : List (List Int), sat (.un 8 f t) ss = !sat (.un 9 g (.un 3 h t)) ss
  | [] => rfl
  | x :: r => by
    have ih := all_any t f g h r
    show (sat t (x :: r) && sat (.un 8 f t) r) = !((!sat t (x :: r)) || sat (.un 9 g (.un 3 h t)) r)
    rw [ih]
    cases sat t (x :: r) <;> cases sat (.un 9 g (.un 3 h t)) r <;> rfl
def stF (facts : Int) (ss : List (List Int)) : Int × Int := if ss.length = 0 ∨ 20 < ss.length then (9, -3) else if badB facts ss then (5, -4) else (0, 0)
theorem st_code {facts : Int} {ss : List (List Int)} (h : stF facts ss ≠ (0, 0)) : (stF facts ss).1 ≠ 0 := by
  unfold stF at h ⊢
  split
  · decide
  · split
    · decide
    · rename_i h1 h2
      rw [if_neg h1, if_neg h2] at h
      exact absurd rfl h
theorem ev_st {facts : Int} {l : List FNode} {ss : List (List Int)} (h : formFault facts l = (0, 0)) : evalF facts l ss = stF facts ss ∧ evalB facts l ss = (decide (stF facts ss = (0, 0)) && sat (rootT l) ss) := by
  have e : evalF facts l ss = stF facts ss := by rw [evalF, if_neg (by simp [h])]; rfl
  exact ⟨e, by rw [evalB, e]⟩

theorem dualLaw_pc (l : List FNode) (facts : Int) (ss : List (List Int)) (hr : ∀ n ∈ l, ∀ c ∈ n.kids, c ≤ 9223372036854775807) : PCall Try.prog 6 [formA l, .int facts, rowsS ss] (fun r => r = .bool true) := by
  have hff := formFault_pc l facts hr
  
  
  by_cases hf : formFault facts l = (0, 0)
  · rw [hf] at hff
    by_cases hl : l.length ≤ 57
    · obtain ⟨a1, a2⟩ := wrap_ok (k := 8) (by omega) hf (by omega)
      obtain ⟨b1, b2⟩ := wrap_ok (k := 3) (by omega) hf (by omega)
      obtain ⟨c1, c2⟩ := wrap_ok (k := 9) (by omega) b1 (by rw [wrapN_len]; omega)
      have e1 := eval_pc (wrapN l 8) facts ss
      have e2 := eval_pc (wrapN (wrapN l 3) 9) facts ss
      rw [(ev_st a1).1, (ev_st a1).2, a2] at e1
      rw [(ev_st c1).1, (ev_st c1).2, c2, b2] at e2
      have hab := all_any (rootT l) 0 0 0 ss
      generalize sat (.un 8 0 (rootT l)) ss = x at *
      generalize sat (.un 9 0 (.un 3 0 (rootT l))) ss = y at *
      subst hab
      have hw3 := wrapN_len l 3
      
      
      by_cases hs : stF facts ss = (0, 0)
      · rw [hs] at e1 e2
        simp only [decide_true, Bool.true_and] at e1 e2
        cases y
        · (refine enterS Try.func6 Try.ntmps6 ?_)
          (repeat' (first | (refine hK _ ?_; clear hK K) | (refine aw_seq (fun K hK => ?_)) | (refine gR ?_; refine regS ?_) | (refine gC 9 ?_; refine callS (traces_pc) ?_) | (refine gC 8 ?_; refine callS (hff) ?_) | (refine gC 17 ?_; refine callS (wrapped_pc _ _ (by omega)) ?_) | (refine gC 14 ?_; refine callS (e1) ?_) | (refine gC 14 ?_; refine callS (e2) ?_) | (refine stk_op (fun K hK => ?_); (first | (refine aop_pv (pv_field (off := 0) (ft := 3) (by rfl) (by rfl) (by rfl) (by rfl) (by rfl)) ?_) | (refine aop_pv (pv_neq (by rfl) (by rfl)) ?_) | (refine aop_pv (pv_neqB (by rfl) (by rfl)) ?_) | (refine aop_pv (pv_neqA (by rfl) (by rfl) (by kernel_rfl)) ?_) | (refine aop_pv (pv_fieldAddrF (by rfl) (by rfl) (by first | decide | (simp; done) | (simp; omega))) ?_) | (refine aop_pv (pv_fieldAddrIF (by rfl) (by rfl) (by first | decide | (simp; done) | (simp; omega))) ?_) | (refine aop_pv (pv_eql (by rfl) (by rfl)) ?_) | (refine aop_pv (pv_eqlB (by rfl) (by rfl)) ?_) | (refine aop_pv (pv_eqlA (by rfl) (by rfl) (by kernel_rfl)) ?_))) | (refine gE ?_; (first | (refine exN ?_) | (refine exS (fun _ => ?_)))) | (refine gG ?_; refine guardS (fun hc => ?_) (fun hc => ?_) <;> (try (first | contradiction | (exfalso; omega) | (exfalso; simp_all [Prod.ext_iff]; done)))) | (refine gQ ?_; (first | (refine condT ?_) | (refine condF ?_) | (refine condS (fun hc => ?_) (fun hc => ?_) <;> (try (first | contradiction | (exfalso; omega) | (exfalso; simp_all [Prod.ext_iff]; done)))))) | (refine gW ?_; refine wopsS ?_) | (refine aw_block ?_) | (refine gX ?_; refine exitS ?_) | (refine gT ?_; refine retS ?_) | (refine gS ?_; refine skipS ?_) | (apply_assumption (exfalso := false) (symm := false))))
          all_goals ((refine fin_le (Le.refl _) (rv_one (rv1_tmp (by rfl))) (by first | rfl | (simp only [go_sem, Nat.reduceAdd, Nat.reduceMul, reduceIte, Nat.reduceEqDiff, Nat.reduceLeDiff, Int.reduceToNat, Int.reducePow, Int.reduceBEq, Int.reduceBNe, Int.reduceLT, Int.reduceLE, decide_true, decide_false])) ?_); rfl)
        · (refine enterS Try.func6 Try.ntmps6 ?_)
          (repeat' (first | (refine hK _ ?_; clear hK K) | (refine aw_seq (fun K hK => ?_)) | (refine gR ?_; refine regS ?_) | (refine gC 9 ?_; refine callS (traces_pc) ?_) | (refine gC 8 ?_; refine callS (hff) ?_) | (refine gC 17 ?_; refine callS (wrapped_pc _ _ (by omega)) ?_) | (refine gC 14 ?_; refine callS (e1) ?_) | (refine gC 14 ?_; refine callS (e2) ?_) | (refine stk_op (fun K hK => ?_); (first | (refine aop_pv (pv_field (off := 0) (ft := 3) (by rfl) (by rfl) (by rfl) (by rfl) (by rfl)) ?_) | (refine aop_pv (pv_neq (by rfl) (by rfl)) ?_) | (refine aop_pv (pv_neqB (by rfl) (by rfl)) ?_) | (refine aop_pv (pv_neqA (by rfl) (by rfl) (by kernel_rfl)) ?_) | (refine aop_pv (pv_fieldAddrF (by rfl) (by rfl) (by first | decide | (simp; done) | (simp; omega))) ?_) | (refine aop_pv (pv_fieldAddrIF (by rfl) (by rfl) (by first | decide | (simp; done) | (simp; omega))) ?_) | (refine aop_pv (pv_eql (by rfl) (by rfl)) ?_) | (refine aop_pv (pv_eqlB (by rfl) (by rfl)) ?_) | (refine aop_pv (pv_eqlA (by rfl) (by rfl) (by kernel_rfl)) ?_))) | (refine gE ?_; (first | (refine exN ?_) | (refine exS (fun _ => ?_)))) | (refine gG ?_; refine guardS (fun hc => ?_) (fun hc => ?_) <;> (try (first | contradiction | (exfalso; omega) | (exfalso; simp_all [Prod.ext_iff]; done)))) | (refine gQ ?_; (first | (refine condT ?_) | (refine condF ?_) | (refine condS (fun hc => ?_) (fun hc => ?_) <;> (try (first | contradiction | (exfalso; omega) | (exfalso; simp_all [Prod.ext_iff]; done)))))) | (refine gW ?_; refine wopsS ?_) | (refine aw_block ?_) | (refine gX ?_; refine exitS ?_) | (refine gT ?_; refine retS ?_) | (refine gS ?_; refine skipS ?_) | (apply_assumption (exfalso := false) (symm := false))))
          all_goals ((refine fin_le (Le.refl _) (rv_one (rv1_tmp (by rfl))) (by first | rfl | (simp only [go_sem, Nat.reduceAdd, Nat.reduceMul, reduceIte, Nat.reduceEqDiff, Nat.reduceLeDiff, Int.reduceToNat, Int.reducePow, Int.reduceBEq, Int.reduceBNe, Int.reduceLT, Int.reduceLE, decide_true, decide_false])) ?_); rfl)
      · have hc := st_code hs
        rw [decide_eq_false hs, Bool.false_and] at e1 e2
        generalize stF facts ss = p at *
        (refine enterS Try.func6 Try.ntmps6 ?_)
        (repeat' (first | (refine hK _ ?_; clear hK K) | (refine aw_seq (fun K hK => ?_)) | (refine gR ?_; refine regS ?_) | (refine gC 9 ?_; refine callS (traces_pc) ?_) | (refine gC 8 ?_; refine callS (hff) ?_) | (refine gC 17 ?_; refine callS (wrapped_pc _ _ (by omega)) ?_) | (refine gC 14 ?_; refine callS (e1) ?_) | (refine gC 14 ?_; refine callS (e2) ?_) | (refine stk_op (fun K hK => ?_); (first | (refine aop_pv (pv_field (off := 0) (ft := 3) (by rfl) (by rfl) (by rfl) (by rfl) (by rfl)) ?_) | (refine aop_pv (pv_neq (by rfl) (by rfl)) ?_) | (refine aop_pv (pv_neqB (by rfl) (by rfl)) ?_) | (refine aop_pv (pv_neqA (by rfl) (by rfl) (by kernel_rfl)) ?_) | (refine aop_pv (pv_fieldAddrF (by rfl) (by rfl) (by first | decide | (simp; done) | (simp; omega))) ?_) | (refine aop_pv (pv_fieldAddrIF (by rfl) (by rfl) (by first | decide | (simp; done) | (simp; omega))) ?_) | (refine aop_pv (pv_eql (by rfl) (by rfl)) ?_) | (refine aop_pv (pv_eqlB (by rfl) (by rfl)) ?_) | (refine aop_pv (pv_eqlA (by rfl) (by rfl) (by kernel_rfl)) ?_))) | (refine gE ?_; (first | (refine exN ?_) | (refine exS (fun _ => ?_)))) | (refine gG ?_; refine guardS (fun hc => ?_) (fun hc => ?_) <;> (try (first | contradiction | (exfalso; omega) | (exfalso; simp_all [Prod.ext_iff]; done)))) | (refine gQ ?_; (first | (refine condT ?_) | (refine condF ?_) | (refine condS (fun hc => ?_) (fun hc => ?_) <;> (try (first | contradiction | (exfalso; omega) | (exfalso; simp_all [Prod.ext_iff]; done)))))) | (refine gW ?_; refine wopsS ?_) | (refine aw_block ?_) | (refine gX ?_; refine exitS ?_) | (refine gT ?_; refine retS ?_) | (refine gS ?_; refine skipS ?_) | (apply_assumption (exfalso := false) (symm := false))))
        all_goals ((refine fin_le (Le.refl _) (rv_one (rv1_tmp (by rfl))) (by first | rfl | (simp only [go_sem, Nat.reduceAdd, Nat.reduceMul, reduceIte, Nat.reduceEqDiff, Nat.reduceLeDiff, Int.reduceToNat, Int.reducePow, Int.reduceBEq, Int.reduceBNe, Int.reduceLT, Int.reduceLE, decide_true, decide_false])) ?_); rfl)
    · (refine enterS Try.func6 Try.ntmps6 ?_)
      (repeat' (first | (refine hK _ ?_; clear hK K) | (refine aw_seq (fun K hK => ?_)) | (refine gR ?_; refine regS ?_) | (refine gC 9 ?_; refine callS (traces_pc) ?_) | (refine gC 8 ?_; refine callS (hff) ?_) | (refine gC 17 ?_; refine callS (wrapped_pc _ _ (by omega)) ?_) | (refine gC 14 ?_; refine callS (e1) ?_) | (refine gC 14 ?_; refine callS (e2) ?_) | (refine stk_op (fun K hK => ?_); (first | (refine aop_pv (pv_field (off := 0) (ft := 3) (by rfl) (by rfl) (by rfl) (by rfl) (by rfl)) ?_) | (refine aop_pv (pv_neq (by rfl) (by rfl)) ?_) | (refine aop_pv (pv_neqB (by rfl) (by rfl)) ?_) | (refine aop_pv (pv_neqA (by rfl) (by rfl) (by kernel_rfl)) ?_) | (refine aop_pv (pv_fieldAddrF (by rfl) (by rfl) (by first | decide | (simp; done) | (simp; omega))) ?_) | (refine aop_pv (pv_fieldAddrIF (by rfl) (by rfl) (by first | decide | (simp; done) | (simp; omega))) ?_) | (refine aop_pv (pv_eql (by rfl) (by rfl)) ?_) | (refine aop_pv (pv_eqlB (by rfl) (by rfl)) ?_) | (refine aop_pv (pv_eqlA (by rfl) (by rfl) (by kernel_rfl)) ?_))) | (refine gE ?_; (first | (refine exN ?_) | (refine exS (fun _ => ?_)))) | (refine gG ?_; refine guardS (fun hc => ?_) (fun hc => ?_) <;> (try (first | contradiction | (exfalso; omega) | (exfalso; simp_all [Prod.ext_iff]; done)))) | (refine gQ ?_; (first | (refine condT ?_) | (refine condF ?_) | (refine condS (fun hc => ?_) (fun hc => ?_) <;> (try (first | contradiction | (exfalso; omega) | (exfalso; simp_all [Prod.ext_iff]; done)))))) | (refine gW ?_; refine wopsS ?_) | (refine aw_block ?_) | (refine gX ?_; refine exitS ?_) | (refine gT ?_; refine retS ?_) | (refine gS ?_; refine skipS ?_) | (apply_assumption (exfalso := false) (symm := false))))
      all_goals ((refine fin_le (Le.refl _) (rv_one (rv1_tmp (by rfl))) (by first | rfl | (simp only [go_sem, Nat.reduceAdd, Nat.reduceMul, reduceIte, Nat.reduceEqDiff, Nat.reduceLeDiff, Int.reduceToNat, Int.reducePow, Int.reduceBEq, Int.reduceBNe, Int.reduceLT, Int.reduceLE, decide_true, decide_false])) ?_); rfl)
  · have hc := ff_code hf
    generalize formFault facts l = p at *
    (refine enterS Try.func6 Try.ntmps6 ?_)
    (repeat' (first | (refine hK _ ?_; clear hK K) | (refine aw_seq (fun K hK => ?_)) | (refine gR ?_; refine regS ?_) | (refine gC 9 ?_; refine callS (traces_pc) ?_) | (refine gC 8 ?_; refine callS (hff) ?_) | (refine gC 17 ?_; refine callS (wrapped_pc _ _ (by omega)) ?_) | (refine gC 14 ?_; refine callS (e1) ?_) | (refine gC 14 ?_; refine callS (e2) ?_) | (refine stk_op (fun K hK => ?_); (first | (refine aop_pv (pv_field (off := 0) (ft := 3) (by rfl) (by rfl) (by rfl) (by rfl) (by rfl)) ?_) | (refine aop_pv (pv_neq (by rfl) (by rfl)) ?_) | (refine aop_pv (pv_neqB (by rfl) (by rfl)) ?_) | (refine aop_pv (pv_neqA (by rfl) (by rfl) (by kernel_rfl)) ?_) | (refine aop_pv (pv_fieldAddrF (by rfl) (by rfl) (by first | decide | (simp; done) | (simp; omega))) ?_) | (refine aop_pv (pv_fieldAddrIF (by rfl) (by rfl) (by first | decide | (simp; done) | (simp; omega))) ?_) | (refine aop_pv (pv_eql (by rfl) (by rfl)) ?_) | (refine aop_pv (pv_eqlB (by rfl) (by rfl)) ?_) | (refine aop_pv (pv_eqlA (by rfl) (by rfl) (by kernel_rfl)) ?_))) | (refine gE ?_; (first | (refine exN ?_) | (refine exS (fun _ => ?_)))) | (refine gG ?_; refine guardS (fun hc => ?_) (fun hc => ?_) <;> (try (first | contradiction | (exfalso; omega) | (exfalso; simp_all [Prod.ext_iff]; done)))) | (refine gQ ?_; (first | (refine condT ?_) | (refine condF ?_) | (refine condS (fun hc => ?_) (fun hc => ?_) <;> (try (first | contradiction | (exfalso; omega) | (exfalso; simp_all [Prod.ext_iff]; done)))))) | (refine gW ?_; refine wopsS ?_) | (refine aw_block ?_) | (refine gX ?_; refine exitS ?_) | (refine gT ?_; refine retS ?_) | (refine gS ?_; refine skipS ?_) | (apply_assumption (exfalso := false) (symm := false))))
    all_goals ((refine fin_le (Le.refl _) (rv_one (rv1_tmp (by rfl))) (by first | rfl | (simp only [go_sem, Nat.reduceAdd, Nat.reduceMul, reduceIte, Nat.reduceEqDiff, Nat.reduceLeDiff, Int.reduceToNat, Int.reducePow, Int.reduceBEq, Int.reduceBNe, Int.reduceLT, Int.reduceLE, decide_true, decide_false])) ?_); rfl)
end Go.Proofs.Ytanogjooppnihaa
