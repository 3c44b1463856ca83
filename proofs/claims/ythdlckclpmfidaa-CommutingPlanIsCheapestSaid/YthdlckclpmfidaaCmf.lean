import Derived.Test.YthdlckclpmfidaaCpa


namespace Go.Proofs.Ythdlckclpmfidaa
open Go.Ab
open Go
set_option linter.unusedSimpArgs false
set_option linter.unusedVariables false
set_option maxRecDepth 10000
attribute [local irreducible] PV AOp AOps AW PCall OCall MCall WCall HCall Ab.Fin OFin OFin2 MFin HFin RV RV1 Le AStk AGrd ADr ADx ADo AOpX AAny AOpsI wops wdr wgd wdt
set_option maxHeartbeats 16000000
/-! the applicable operators -/
def appL (t : Task) (s : List Int) (k : Nat) : List Int := outK (fun i => subB (t.ops[i]!).pre s) k

theorem applicableS_pc (t : Task) (s : List Int) (h : stFault t s = (0, 0)) : PCall Try.prog 25 [t.av, ints s] (fun r => r = .tup [ints (appL t s t.ops.length), fault 0 0]) := by
  have hv := stFault_at h
  obtain ⟨hw, hset⟩ := stFault_ok.1 h
  have h40 := hw.n40
  
  (refine enterS Try.func25 Try.ntmps25 ?_)
  (repeat' (first | (refine hK _ ?_; clear hK K) | (refine aw_seq (fun K hK => ?_)) | (refine gR ?_; refine regS ?_) | (refine gD 3 ?_; refine drS (.it 0 0 (.it 1 0 (.it 2 3 .nil))) [0, 1] ?_) | (refine gC 40 ?_; refine callS (hv) ?_) | (refine gC 47 ?_; refine callS (successors_pc _ _) ?_) | (refine stk_op (fun K hK => ?_); (first | (refine aop_pv (pv_neq (by rfl) (by rfl)) ?_) | (refine aop_pv (pv_neqB (by rfl) (by rfl)) ?_) | (refine aop_pv (pv_neqA (by rfl) (by rfl) (by kernel_rfl)) ?_) | (refine appendS ?_) | (refine virtS 21 24 1 8 3 ?_; refine appendS ?_))) | (refine And.intro ?_ ?_) | (refine gDx ?_; refine adxS ?_) | (refine gO ?_; refine adoS ?_) | (refine gE ?_; (first | (refine exN ?_) | (refine exS (fun _ => ?_)))) | (refine gQ ?_; (first | (refine condT ?_) | (refine condF ?_) | (refine condS (fun hc => ?_) (fun hc => ?_) <;> (try (first | contradiction | (exfalso; omega)))))) | (refine gWd ?_; refine wdrS ?_) | (refine gW ?_; refine wopsS ?_) | (refine aw_block ?_) | (refine gX ?_; refine exitS ?_) | (refine gT ?_; refine retS ?_) | (refine gS ?_; refine skipS ?_) | (apply_assumption (exfalso := false) (symm := false))))
  (refine aw_le (le_virtH 7 0 700 1 8 3 (by rfl) (by rfl) (by first | rfl | (simp only [go_sem, Nat.reduceAdd, Nat.reduceMul, reduceIte, Nat.reduceEqDiff, Nat.reduceLeDiff, Int.reduceToNat, Int.reducePow, Int.reduceBEq, Int.reduceBNe, Int.reduceLT, Int.reduceLE, decide_true, decide_false]; done) | (simp only [go_sem, Nat.reduceAdd, Nat.reduceMul, reduceIte, Nat.reduceEqDiff, Nat.reduceLeDiff, Int.reduceToNat, Int.reducePow, Int.reduceBEq, Int.reduceBNe, Int.reduceLT, Int.reduceLE, decide_true, decide_false]; rfl) | (simp [St.free, mentHp, AV.mentL, AV.ment]))) ?_; simp only [go_sem, Nat.reduceAdd, Nat.reduceMul, reduceIte, Nat.reduceEqDiff, Nat.reduceLeDiff, Int.reduceToNat, Int.reducePow, Int.reduceBEq, Int.reduceBNe, Int.reduceLT, Int.reduceLE, decide_true, decide_false])
  have hK9 := hK
  refine aw_rangeFy 1000000001 (news := []) (by rfl) (by decide) (by first | rfl | (simp [AV.mentL, AV.ment]; done)) (by first | rfl | (simp only [go_sem, Nat.reduceAdd, Nat.reduceMul, reduceIte, Nat.reduceEqDiff, Nat.reduceLeDiff, Int.reduceToNat, Int.reducePow, Int.reduceBEq, Int.reduceBNe, Int.reduceLT, Int.reduceLE, decide_true, decide_false, Nat.reduceBEq, Bool.or_self, Bool.or_true, Bool.true_or, Bool.or_false, Bool.false_or, Bool.and_true, Bool.true_and, Bool.and_false, Bool.false_and, Bool.and_self, Bool.not_true, Bool.not_false, List.cons_append, List.nil_append, List.append_nil, if_true, if_false, Bool.false_eq_true, keysH]; done)) (by first | rfl | (simp [AV.mentL, AV.ment]; done)) (by rfl) (fun id h => by cases h) (fun y hyp hya hyb => ?_) (fun _ _ h => h)
  (refine enterH Try.func69 Try.ntmps69 ?_)
  (repeat' (first | (refine hK _ ?_; clear hK K) | (refine aw_seq (fun K hK => ?_)) | (refine gR ?_; refine regS ?_) | (refine stk_op (fun K hK => ?_); (first | (refine aop_pv (pv_fieldAddrF (by rfl) (by rfl) (by first | decide | (simp; done) | (simp; omega))) ?_) | (refine aop_pv (pv_fieldAddrIF (by rfl) (by rfl) (by first | decide | (simp; done) | (simp; omega))) ?_))) | (refine gE ?_; (first | (refine exN ?_) | (refine exS (fun _ => ?_)))) | (refine gG ?_; refine guardS (fun hc => ?_) (fun hc => ?_) <;> (try (first | contradiction | (exfalso; omega)))) | (refine gQ ?_; (first | (refine condT ?_) | (refine condF ?_) | (refine condS (fun hc => ?_) (fun hc => ?_) <;> (try (first | contradiction | (exfalso; omega)))))) | (refine gW ?_; refine wopsS ?_) | (refine aw_block ?_) | (refine gX ?_; refine exitS ?_) | (refine gT ?_; refine retS ?_) | (refine gS ?_; refine skipS ?_) | (apply_assumption (exfalso := false) (symm := false))))
  refine aw_loop_set [4, 8, 9, 10, 11, 12, 13, 14, 15, 16, 17, 18, 19, 20, 21, 22, 23, 24, 25] (fun q : Nat => q ≤ t.ops.length) (fun q => t.ops.length - q) (fun q => [(8, .int q)])
    (fun q => [(7, ⟨22, [.sl 1 8 700 0 (appL t s q).length], true⟩), (700, ⟨3, (appL t s q).map AV.int, false⟩)]) 0 (by omega) ?_ ?_
  · rw [show appL t s 0 = [] by rw [appL, outK_zero]]
    (refine atS ?_)
    (exact weakS)
  · rintro q hq K hK
    (refine atS ?_)
    have hol : (appL t s q).length ≤ q := outK_len
    by_cases hqt : q < t.ops.length
    · have hcan := can_pc t s q hw hset ⟨by omega, by omega⟩
      rw [Int.toNat_natCast] at hcan
      cases hb : subB (t.ops[q]!).pre s
      · rw [hb] at hcan
        
        (repeat' (first | (refine hK _ ?_; clear hK K) | (refine aw_seq (fun K hK => ?_)) | (refine gR ?_; refine regS ?_) | (refine gC 48 ?_; refine callS (hcan) ?_) | (refine stk_op (fun K hK => ?_); (first | (refine aop_pv (pv_fieldAddrF (by rfl) (by rfl) (by first | decide | (simp; done) | (simp; omega))) ?_) | (refine aop_pv (pv_fieldAddrIF (by rfl) (by rfl) (by first | decide | (simp; done) | (simp; omega))) ?_))) | (refine gE ?_; (first | (refine exN ?_) | (refine exS (fun _ => ?_)))) | (refine gG ?_; refine guardS (fun hc => ?_) (fun hc => ?_) <;> (try (first | contradiction | (exfalso; omega)))) | (refine gQ ?_; (first | (refine condT ?_) | (refine condF ?_) | (refine condS (fun hc => ?_) (fun hc => ?_) <;> (try (first | contradiction | (exfalso; omega)))))) | (refine gW ?_; refine wopsS ?_) | (refine aw_block ?_) | (refine gX ?_; refine exitS ?_) | (refine gT ?_; refine retS ?_) | (refine gS ?_; refine skipS ?_) | (apply_assumption (exfalso := false) (symm := false))))
        refine ⟨q + 1, by omega, by omega, ?_⟩
        rw [show appL t s (q + 1) = appL t s q from outK_no hb]
        (refine atS ?_)
        (exact weakS)
      · rw [hb] at hcan
        have hnx := next_pc t s q hw hset ⟨by omega, by omega⟩
        rw [Int.toNat_natCast] at hnx
        generalize aft t.facts s t.ops[q]! = nx at *
        
        (repeat' (first | (refine hK _ ?_; clear hK K) | (refine aw_seq (fun K hK => ?_)) | (refine gRx 3 (by rfl) ?_; refine regS ?_) | (refine gC 48 ?_; refine callS (hcan) ?_) | (refine stk_op (fun K hK => ?_); (first | (refine aop_pv (pv_fieldAddrF (by rfl) (by rfl) (by first | decide | (simp; done) | (simp; omega))) ?_) | (refine aop_pv (pv_fieldAddrIF (by rfl) (by rfl) (by first | decide | (simp; done) | (simp; omega))) ?_))) | (refine gE ?_; (first | (refine exN ?_) | (refine exS (fun _ => ?_)))) | (refine gG ?_; refine guardS (fun hc => ?_) (fun hc => ?_) <;> (try (first | contradiction | (exfalso; omega)))) | (refine gQ ?_; (first | (refine condT ?_) | (refine condF ?_) | (refine condS (fun hc => ?_) (fun hc => ?_) <;> (try (first | contradiction | (exfalso; omega)))))) | (refine gW ?_; refine wopsS ?_) | (refine aw_block ?_) | (refine gX ?_; refine exitS ?_) | (refine gT ?_; refine retS ?_) | (refine gS ?_; refine skipS ?_) | (apply_assumption (exfalso := false) (symm := false))))
        refine aw_regionI ?_
        refine aopsI_cons rfl rfl (fun K1 hK1 => ?_)
        first | refine aop_pv pv_move ?_ | refine aop_pv (pv_loadI (by rfl) (by rfl) (by rfl)) ?_ | refine aop_pv (pv_loadIA (by rfl) (by rfl) (by first | decide | (simp; done) | (simp; omega))) ?_ | refine aop_pv (pv_not (by rfl)) ?_ | refine aop_pv (pv_pickB (by rfl) (by rfl) (by rfl)) ?_ | (refine aop_call hcan (by rfl) (fun x hx => ?_); obtain rfl := hx) | (refine aop_call hnx (by rfl) (fun x hx => ?_); obtain rfl := hx)
        simp only [go_sem, Nat.reduceAdd, Nat.reduceMul, reduceIte, Nat.reduceEqDiff, Nat.reduceLeDiff, Int.reduceToNat, Int.reducePow, Int.reduceBEq, Int.reduceBNe, Int.reduceLT, Int.reduceLE, decide_true, decide_false]; refine hK1 _ ?_; clear hK1 K1
        refine aopsI_cons rfl rfl (fun K1 hK1 => ?_)
        first | refine aop_pv pv_move ?_ | refine aop_pv (pv_loadI (by rfl) (by rfl) (by rfl)) ?_ | refine aop_pv (pv_loadIA (by rfl) (by rfl) (by first | decide | (simp; done) | (simp; omega))) ?_ | refine aop_pv (pv_not (by rfl)) ?_ | refine aop_pv (pv_pickB (by rfl) (by rfl) (by rfl)) ?_ | (refine aop_call hcan (by rfl) (fun x hx => ?_); obtain rfl := hx) | (refine aop_call hnx (by rfl) (fun x hx => ?_); obtain rfl := hx)
        simp only [go_sem, Nat.reduceAdd, Nat.reduceMul, reduceIte, Nat.reduceEqDiff, Nat.reduceLeDiff, Int.reduceToNat, Int.reducePow, Int.reduceBEq, Int.reduceBNe, Int.reduceLT, Int.reduceLE, decide_true, decide_false]; refine hK1 _ ?_; clear hK1 K1
        refine aopsI_cons rfl rfl (fun K1 hK1 => ?_)
        first | refine aop_pv pv_move ?_ | refine aop_pv (pv_loadI (by rfl) (by rfl) (by rfl)) ?_ | refine aop_pv (pv_loadIA (by rfl) (by rfl) (by first | decide | (simp; done) | (simp; omega))) ?_ | refine aop_pv (pv_not (by rfl)) ?_ | refine aop_pv (pv_pickB (by rfl) (by rfl) (by rfl)) ?_ | (refine aop_call hcan (by rfl) (fun x hx => ?_); obtain rfl := hx) | (refine aop_call hnx (by rfl) (fun x hx => ?_); obtain rfl := hx)
        simp only [go_sem, Nat.reduceAdd, Nat.reduceMul, reduceIte, Nat.reduceEqDiff, Nat.reduceLeDiff, Int.reduceToNat, Int.reducePow, Int.reduceBEq, Int.reduceBNe, Int.reduceLT, Int.reduceLE, decide_true, decide_false]; refine hK1 _ ?_; clear hK1 K1
        refine aopsI_cons rfl rfl (fun K1 hK1 => ?_)
        first | refine aop_pv pv_move ?_ | refine aop_pv (pv_loadI (by rfl) (by rfl) (by rfl)) ?_ | refine aop_pv (pv_loadIA (by rfl) (by rfl) (by first | decide | (simp; done) | (simp; omega))) ?_ | refine aop_pv (pv_not (by rfl)) ?_ | refine aop_pv (pv_pickB (by rfl) (by rfl) (by rfl)) ?_ | (refine aop_call hcan (by rfl) (fun x hx => ?_); obtain rfl := hx) | (refine aop_call hnx (by rfl) (fun x hx => ?_); obtain rfl := hx)
        simp only [go_sem, Nat.reduceAdd, Nat.reduceMul, reduceIte, Nat.reduceEqDiff, Nat.reduceLeDiff, Int.reduceToNat, Int.reducePow, Int.reduceBEq, Int.reduceBNe, Int.reduceLT, Int.reduceLE, decide_true, decide_false]; refine hK1 _ ?_; clear hK1 K1
        refine aopsI_cons rfl rfl (fun K1 hK1 => ?_)
        first | refine aop_pv pv_move ?_ | refine aop_pv (pv_loadI (by rfl) (by rfl) (by rfl)) ?_ | refine aop_pv (pv_loadIA (by rfl) (by rfl) (by first | decide | (simp; done) | (simp; omega))) ?_ | refine aop_pv (pv_not (by rfl)) ?_ | refine aop_pv (pv_pickB (by rfl) (by rfl) (by rfl)) ?_ | (refine aop_call hcan (by rfl) (fun x hx => ?_); obtain rfl := hx) | (refine aop_call hnx (by rfl) (fun x hx => ?_); obtain rfl := hx)
        simp only [go_sem, Nat.reduceAdd, Nat.reduceMul, reduceIte, Nat.reduceEqDiff, Nat.reduceLeDiff, Int.reduceToNat, Int.reducePow, Int.reduceBEq, Int.reduceBNe, Int.reduceLT, Int.reduceLE, decide_true, decide_false]; refine hK1 _ ?_; clear hK1 K1
        refine aopsI_unguard (by rfl) (by rfl) ?_
        refine aopsI_cons rfl rfl (fun K1 hK1 => ?_)
        first | refine aop_pv pv_move ?_ | refine aop_pv (pv_loadI (by rfl) (by rfl) (by rfl)) ?_ | refine aop_pv (pv_loadIA (by rfl) (by rfl) (by first | decide | (simp; done) | (simp; omega))) ?_ | refine aop_pv (pv_not (by rfl)) ?_ | refine aop_pv (pv_pickB (by rfl) (by rfl) (by rfl)) ?_ | (refine aop_call hcan (by rfl) (fun x hx => ?_); obtain rfl := hx) | (refine aop_call hnx (by rfl) (fun x hx => ?_); obtain rfl := hx)
        simp only [go_sem, Nat.reduceAdd, Nat.reduceMul, reduceIte, Nat.reduceEqDiff, Nat.reduceLeDiff, Int.reduceToNat, Int.reducePow, Int.reduceBEq, Int.reduceBNe, Int.reduceLT, Int.reduceLE, decide_true, decide_false]; refine hK1 _ ?_; clear hK1 K1
        refine aopsI_unguard (by rfl) (by rfl) ?_
        refine aopsI_cons rfl rfl (fun K1 hK1 => ?_)
        first | refine aop_pv pv_move ?_ | refine aop_pv (pv_loadI (by rfl) (by rfl) (by rfl)) ?_ | refine aop_pv (pv_loadIA (by rfl) (by rfl) (by first | decide | (simp; done) | (simp; omega))) ?_ | refine aop_pv (pv_not (by rfl)) ?_ | refine aop_pv (pv_pickB (by rfl) (by rfl) (by rfl)) ?_ | (refine aop_call hcan (by rfl) (fun x hx => ?_); obtain rfl := hx) | (refine aop_call hnx (by rfl) (fun x hx => ?_); obtain rfl := hx)
        simp only [go_sem, Nat.reduceAdd, Nat.reduceMul, reduceIte, Nat.reduceEqDiff, Nat.reduceLeDiff, Int.reduceToNat, Int.reducePow, Int.reduceBEq, Int.reduceBNe, Int.reduceLT, Int.reduceLE, decide_true, decide_false]; refine hK1 _ ?_; clear hK1 K1
        refine aopsI_unguard (by rfl) (by rfl) ?_
        refine aopsI_cons rfl rfl (fun K1 hK1 => ?_)
        first | refine aop_pv pv_move ?_ | refine aop_pv (pv_loadI (by rfl) (by rfl) (by rfl)) ?_ | refine aop_pv (pv_loadIA (by rfl) (by rfl) (by first | decide | (simp; done) | (simp; omega))) ?_ | refine aop_pv (pv_not (by rfl)) ?_ | refine aop_pv (pv_pickB (by rfl) (by rfl) (by rfl)) ?_ | (refine aop_call hcan (by rfl) (fun x hx => ?_); obtain rfl := hx) | (refine aop_call hnx (by rfl) (fun x hx => ?_); obtain rfl := hx)
        simp only [go_sem, Nat.reduceAdd, Nat.reduceMul, reduceIte, Nat.reduceEqDiff, Nat.reduceLeDiff, Int.reduceToNat, Int.reducePow, Int.reduceBEq, Int.reduceBNe, Int.reduceLT, Int.reduceLE, decide_true, decide_false]; refine hK1 _ ?_; clear hK1 K1
        refine aopsI_unguard (by rfl) (by rfl) ?_
        refine aopsI_cons rfl rfl (fun K1 hK1 => ?_)
        first | refine aop_pv pv_move ?_ | refine aop_pv (pv_loadI (by rfl) (by rfl) (by rfl)) ?_ | refine aop_pv (pv_loadIA (by rfl) (by rfl) (by first | decide | (simp; done) | (simp; omega))) ?_ | refine aop_pv (pv_not (by rfl)) ?_ | refine aop_pv (pv_pickB (by rfl) (by rfl) (by rfl)) ?_ | (refine aop_call hcan (by rfl) (fun x hx => ?_); obtain rfl := hx) | (refine aop_call hnx (by rfl) (fun x hx => ?_); obtain rfl := hx)
        simp only [go_sem, Nat.reduceAdd, Nat.reduceMul, reduceIte, Nat.reduceEqDiff, Nat.reduceLeDiff, Int.reduceToNat, Int.reducePow, Int.reduceBEq, Int.reduceBNe, Int.reduceLT, Int.reduceLE, decide_true, decide_false]; refine hK1 _ ?_; clear hK1 K1
        refine aopsI_unguard (by rfl) (by rfl) ?_
        refine aopsI_cons rfl rfl (fun K1 hK1 => ?_)
        first | refine aop_pv pv_move ?_ | refine aop_pv (pv_loadI (by rfl) (by rfl) (by rfl)) ?_ | refine aop_pv (pv_loadIA (by rfl) (by rfl) (by first | decide | (simp; done) | (simp; omega))) ?_ | refine aop_pv (pv_not (by rfl)) ?_ | refine aop_pv (pv_pickB (by rfl) (by rfl) (by rfl)) ?_ | (refine aop_call hcan (by rfl) (fun x hx => ?_); obtain rfl := hx) | (refine aop_call hnx (by rfl) (fun x hx => ?_); obtain rfl := hx)
        simp only [go_sem, Nat.reduceAdd, Nat.reduceMul, reduceIte, Nat.reduceEqDiff, Nat.reduceLeDiff, Int.reduceToNat, Int.reducePow, Int.reduceBEq, Int.reduceBNe, Int.reduceLT, Int.reduceLE, decide_true, decide_false]; refine hK1 _ ?_; clear hK1 K1
        refine aopsI_unguard (by rfl) (by rfl) ?_
        refine aopsI_cons rfl rfl (fun K1 hK1 => ?_)
        first | refine aop_pv pv_move ?_ | refine aop_pv (pv_loadI (by rfl) (by rfl) (by rfl)) ?_ | refine aop_pv (pv_loadIA (by rfl) (by rfl) (by first | decide | (simp; done) | (simp; omega))) ?_ | refine aop_pv (pv_not (by rfl)) ?_ | refine aop_pv (pv_pickB (by rfl) (by rfl) (by rfl)) ?_ | (refine aop_call hcan (by rfl) (fun x hx => ?_); obtain rfl := hx) | (refine aop_call hnx (by rfl) (fun x hx => ?_); obtain rfl := hx)
        simp only [go_sem, Nat.reduceAdd, Nat.reduceMul, reduceIte, Nat.reduceEqDiff, Nat.reduceLeDiff, Int.reduceToNat, Int.reducePow, Int.reduceBEq, Int.reduceBNe, Int.reduceLT, Int.reduceLE, decide_true, decide_false]; refine hK1 _ ?_; clear hK1 K1
        refine aopsI_unguard (by rfl) (by rfl) ?_
        refine aopsI_yieldy 1000000002 hyp hya hyb (by rfl) (by rfl) (by rfl) (by rfl) (by rfl) (by decide) (by decide) (by decide) (by rfl) (by first | rfl | (simp only [go_sem, Nat.reduceAdd, Nat.reduceMul, reduceIte, Nat.reduceEqDiff, Nat.reduceLeDiff, Int.reduceToNat, Int.reducePow, Int.reduceBEq, Int.reduceBNe, Int.reduceLT, Int.reduceLE, decide_true, decide_false, Nat.reduceBEq, Bool.or_self, Bool.or_true, Bool.true_or, Bool.or_false, Bool.false_or, Bool.and_true, Bool.true_and, Bool.and_false, Bool.false_and, Bool.and_self, Bool.not_true, Bool.not_false, List.cons_append, List.nil_append, List.append_nil, if_true, if_false, Bool.false_eq_true, keysH]; done)) (by rfl) (by rfl) ?_
        simp only [go_sem, Nat.reduceAdd, Nat.reduceMul, reduceIte, Nat.reduceEqDiff, Nat.reduceLeDiff, Int.reduceToNat, Int.reducePow, Int.reduceBEq, Int.reduceBNe, Int.reduceLT, Int.reduceLE, decide_true, decide_false]
        
        refine gR ?_; refine regS ?_
        refine ⟨_, _, Le.refl _, by rfl, by rfl, ?_⟩
        simp only [go_sem, Nat.reduceAdd, Nat.reduceMul, reduceIte, Nat.reduceEqDiff, Nat.reduceLeDiff, Int.reduceToNat, Int.reducePow, Int.reduceBEq, Int.reduceBNe, Int.reduceLT, Int.reduceLE, decide_true, decide_false]
        (repeat' (first | (refine hK _ ?_; clear hK K) | (refine aw_seq (fun K hK => ?_)) | (refine gR ?_; refine regS ?_) | (refine gD 3 ?_; refine drS (.it 0 0 (.it 1 0 (.it 2 3 .nil))) [0, 1] ?_) | (refine gC 40 ?_; refine callS (hv) ?_) | (refine gC 47 ?_; refine callS (successors_pc _ _) ?_) | (refine stk_op (fun K hK => ?_); (first | (refine aop_pv (pv_neq (by rfl) (by rfl)) ?_) | (refine aop_pv (pv_neqB (by rfl) (by rfl)) ?_) | (refine aop_pv (pv_neqA (by rfl) (by rfl) (by kernel_rfl)) ?_) | (refine appendS ?_) | (refine virtS 21 24 1 8 3 ?_; refine appendS ?_))) | (refine And.intro ?_ ?_) | (refine gDx ?_; refine adxS ?_) | (refine gO ?_; refine adoS ?_) | (refine gE ?_; (first | (refine exN ?_) | (refine exS (fun _ => ?_)))) | (refine gQ ?_; (first | (refine condT ?_) | (refine condF ?_) | (refine condS (fun hc => ?_) (fun hc => ?_) <;> (try (first | contradiction | (exfalso; omega)))))) | (refine gWd ?_; refine wdrS ?_) | (refine gW ?_; refine wopsS ?_) | (refine aw_block ?_) | (refine gX ?_; refine exitS ?_) | (refine gT ?_; refine retS ?_) | (refine gS ?_; refine skipS ?_) | (apply_assumption (exfalso := false) (symm := false))))
        
        refine ⟨_, _, _, 1000000001, Le.refl _, by rfl, by rfl, by rfl, rfl, ?_⟩
        simp only [go_sem, Nat.reduceAdd, Nat.reduceMul, reduceIte, Nat.reduceEqDiff, Nat.reduceLeDiff, Int.reduceToNat, Int.reducePow, Int.reduceBEq, Int.reduceBNe, Int.reduceLT, Int.reduceLE, decide_true, decide_false]
        refine aopsI_unguard (by rfl) (by rfl) ?_
        refine aopsI_cons rfl rfl (fun K1 hK1 => ?_)
        first | refine aop_pv pv_move ?_ | refine aop_pv (pv_loadI (by rfl) (by rfl) (by rfl)) ?_ | refine aop_pv (pv_loadIA (by rfl) (by rfl) (by first | decide | (simp; done) | (simp; omega))) ?_ | refine aop_pv (pv_not (by rfl)) ?_ | refine aop_pv (pv_pickB (by rfl) (by rfl) (by rfl)) ?_ | (refine aop_call hcan (by rfl) (fun x hx => ?_); obtain rfl := hx) | (refine aop_call hnx (by rfl) (fun x hx => ?_); obtain rfl := hx)
        simp only [go_sem, Nat.reduceAdd, Nat.reduceMul, reduceIte, Nat.reduceEqDiff, Nat.reduceLeDiff, Int.reduceToNat, Int.reducePow, Int.reduceBEq, Int.reduceBNe, Int.reduceLT, Int.reduceLE, decide_true, decide_false]; refine hK1 _ ?_; clear hK1 K1
        refine aopsI_cons rfl rfl (fun K1 hK1 => ?_)
        first | refine aop_pv pv_move ?_ | refine aop_pv (pv_loadI (by rfl) (by rfl) (by rfl)) ?_ | refine aop_pv (pv_loadIA (by rfl) (by rfl) (by first | decide | (simp; done) | (simp; omega))) ?_ | refine aop_pv (pv_not (by rfl)) ?_ | refine aop_pv (pv_pickB (by rfl) (by rfl) (by rfl)) ?_ | (refine aop_call hcan (by rfl) (fun x hx => ?_); obtain rfl := hx) | (refine aop_call hnx (by rfl) (fun x hx => ?_); obtain rfl := hx)
        simp only [go_sem, Nat.reduceAdd, Nat.reduceMul, reduceIte, Nat.reduceEqDiff, Nat.reduceLeDiff, Int.reduceToNat, Int.reducePow, Int.reduceBEq, Int.reduceBNe, Int.reduceLT, Int.reduceLE, decide_true, decide_false]; refine hK1 _ ?_; clear hK1 K1
        refine aopsI_nil ?_
        (repeat' (first | (refine hK _ ?_; clear hK K) | (refine aw_seq (fun K hK => ?_)) | (refine gR ?_; refine regS ?_) | (refine gC 48 ?_; refine callS (hcan) ?_) | (refine stk_op (fun K hK => ?_); (first | (refine aop_pv (pv_fieldAddrF (by rfl) (by rfl) (by first | decide | (simp; done) | (simp; omega))) ?_) | (refine aop_pv (pv_fieldAddrIF (by rfl) (by rfl) (by first | decide | (simp; done) | (simp; omega))) ?_))) | (refine gE ?_; (first | (refine exN ?_) | (refine exS (fun _ => ?_)))) | (refine gG ?_; refine guardS (fun hc => ?_) (fun hc => ?_) <;> (try (first | contradiction | (exfalso; omega)))) | (refine gQ ?_; (first | (refine condT ?_) | (refine condF ?_) | (refine condS (fun hc => ?_) (fun hc => ?_) <;> (try (first | contradiction | (exfalso; omega)))))) | (refine gW ?_; refine wopsS ?_) | (refine aw_block ?_) | (refine gX ?_; refine exitS ?_) | (refine gT ?_; refine retS ?_) | (refine gS ?_; refine skipS ?_) | (apply_assumption (exfalso := false) (symm := false))))
        refine ⟨q + 1, by omega, by omega, ?_⟩
        rw [show appL t s (q + 1) = appL t s q ++ [(q : Int)] from outK_yes hb]
        (refine atS ?_)
        (exact weakS)
    · obtain rfl : q = t.ops.length := by omega
      
      (repeat' (first | (refine hK _ ?_; clear hK K) | (refine aw_seq (fun K hK => ?_)) | (refine gR ?_; refine regS ?_) | (refine gC 48 ?_; refine callS (hcan) ?_) | (refine stk_op (fun K hK => ?_); (first | (refine aop_pv (pv_fieldAddrF (by rfl) (by rfl) (by first | decide | (simp; done) | (simp; omega))) ?_) | (refine aop_pv (pv_fieldAddrIF (by rfl) (by rfl) (by first | decide | (simp; done) | (simp; omega))) ?_))) | (refine gE ?_; (first | (refine exN ?_) | (refine exS (fun _ => ?_)))) | (refine gG ?_; refine guardS (fun hc => ?_) (fun hc => ?_) <;> (try (first | contradiction | (exfalso; omega)))) | (refine gQ ?_; (first | (refine condT ?_) | (refine condF ?_) | (refine condS (fun hc => ?_) (fun hc => ?_) <;> (try (first | contradiction | (exfalso; omega)))))) | (refine gW ?_; refine wopsS ?_) | (refine aw_block ?_) | (refine gX ?_; refine exitS ?_) | (refine gT ?_; refine retS ?_) | (refine gS ?_; refine skipS ?_) | (apply_assumption (exfalso := false) (symm := false))))
      refine hfin_del rv_zero (by first | exact .inl rfl | exact .inr rfl) (by rfl) (by first | rfl | (simp only [go_sem, Nat.reduceAdd, Nat.reduceMul, reduceIte, Nat.reduceEqDiff, Nat.reduceLeDiff, Int.reduceToNat, Int.reducePow, Int.reduceBEq, Int.reduceBNe, Int.reduceLT, Int.reduceLE, decide_true, decide_false, Nat.reduceBEq, Bool.or_self, Bool.or_true, Bool.true_or, Bool.or_false, Bool.false_or, Bool.and_true, Bool.true_and, Bool.and_false, Bool.false_and, Bool.and_self, Bool.not_true, Bool.not_false, List.cons_append, List.nil_append, List.append_nil, if_true, if_false, Bool.false_eq_true, keysH]; done)) (by rfl) ⟨.normal, 1000000001, _, rfl, by rfl, by rfl, ?_⟩
      simp only [go_sem, Nat.reduceAdd, Nat.reduceMul, reduceIte, Nat.reduceEqDiff, Nat.reduceLeDiff, Int.reduceToNat, Int.reducePow, Int.reduceBEq, Int.reduceBNe, Int.reduceLT, Int.reduceLE, decide_true, decide_false]
      refine hK9 _ ?_
      
      generalize appL t s t.ops.length = L at *
      (refine aw_le (le_sealDI 700 L.length L (by rfl) (by first | rfl | simp)) ?_; simp only [go_sem, Nat.reduceAdd, Nat.reduceMul, reduceIte, Nat.reduceEqDiff, Nat.reduceLeDiff, Int.reduceToNat, Int.reducePow, Int.reduceBEq, Int.reduceBNe, Int.reduceLT, Int.reduceLE, decide_true, decide_false])
      (repeat' (first | (refine hK _ ?_; clear hK K) | (refine aw_seq (fun K hK => ?_)) | (refine gR ?_; refine regS ?_) | (refine gD 3 ?_; refine drS (.it 0 0 (.it 1 0 (.it 2 3 .nil))) [0, 1] ?_) | (refine gC 40 ?_; refine callS (hv) ?_) | (refine gC 47 ?_; refine callS (successors_pc _ _) ?_) | (refine stk_op (fun K hK => ?_); (first | (refine aop_pv (pv_neq (by rfl) (by rfl)) ?_) | (refine aop_pv (pv_neqB (by rfl) (by rfl)) ?_) | (refine aop_pv (pv_neqA (by rfl) (by rfl) (by kernel_rfl)) ?_) | (refine appendS ?_) | (refine virtS 21 24 1 8 3 ?_; refine appendS ?_))) | (refine And.intro ?_ ?_) | (refine gDx ?_; refine adxS ?_) | (refine gO ?_; refine adoS ?_) | (refine gE ?_; (first | (refine exN ?_) | (refine exS (fun _ => ?_)))) | (refine gQ ?_; (first | (refine condT ?_) | (refine condF ?_) | (refine condS (fun hc => ?_) (fun hc => ?_) <;> (try (first | contradiction | (exfalso; omega)))))) | (refine gWd ?_; refine wdrS ?_) | (refine gW ?_; refine wopsS ?_) | (refine aw_block ?_) | (refine gX ?_; refine exitS ?_) | (refine gT ?_; refine retS ?_) | (refine gS ?_; refine skipS ?_) | (apply_assumption (exfalso := false) (symm := false))))
      (refine fin_le (Le.refl _) (rv_two (rv1_tmp (by rfl)) (rv1_cell (by first | exact pv_load (by rfl) (by rfl) (by rfl) (by rfl) | exact pv_loadA (by rfl) (by rfl) (by rfl) (by first | decide | simp)))) (by first | rfl | (simp only [go_sem, Nat.reduceAdd, Nat.reduceMul, reduceIte, Nat.reduceEqDiff, Nat.reduceLeDiff, Int.reduceToNat, Int.reducePow, Int.reduceBEq, Int.reduceBNe, Int.reduceLT, Int.reduceLE, decide_true, decide_false])) ?_)
      rfl
end Go.Proofs.Ythdlckclpmfidaa
