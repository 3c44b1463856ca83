import Derived.Test.YtbeceabheahpnaaSyu


namespace Go.Proofs.Ytbeceabheahpnaa
open Go.Ab
open Go
set_option linter.unusedSimpArgs false
set_option linter.unusedVariables false
set_option maxRecDepth 10000
attribute [local irreducible] PV AOp AOps AW PCall OCall MCall WCall HCall Ab.Fin OFin OFin2 MFin HFin RV RV1 Le AStk AGrd ADr ADx ADo AOpX AAny AOpsI wops wdr wgd wdt
set_option maxHeartbeats 4000000


/-! permutations, and the permutation of the operators that belongs to one of the facts -/
theorem isPermutation_pc (n : Int) (xs : List Int) : PCall Try.prog 33 [.int n, ints xs] (fun r => r = .bool (isPermB n xs)) := by
  (refine enterS Try.func33 Try.ntmps33 ?_)
  (refine aw_bound (i := 1) rfl (fun hb => ?_); (try simp only [List.length_map] at hb))
  have hs := sorted_pc xs (by omega)
  
  (repeat' (first | (refine hK _ ?_; clear hK K) | (refine aw_seq (fun K hK => ?_)) | (refine gR ?_; refine regS ?_) | (refine gC 52 ?_; refine callS (values_pc _) ?_) | (refine gC 51 ?_; refine callS (hs) ?_) | (refine gC 49 ?_; refine callS (isSet_pc _ _) ?_) | (refine stk_op (fun K hK => ?_); (first | (refine aop_pv (pv_eql (by rfl) (by rfl)) ?_) | (refine aop_pv (pv_eqlB (by rfl) (by rfl)) ?_) | (refine aop_pv (pv_eqlA (by rfl) (by rfl) (by kernel_rfl)) ?_))) | (refine gE ?_; (first | (refine exN ?_) | (refine exS (fun _ => ?_)))) | (refine gG ?_; refine guardS (fun hc => ?_) (fun hc => ?_) <;> (try (first | contradiction | (exfalso; omega)))) | (refine gQ ?_; (first | (refine condT ?_) | (refine condF ?_) | (refine condS (fun hc => ?_) (fun hc => ?_) <;> (try (first | contradiction | (exfalso; omega)))))) | (refine gW ?_; refine wopsS ?_) | (refine aw_block ?_) | (refine gX ?_; refine exitS ?_) | (refine gT ?_; refine retS ?_) | (refine gS ?_; refine skipS ?_) | (apply_assumption (exfalso := false) (symm := false))))
  all_goals (refine fin_le (Le.refl _) (rv_one (rv1_tmp (by rfl))) (by first | rfl | (simp only [go_sem, Nat.reduceAdd, Nat.reduceMul, reduceIte, Nat.reduceEqDiff, Nat.reduceLeDiff, Int.reduceToNat, Int.reducePow, Int.reduceBEq, Int.reduceBNe, Int.reduceLT, Int.reduceLE, decide_true, decide_false])) ?_)
  · unfold isPermB
    rw [decide_eq_true (by assumption), Bool.true_and]
  · unfold isPermB
    rw [decide_eq_false (by assumption), Bool.false_and]

def extR : Option (List Nat) → AV
  | none => .tup [.nilS, .bool false, fault 0 0]
  | some l => .tup [ints (l.map Int.ofNat), .bool true, fault 0 0]
theorem val_s {t : Task} {p : Int × Int} (e : taskFault t = p) : PCall Try.prog 32 [t.av] (fun r => r = faultP p) := by
  have := validate_pc t
  rw [e] at this
  exact this
theorem isPerm_s {n : Int} {xs : List Int} {b : Bool} (e : isPermB n xs = b) : PCall Try.prog 33 [.int n, ints xs] (fun r => r = .bool b) := by
  have := isPermutation_pc n xs
  rw [e] at this
  exact this
theorem ops_s {t : Task} {perm : List Int} {v : Option (List Nat)} (hw : WfT t) (hp : perm.length = t.facts) (e : extG t perm = v) : PCall Try.prog 34 [t.av, ints perm] (fun r => r = extV v) := by
  have := operators_pc t perm hw hp
  rw [e] at this
  exact this


theorem extend_ok (t : Task) (perm : List Int) (hf : taskFault t = (0, 0)) (hp : isPermB t.facts perm = true) : PCall Try.prog 12 [t.av, ints perm] (fun r => r = extR (extG t perm)) := by
  have hw := taskFault_ok.1 hf
  have hl : (perm.length : Int) = t.facts := by
    unfold isPermB at hp
    rw [Bool.and_eq_true, decide_eq_true_eq] at hp
    exact hp.1
  have h1 := isPerm_s hp
  have h2 := ops_s hw hl rfl
  
  cases hx : extG t perm with
  | none =>
    rw [hx] at h2
    unfold extV at h2
    
    (refine enterS Try.func12 Try.ntmps12 ?_)
    (repeat' (first | (refine hK _ ?_; clear hK K) | (refine aw_seq (fun K hK => ?_)) | (refine gR ?_; refine regS ?_) | (refine gD 3 ?_; refine drS (.it 0 0 (.it 1 0 (.it 2 0 (.it 3 3 .nil)))) [0, 1, 2] ?_) | (refine gC 32 ?_; refine callS (val_s hf) ?_) | (refine gC 33 ?_; refine callS (h1) ?_) | (refine gC 34 ?_; refine callS (h2) ?_) | (refine stk_op (fun K hK => ?_); (first | (refine aop_pv (pv_neq (by rfl) (by rfl)) ?_) | (refine aop_pv (pv_neqB (by rfl) (by rfl)) ?_) | (refine aop_pv (pv_neqA (by rfl) (by rfl) (by kernel_rfl)) ?_) | (refine aop_pv (pv_fieldAddrF (by rfl) (by rfl) (by first | decide | (simp; done) | (simp; omega))) ?_) | (refine aop_pv (pv_fieldAddrIF (by rfl) (by rfl) (by first | decide | (simp; done) | (simp; omega))) ?_))) | (refine And.intro ?_ ?_) | (refine gDx ?_; refine adxS ?_) | (refine gO ?_; refine adoS ?_) | (refine gE ?_; (first | (refine exN ?_) | (refine exS (fun _ => ?_)))) | (refine gQ ?_; (first | (refine condT ?_) | (refine condF ?_) | (refine condS (fun hc => ?_) (fun hc => ?_) <;> (try (first | contradiction | (exfalso; omega)))))) | (refine gWd ?_; refine wdrS ?_) | (refine gW ?_; refine wopsS ?_) | (refine aw_block ?_) | (refine gX ?_; refine exitS ?_) | (refine gT ?_; refine retS ?_) | (refine gS ?_; refine skipS ?_) | (apply_assumption (exfalso := false) (symm := false))))
    (refine fin_le (Le.refl _) (rv_three (rv1_tmp (by rfl)) (rv1_tmp (by rfl)) (rv1_cell (by first | exact pv_load (by rfl) (by rfl) (by rfl) (by rfl) | exact pv_loadA (by rfl) (by rfl) (by rfl) (by first | decide | simp)))) (by first | rfl | (simp only [go_sem, Nat.reduceAdd, Nat.reduceMul, reduceIte, Nat.reduceEqDiff, Nat.reduceLeDiff, Int.reduceToNat, Int.reducePow, Int.reduceBEq, Int.reduceBNe, Int.reduceLT, Int.reduceLE, decide_true, decide_false])) ?_)
    rfl
  | some l =>
    rw [hx] at h2
    unfold extV at h2
    
    (refine enterS Try.func12 Try.ntmps12 ?_)
    (repeat' (first | (refine hK _ ?_; clear hK K) | (refine aw_seq (fun K hK => ?_)) | (refine gR ?_; refine regS ?_) | (refine gD 3 ?_; refine drS (.it 0 0 (.it 1 0 (.it 2 0 (.it 3 3 .nil)))) [0, 1, 2] ?_) | (refine gC 32 ?_; refine callS (val_s hf) ?_) | (refine gC 33 ?_; refine callS (h1) ?_) | (refine gC 34 ?_; refine callS (h2) ?_) | (refine stk_op (fun K hK => ?_); (first | (refine aop_pv (pv_neq (by rfl) (by rfl)) ?_) | (refine aop_pv (pv_neqB (by rfl) (by rfl)) ?_) | (refine aop_pv (pv_neqA (by rfl) (by rfl) (by kernel_rfl)) ?_) | (refine aop_pv (pv_fieldAddrF (by rfl) (by rfl) (by first | decide | (simp; done) | (simp; omega))) ?_) | (refine aop_pv (pv_fieldAddrIF (by rfl) (by rfl) (by first | decide | (simp; done) | (simp; omega))) ?_))) | (refine And.intro ?_ ?_) | (refine gDx ?_; refine adxS ?_) | (refine gO ?_; refine adoS ?_) | (refine gE ?_; (first | (refine exN ?_) | (refine exS (fun _ => ?_)))) | (refine gQ ?_; (first | (refine condT ?_) | (refine condF ?_) | (refine condS (fun hc => ?_) (fun hc => ?_) <;> (try (first | contradiction | (exfalso; omega)))))) | (refine gWd ?_; refine wdrS ?_) | (refine gW ?_; refine wopsS ?_) | (refine aw_block ?_) | (refine gX ?_; refine exitS ?_) | (refine gT ?_; refine retS ?_) | (refine gS ?_; refine skipS ?_) | (apply_assumption (exfalso := false) (symm := false))))
    (refine fin_le (Le.refl _) (rv_three (rv1_tmp (by rfl)) (rv1_tmp (by rfl)) (rv1_cell (by first | exact pv_load (by rfl) (by rfl) (by rfl) (by rfl) | exact pv_loadA (by rfl) (by rfl) (by rfl) (by first | decide | simp)))) (by first | rfl | (simp only [go_sem, Nat.reduceAdd, Nat.reduceMul, reduceIte, Nat.reduceEqDiff, Nat.reduceLeDiff, Int.reduceToNat, Int.reducePow, Int.reduceBEq, Int.reduceBNe, Int.reduceLT, Int.reduceLE, decide_true, decide_false])) ?_)
    rfl

theorem extend_no (t : Task) (perm : List Int) (hf : taskFault t = (0, 0)) (hp : isPermB t.facts perm = false) : PCall Try.prog 12 [t.av, ints perm] (fun r => r = .tup [.nilS, .bool false, fault 5 (-8)]) := by
  have h1 := isPerm_s hp
  
  (refine enterS Try.func12 Try.ntmps12 ?_)
  (repeat' (first | (refine hK _ ?_; clear hK K) | (refine aw_seq (fun K hK => ?_)) | (refine gR ?_; refine regS ?_) | (refine gD 3 ?_; refine drS (.it 0 0 (.it 1 0 (.it 2 0 (.it 3 3 .nil)))) [0, 1, 2] ?_) | (refine gC 32 ?_; refine callS (val_s hf) ?_) | (refine gC 33 ?_; refine callS (h1) ?_) | (refine stk_op (fun K hK => ?_); (first | (refine aop_pv (pv_neq (by rfl) (by rfl)) ?_) | (refine aop_pv (pv_neqB (by rfl) (by rfl)) ?_) | (refine aop_pv (pv_neqA (by rfl) (by rfl) (by kernel_rfl)) ?_) | (refine aop_pv (pv_fieldAddrF (by rfl) (by rfl) (by first | decide | (simp; done) | (simp; omega))) ?_) | (refine aop_pv (pv_fieldAddrIF (by rfl) (by rfl) (by first | decide | (simp; done) | (simp; omega))) ?_))) | (refine And.intro ?_ ?_) | (refine gDx ?_; refine adxS ?_) | (refine gO ?_; refine adoS ?_) | (refine gE ?_; (first | (refine exN ?_) | (refine exS (fun _ => ?_)))) | (refine gQ ?_; (first | (refine condT ?_) | (refine condF ?_) | (refine condS (fun hc => ?_) (fun hc => ?_) <;> (try (first | contradiction | (exfalso; omega)))))) | (refine gWd ?_; refine wdrS ?_) | (refine gW ?_; refine wopsS ?_) | (refine aw_block ?_) | (refine gX ?_; refine exitS ?_) | (refine gT ?_; refine retS ?_) | (refine gS ?_; refine skipS ?_) | (apply_assumption (exfalso := false) (symm := false))))
  (refine fin_le (Le.refl _) (rv_three (rv1_tmp (by rfl)) (rv1_tmp (by rfl)) (rv1_cell (by first | exact pv_load (by rfl) (by rfl) (by rfl) (by rfl) | exact pv_loadA (by rfl) (by rfl) (by rfl) (by first | decide | simp)))) (by first | rfl | (simp only [go_sem, Nat.reduceAdd, Nat.reduceMul, reduceIte, Nat.reduceEqDiff, Nat.reduceLeDiff, Int.reduceToNat, Int.reducePow, Int.reduceBEq, Int.reduceBNe, Int.reduceLT, Int.reduceLE, decide_true, decide_false])) ?_)
  rfl

theorem extend_bad (t : Task) (perm : List Int) (p : Int × Int) (hf : taskFault t = p) (hp : p.1 ≠ 0) : PCall Try.prog 12 [t.av, ints perm] (fun r => r = .tup [.nilS, .bool false, faultP p]) := by
  (refine enterS Try.func12 Try.ntmps12 ?_)
  (repeat' (first | (refine hK _ ?_; clear hK K) | (refine aw_seq (fun K hK => ?_)) | (refine gR ?_; refine regS ?_) | (refine gD 3 ?_; refine drS (.it 0 0 (.it 1 0 (.it 2 0 (.it 3 3 .nil)))) [0, 1, 2] ?_) | (refine gC 32 ?_; refine callS (val_s hf) ?_) | (refine stk_op (fun K hK => ?_); (first | (refine aop_pv (pv_neq (by rfl) (by rfl)) ?_) | (refine aop_pv (pv_neqB (by rfl) (by rfl)) ?_) | (refine aop_pv (pv_neqA (by rfl) (by rfl) (by kernel_rfl)) ?_) | (refine aop_pv (pv_fieldAddrF (by rfl) (by rfl) (by first | decide | (simp; done) | (simp; omega))) ?_) | (refine aop_pv (pv_fieldAddrIF (by rfl) (by rfl) (by first | decide | (simp; done) | (simp; omega))) ?_))) | (refine And.intro ?_ ?_) | (refine gDx ?_; refine adxS ?_) | (refine gO ?_; refine adoS ?_) | (refine gE ?_; (first | (refine exN ?_) | (refine exS (fun _ => ?_)))) | (refine gQ ?_; (first | (refine condT ?_) | (refine condF ?_) | (refine condS (fun hc => ?_) (fun hc => ?_) <;> (try (first | contradiction | (exfalso; omega)))))) | (refine gWd ?_; refine wdrS ?_) | (refine gW ?_; refine wopsS ?_) | (refine aw_block ?_) | (refine gX ?_; refine exitS ?_) | (refine gT ?_; refine retS ?_) | (refine gS ?_; refine skipS ?_) | (apply_assumption (exfalso := false) (symm := false))))
  all_goals (refine fin_le (Le.refl _) (rv_three (rv1_tmp (by rfl)) (rv1_tmp (by rfl)) (rv1_cell (by first | exact pv_load (by rfl) (by rfl) (by rfl) (by rfl) | exact pv_loadA (by rfl) (by rfl) (by rfl) (by first | decide | simp)))) (by first | rfl | (simp only [go_sem, Nat.reduceAdd, Nat.reduceMul, reduceIte, Nat.reduceEqDiff, Nat.reduceLeDiff, Int.reduceToNat, Int.reducePow, Int.reduceBEq, Int.reduceBNe, Int.reduceLT, Int.reduceLE, decide_true, decide_false])) ?_)
  all_goals rfl
end Go.Proofs.Ytbeceabheahpnaa
