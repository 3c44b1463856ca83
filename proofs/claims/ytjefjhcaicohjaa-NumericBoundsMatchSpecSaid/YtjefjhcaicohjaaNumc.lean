import Derived.Test.YtjefjhcaicohjaaNumb

namespace Go.Proofs.Ytjefjhcaicohjaa
open Go.Ab
open Go
set_option linter.unusedSimpArgs false
set_option linter.unusedVariables false
set_option maxRecDepth 10000
attribute [local irreducible] PV AOp AOps AW PCall OCall Ab.Fin OFin RV RV1 Le AStk AGrd ADr ADx ADo AOpX AAny
set_option maxHeartbeats 4000000
theorem inB_t (n a b : Int) : (inB n a b = true) = (a ≤ n ∧ n ≤ b) := by simp [inB]
theorem inB_f (n a b : Int) : (inB n a b = false) = (n < a ∨ b < n) := by
  apply propext; unfold inB; simp only [Bool.and_eq_false_iff, decide_eq_false_iff_not]; omega
attribute [go_sem] inB_t inB_f

def opAt (n : Int) (l : List NOp) (i : Nat) : Option (Int × Int) := (opCode n l[i]!).map fun e => (e, (i : Int))
def numFault (t : NT) : Int × Int :=
  if t.init.length = 0 ∨ 8 < t.init.length then (2, -1) else if listOk 1000000 t.init.length t.init = false then (5, -2) else
  match cmpCode t.init.length t.goal with
  | some e => (e, -3)
  | none => if 40 < t.ops.length then (2, -1) else (firstSome (opAt t.init.length t.ops) t.ops.length).getD (0, 0)
abbrev faultP (p : Int × Int) : AV := fault p.1 p.2
theorem opCode_ne {n : Int} {o : NOp} {e : Int} (h : opCode n o = some e) : e ≠ 0 := by
  unfold opCode at h
  cases h1 : cmpCode n o.pre with
  | some a => rw [h1] at h; simp at h; subst h; exact cmpCode_ne h1
  | none =>
    rw [h1] at h
    cases h2 : chgCode n o.chg with
    | some a => rw [h2] at h; simp at h; subst h; exact chgCode_ne h2
    | none => rw [h2] at h; simp [costCode] at h; omega
theorem nf_a {t : NT} (h : t.init.length = 0 ∨ 8 < t.init.length) : numFault t = (2, -1) := by rw [numFault, if_pos h]
theorem nf_b {t : NT} (h : ¬ (t.init.length = 0 ∨ 8 < t.init.length)) (h2 : listOk 1000000 t.init.length t.init = false) : numFault t = (5, -2) := by rw [numFault, if_neg h, if_pos h2]
theorem nf_c {t : NT} (h : ¬ (t.init.length = 0 ∨ 8 < t.init.length)) (h2 : listOk 1000000 t.init.length t.init = true) {e : Int} (h3 : cmpCode t.init.length t.goal = some e) : numFault t = (e, -3) := by
  rw [numFault, if_neg h, if_neg (by rw [h2]; simp), h3]
theorem nf_d {t : NT} (h : ¬ (t.init.length = 0 ∨ 8 < t.init.length)) (h2 : listOk 1000000 t.init.length t.init = true) (h3 : cmpCode t.init.length t.goal = none) (h4 : 40 < t.ops.length) : numFault t = (2, -1) := by
  rw [numFault, if_neg h, if_neg (by rw [h2]; simp), h3]; simp only [if_pos h4]
theorem nf_e {t : NT} (h : ¬ (t.init.length = 0 ∨ 8 < t.init.length)) (h2 : listOk 1000000 t.init.length t.init = true) (h3 : cmpCode t.init.length t.goal = none) (h4 : ¬ 40 < t.ops.length) : numFault t = (firstSome (opAt t.init.length t.ops) t.ops.length).getD (0, 0) := by
  rw [numFault, if_neg h, if_neg (by rw [h2]; simp), h3]; simp only [if_neg h4]
theorem chg_bad1 {n i pv : Int} {c : Chg} (h : c.var < 0 ∨ n ≤ c.var) : chgCode1 n i pv c = some 3 := by
  rw [chgCode1, if_pos (by rcases h with h | h; exact .inl h; exact .inr (.inl h))]
theorem chg_bad2 {n i pv : Int} {c : Chg} (h : listOk 1000 n c.f = false) : chgCode1 n i pv c = some 3 := by
  rw [chgCode1, if_pos (.inr (.inr (.inl h)))]
theorem chg_bad3 {n i pv : Int} {c : Chg} (h : c.const < -1000 ∨ 1000 < c.const) : chgCode1 n i pv c = some 3 := by
  rw [chgCode1, if_pos (by rw [inB_f]; exact .inr (.inr (.inr h)))]
theorem chg_order {n i pv : Int} {c : Chg} (h0 : ¬ (c.var < 0 ∨ n ≤ c.var)) (h1 : listOk 1000 n c.f = true) (h2 : -1000 ≤ c.const ∧ c.const ≤ 1000) (h3 : 0 < i ∧ c.var ≤ pv) : chgCode1 n i pv c = some 5 := by
  rw [chgCode1, if_neg (by rw [inB_f, h1]; simp; omega), if_pos h3]
theorem chg_ok {n i pv : Int} {c : Chg} (h0 : ¬ (c.var < 0 ∨ n ≤ c.var)) (h1 : listOk 1000 n c.f = true) (h2 : -1000 ≤ c.const ∧ c.const ≤ 1000) (h3 : ¬ (0 < i ∧ c.var ≤ pv)) : chgCode1 n i pv c = none := by
  rw [chgCode1, if_neg (by rw [inB_f, h1]; simp; omega), if_neg h3]
theorem opAt_eq {n : Int} {l : List NOp} {k : Nat} (h : k < l.length) : opAt n l k = (opCode n l[k]).map fun e => (e, (k : Int)) := by simp [opAt, h]
theorem validate_pc (t : NT) : PCall Try.prog 41 [t.av] (fun r => r = faultP (numFault t)) := by
  have z1 := code_zero (o := cmpCode t.init.length t.goal) fun e => cmpCode_ne
  (refine enterS Try.func41 Try.ntmps41 ?_)
  (repeat' (first | (refine hK _ ?_; clear hK K) | (refine aw_seq (fun K hK => ?_)) | (refine gR ?_; refine regS ?_) | (refine gE ?_; (first | (refine exN ?_) | (refine exS (fun _ => ?_)))) | (refine gC 79 ?_; refine callS (values_pc _ _) ?_) | (refine gC 80 ?_; refine callS (comparisons_pc _ _) ?_) | (refine gC 81 ?_; refine callS (operator_pc _ _) ?_) | (refine stk_op (fun K hK => ?_); (first | (refine aop_pv (pv_fieldAddrF (by rfl) (by rfl) (by first | decide | (simp; done) | (simp; omega))) ?_) | (refine aop_pv (pv_fieldAddrIF (by rfl) (by rfl) (by first | decide | (simp; done) | (simp; omega))) ?_) | (refine aop_pv (pv_eql (by rfl) (by rfl)) ?_) | (refine aop_pv (pv_eqlB (by rfl) (by rfl)) ?_) | (refine aop_pv (pv_eqlA (by rfl) (by rfl) (by kernel_rfl)) ?_) | (refine aop_pv (pv_neq (by rfl) (by rfl)) ?_) | (refine aop_pv (pv_neqB (by rfl) (by rfl)) ?_) | (refine aop_pv (pv_neqA (by rfl) (by rfl) (by kernel_rfl)) ?_))) | (refine gQ ?_; (first | (refine condT ?_) | (refine condF ?_) | (refine condS (fun hc => ?_) (fun hc => ?_) <;> (try (first | contradiction | (exfalso; omega)))))) | (refine gG ?_; refine guardS (fun hc => ?_) (fun hc => ?_) <;> (try (first | contradiction | (exfalso; omega)))) | (refine gW ?_; refine wopsS ?_) | (refine aw_block ?_) | (refine gX ?_; refine exitS ?_) | (refine gT ?_; refine retS ?_) | (refine gS ?_; refine skipS ?_) | (apply_assumption (exfalso := false) (symm := false))))
  · (refine fin_le (Le.refl _) (rv_one (rv1_cell (by first | exact pv_load (by rfl) (by rfl) (by rfl) (by rfl) | exact pv_loadA (by rfl) (by rfl) (by rfl) (by first | decide | simp)))) (by first | rfl | (simp only [go_sem, Nat.reduceAdd, Nat.reduceMul, reduceIte, Nat.reduceEqDiff, Nat.reduceLeDiff, Int.reduceBEq, Int.reduceBNe, Int.reduceLT, Int.reduceLE, decide_true, decide_false])) ?_)
    rw [nf_a (by omega)]
    rfl
  · (refine fin_le (Le.refl _) (rv_one (rv1_cell (by first | exact pv_load (by rfl) (by rfl) (by rfl) (by rfl) | exact pv_loadA (by rfl) (by rfl) (by rfl) (by first | decide | simp)))) (by first | rfl | (simp only [go_sem, Nat.reduceAdd, Nat.reduceMul, reduceIte, Nat.reduceEqDiff, Nat.reduceLeDiff, Int.reduceBEq, Int.reduceBNe, Int.reduceLT, Int.reduceLE, decide_true, decide_false])) ?_)
    rw [nf_a (by omega)]
    rfl
  · (refine fin_le (Le.refl _) (rv_one (rv1_cell (by first | exact pv_load (by rfl) (by rfl) (by rfl) (by rfl) | exact pv_loadA (by rfl) (by rfl) (by rfl) (by first | decide | simp)))) (by first | rfl | (simp only [go_sem, Nat.reduceAdd, Nat.reduceMul, reduceIte, Nat.reduceEqDiff, Nat.reduceLeDiff, Int.reduceBEq, Int.reduceBNe, Int.reduceLT, Int.reduceLE, decide_true, decide_false])) ?_)
    rw [nf_b (by omega) ‹_›]
    rfl
  · (refine fin_le (Le.refl _) (rv_one (rv1_cell (by first | exact pv_load (by rfl) (by rfl) (by rfl) (by rfl) | exact pv_loadA (by rfl) (by rfl) (by rfl) (by first | decide | simp)))) (by first | rfl | (simp only [go_sem, Nat.reduceAdd, Nat.reduceMul, reduceIte, Nat.reduceEqDiff, Nat.reduceLeDiff, Int.reduceBEq, Int.reduceBNe, Int.reduceLT, Int.reduceLE, decide_true, decide_false])) ?_)
    cases hA : cmpCode t.init.length t.goal with
    | none => simp_all
    | some e => rw [nf_c (by omega) ‹_› hA]; rfl
  · (refine fin_le (Le.refl _) (rv_one (rv1_cell (by first | exact pv_load (by rfl) (by rfl) (by rfl) (by rfl) | exact pv_loadA (by rfl) (by rfl) (by rfl) (by first | decide | simp)))) (by first | rfl | (simp only [go_sem, Nat.reduceAdd, Nat.reduceMul, reduceIte, Nat.reduceEqDiff, Nat.reduceLeDiff, Int.reduceBEq, Int.reduceBNe, Int.reduceLT, Int.reduceLE, decide_true, decide_false])) ?_)
    rw [nf_d (by omega) ‹_› (z1.1 ‹_›) (by omega)]
    rfl
  have he := nf_e (t := t) (by omega) ‹_› (z1.1 ‹_›) (by omega)
  have hf : firstSome (opAt t.init.length t.ops) t.ops.length = none → numFault t = (0, 0) := by intro h; rw [he, h]; rfl
  have hs : ∀ p, firstSome (opAt t.init.length t.ops) t.ops.length = some p → numFault t = p := by intro p h; rw [he, h]; rfl
  refine aw_loop_at [5, 6, 7, 42, 43, 44, 45, 46, 47, 48, 49, 50, 51, 52, 53, 54, 55] (fun k : Nat => k ≤ t.ops.length ∧ firstSome (opAt t.init.length t.ops) k = none) (fun k => t.ops.length - k) (fun k => [(42, .int k)])
    (fun _ => [(1, ⟨62, [ints t.init, .isl 3 40 (t.goal.map Cmp.av), .isl 3 56 (t.ops.map NOp.av)], true⟩), (2, ⟨27, [.int 0, .int 0], true⟩)]) 0 ⟨by omega, rfl⟩ ?_ ?_
  · (simp only [sets, havoc, go_sem, Nat.reduceAdd, Nat.reduceMul, reduceIte, Nat.reduceEqDiff, Nat.reduceLeDiff, Int.reduceBEq, Int.reduceBNe, Int.reduceLT, Int.reduceLE, decide_true, decide_false])
    (exact weakS)
  · rintro k ⟨hk, hn⟩ K hK
    (simp only [sets, havoc, go_sem, Nat.reduceAdd, Nat.reduceMul, reduceIte, Nat.reduceEqDiff, Nat.reduceLeDiff, Int.reduceBEq, Int.reduceBNe, Int.reduceLT, Int.reduceLE, decide_true, decide_false])
    by_cases hlt : k < t.ops.length
    · have hkk := opAt_eq (n := t.init.length) hlt
      have z2 := code_zero (o := opCode t.init.length t.ops[k]) fun e => opCode_ne
      (repeat' (first | (refine hK _ ?_; clear hK K) | (refine aw_seq (fun K hK => ?_)) | (refine gR ?_; refine regS ?_) | (refine gE ?_; (first | (refine exN ?_) | (refine exS (fun _ => ?_)))) | (refine gC 79 ?_; refine callS (values_pc _ _) ?_) | (refine gC 80 ?_; refine callS (comparisons_pc _ _) ?_) | (refine gC 81 ?_; refine callS (operator_pc _ _) ?_) | (refine stk_op (fun K hK => ?_); (first | (refine aop_pv (pv_fieldAddrF (by rfl) (by rfl) (by first | decide | (simp; done) | (simp; omega))) ?_) | (refine aop_pv (pv_fieldAddrIF (by rfl) (by rfl) (by first | decide | (simp; done) | (simp; omega))) ?_) | (refine aop_pv (pv_eql (by rfl) (by rfl)) ?_) | (refine aop_pv (pv_eqlB (by rfl) (by rfl)) ?_) | (refine aop_pv (pv_eqlA (by rfl) (by rfl) (by kernel_rfl)) ?_) | (refine aop_pv (pv_neq (by rfl) (by rfl)) ?_) | (refine aop_pv (pv_neqB (by rfl) (by rfl)) ?_) | (refine aop_pv (pv_neqA (by rfl) (by rfl) (by kernel_rfl)) ?_))) | (refine gQ ?_; (first | (refine condT ?_) | (refine condF ?_) | (refine condS (fun hc => ?_) (fun hc => ?_) <;> (try (first | contradiction | (exfalso; omega)))))) | (refine gG ?_; refine guardS (fun hc => ?_) (fun hc => ?_) <;> (try (first | contradiction | (exfalso; omega)))) | (refine gW ?_; refine wopsS ?_) | (refine aw_block ?_) | (refine gX ?_; refine exitS ?_) | (refine gT ?_; refine retS ?_) | (refine gS ?_; refine skipS ?_) | (apply_assumption (exfalso := false) (symm := false))))
      · (refine fin_le (Le.refl _) (rv_one (rv1_cell (by first | exact pv_load (by rfl) (by rfl) (by rfl) (by rfl) | exact pv_loadA (by rfl) (by rfl) (by rfl) (by first | decide | simp)))) (by first | rfl | (simp only [go_sem, Nat.reduceAdd, Nat.reduceMul, reduceIte, Nat.reduceEqDiff, Nat.reduceLeDiff, Int.reduceBEq, Int.reduceBNe, Int.reduceLT, Int.reduceLE, decide_true, decide_false])) ?_)
        cases hA : opCode t.init.length t.ops[k] with
        | none => simp_all
        | some e => rw [hs (e, k) (firstSome_hit hn (by rw [hkk, hA]; rfl) hlt)]; rfl
      · (refine ⟨k + 1, ⟨by omega, firstSome_step hn (by rw [hkk, z2.1 ‹_›]; rfl)⟩, by omega, ?_⟩; (simp only [sets, havoc, go_sem, Nat.reduceAdd, Nat.reduceMul, reduceIte, Nat.reduceEqDiff, Nat.reduceLeDiff, Int.reduceBEq, Int.reduceBNe, Int.reduceLT, Int.reduceLE, decide_true, decide_false]); (exact weakS))
    · (repeat' (first | (refine hK _ ?_; clear hK K) | (refine aw_seq (fun K hK => ?_)) | (refine gR ?_; refine regS ?_) | (refine gE ?_; (first | (refine exN ?_) | (refine exS (fun _ => ?_)))) | (refine gC 79 ?_; refine callS (values_pc _ _) ?_) | (refine gC 80 ?_; refine callS (comparisons_pc _ _) ?_) | (refine gC 81 ?_; refine callS (operator_pc _ _) ?_) | (refine stk_op (fun K hK => ?_); (first | (refine aop_pv (pv_fieldAddrF (by rfl) (by rfl) (by first | decide | (simp; done) | (simp; omega))) ?_) | (refine aop_pv (pv_fieldAddrIF (by rfl) (by rfl) (by first | decide | (simp; done) | (simp; omega))) ?_) | (refine aop_pv (pv_eql (by rfl) (by rfl)) ?_) | (refine aop_pv (pv_eqlB (by rfl) (by rfl)) ?_) | (refine aop_pv (pv_eqlA (by rfl) (by rfl) (by kernel_rfl)) ?_) | (refine aop_pv (pv_neq (by rfl) (by rfl)) ?_) | (refine aop_pv (pv_neqB (by rfl) (by rfl)) ?_) | (refine aop_pv (pv_neqA (by rfl) (by rfl) (by kernel_rfl)) ?_))) | (refine gQ ?_; (first | (refine condT ?_) | (refine condF ?_) | (refine condS (fun hc => ?_) (fun hc => ?_) <;> (try (first | contradiction | (exfalso; omega)))))) | (refine gG ?_; refine guardS (fun hc => ?_) (fun hc => ?_) <;> (try (first | contradiction | (exfalso; omega)))) | (refine gW ?_; refine wopsS ?_) | (refine aw_block ?_) | (refine gX ?_; refine exitS ?_) | (refine gT ?_; refine retS ?_) | (refine gS ?_; refine skipS ?_) | (apply_assumption (exfalso := false) (symm := false))))
      (refine fin_le (Le.refl _) (rv_one (rv1_cell (by first | exact pv_load (by rfl) (by rfl) (by rfl) (by rfl) | exact pv_loadA (by rfl) (by rfl) (by rfl) (by first | decide | simp)))) (by first | rfl | (simp only [go_sem, Nat.reduceAdd, Nat.reduceMul, reduceIte, Nat.reduceEqDiff, Nat.reduceLeDiff, Int.reduceBEq, Int.reduceBNe, Int.reduceLT, Int.reduceLE, decide_true, decide_false])) ?_)
      obtain rfl : k = t.ops.length := by omega
      rw [hf hn]
      rfl

theorem firstSome_mono {α : Type} {g : Nat → Option α} {k n : Nat} {a : α} (h : firstSome g k = some a) (hn : k ≤ n) : firstSome g n = some a := by
  induction n with
  | zero => obtain rfl : k = 0 := by omega
            exact h
  | succ n ih =>
    rcases Nat.lt_or_ge n k with h1 | h1
    · obtain rfl : k = n + 1 := by omega
      exact h
    · simp [firstSome, ih h1]
end Go.Proofs.Ytjefjhcaicohjaa
