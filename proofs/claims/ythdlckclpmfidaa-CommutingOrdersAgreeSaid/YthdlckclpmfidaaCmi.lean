import Derived.Test.YthdlckclpmfidaaSto
import Derived.Test.YthdlckclpmfidaaAbk


namespace Go.Proofs.Ythdlckclpmfidaa
open Go.Ab
open Go
set_option linter.unusedSimpArgs false
set_option linter.unusedVariables false
set_option maxRecDepth 10000
attribute [local irreducible] PV AOp AOps AW PCall OCall MCall WCall HCall Ab.Fin OFin OFin2 MFin HFin RV RV1 Le AStk AGrd ADr ADx ADo AOpX AAny AOpsI wops wdr wgd wdt
set_option maxHeartbeats 4000000
/-! operators that do not influence each other -/
def freeB (a b : Op) : Bool := disB a.add b.pre && disB a.del b.pre && disB a.add b.del
def indB (a b : Op) : Bool := freeB a b && freeB b a
theorem disB_symm (a b : List Int) : disB a b = disB b a := by
  rw [Bool.eq_iff_iff, disB_iff, disB_iff]
  exact ⟨fun h x hx hx2 => h x hx2 hx, fun h x hx hx2 => h x hx2 hx⟩
theorem indB_symm (a b : Op) : indB a b = indB b a := by unfold indB; rw [Bool.and_comm]
structure SetOp (o : Op) : Prop where
  pre : o.pre.Pairwise (· < ·)
  add : o.add.Pairwise (· < ·)
  del : o.del.Pairwise (· < ·)
theorem setOp_of {t : Task} (hw : WfT t) {i : Nat} (hi : i < t.ops.length) : SetOp t.ops[i] := by
  obtain ⟨h, _, h1, h2, h3⟩ := opAtN hw (x := i) ⟨by omega, by omega⟩
  exact ⟨(isSet_iff.1 h1).2, (isSet_iff.1 h2).2, (isSet_iff.1 h3).2⟩


theorem free_pc (a b : Op) (h1 : b.pre.Pairwise (· < ·)) (h2 : b.del.Pairwise (· < ·)) : PCall Try.prog 54 [a.av, b.av] (fun r => r = .bool (freeB a b)) := by
  (refine enterS Try.func54 Try.ntmps54 ?_)
  (repeat' (first | (refine hK _ ?_; clear hK K) | (refine aw_seq (fun K hK => ?_)) | (refine gR ?_; refine regS ?_) | (refine gC 55 ?_; refine callS (meets_pc _ _ (by assumption)) ?_) | (refine gE ?_; refine exN ?_) | (refine gG ?_; refine guardS (fun hc => ?_) (fun hc => ?_) <;> (try (first | contradiction | (exfalso; omega)))) | (refine gT ?_; refine retS ?_)))
  all_goals (refine fin_le (Le.refl _) (rv_one (rv1_tmp (by rfl))) (by first | rfl | (simp only [go_sem, Nat.reduceAdd, Nat.reduceMul, reduceIte, Nat.reduceEqDiff, Nat.reduceLeDiff, Int.reduceToNat, Int.reducePow, Int.reduceBEq, Int.reduceBNe, Int.reduceLT, Int.reduceLE, decide_true, decide_false])) ?_)
  all_goals (simp_all [freeB]; done)
theorem independent_pc (a b : Op) (ha : SetOp a) (hb : SetOp b) : PCall Try.prog 33 [a.av, b.av] (fun r => r = .bool (indB a b)) := by
  have h1 := free_pc a b hb.pre hb.del
  have h2 := free_pc b a ha.pre ha.del
  (refine enterS Try.func33 Try.ntmps33 ?_)
  (repeat' (first | (refine hK _ ?_; clear hK K) | (refine aw_seq (fun K hK => ?_)) | (refine gR ?_; refine regS ?_) | (refine stk_op (fun K hK => ?_); (first | ((refine aop_callV (by rfl) h1 (by rfl) (fun x hx => ?_); obtain rfl := hx)) | ((refine aop_callV (by rfl) h2 (by rfl) (fun x hx => ?_); obtain rfl := hx)))) | (refine gE ?_; refine exN ?_) | (refine gG ?_; refine guardS (fun hc => ?_) (fun hc => ?_) <;> (try (first | contradiction | (exfalso; omega)))) | (refine gW ?_; refine wopsS ?_) | (refine gT ?_; refine retS ?_)))
  all_goals (refine fin_le (Le.refl _) (rv_one (rv1_tmp (by rfl))) (by first | rfl | (simp only [go_sem, Nat.reduceAdd, Nat.reduceMul, reduceIte, Nat.reduceEqDiff, Nat.reduceLeDiff, Int.reduceToNat, Int.reducePow, Int.reduceBEq, Int.reduceBNe, Int.reduceLT, Int.reduceLE, decide_true, decide_false])) ?_)
  all_goals (simp_all [indB]; done)
def commuteB (a b : Op) : Bool := disB a.add b.pre && disB a.del b.pre && disB b.add a.pre && disB b.del a.pre && disB a.add b.del && disB b.add a.del
theorem commute_eq (a b : Op) : commuteB a b = indB a b := by
  unfold commuteB indB freeB
  cases disB a.add b.pre <;> cases disB a.del b.pre <;> cases disB b.add a.pre <;> cases disB b.del a.pre <;> cases disB a.add b.del <;> cases disB b.add a.del <;> rfl
theorem commute_pc (a b : Op) : PCall Try.prog 13 [a.av, b.av] (fun r => r = .bool (indB a b)) := by
  rw [← commute_eq]
  (refine enterS Try.func13 Try.ntmps13 ?_)
  (repeat' (first | (refine hK _ ?_; clear hK K) | (refine aw_seq (fun K hK => ?_)) | (refine gR ?_; refine regS ?_) | (refine gC 24 ?_; refine callS (disjoint_pc _ _) ?_) | (refine gE ?_; refine exN ?_) | (refine gG ?_; refine guardS (fun hc => ?_) (fun hc => ?_) <;> (try (first | contradiction | (exfalso; omega)))) | (refine gT ?_; refine retS ?_)))
  all_goals (refine fin_le (Le.refl _) (rv_one (rv1_tmp (by rfl))) (by first | rfl | (simp only [go_sem, Nat.reduceAdd, Nat.reduceMul, reduceIte, Nat.reduceEqDiff, Nat.reduceLeDiff, Int.reduceToNat, Int.reducePow, Int.reduceBEq, Int.reduceBNe, Int.reduceLT, Int.reduceLE, decide_true, decide_false])) ?_)
  all_goals (simp_all [commuteB]; done)
/-! the first fact that is missing -/
def missF (s want : List Int) : Int := (want.find? fun p => !hasB s p).getD (-1)
theorem missF_hit {s want : List Int} {k : Nat} (hk : k < want.length) (hn : ∀ i (hi : i < want.length), i < k → hasB s want[i] = true) (h : hasB s want[k] = false) : missF s want = want[k] := by
  have e : want = want.take k ++ want[k] :: want.drop (k + 1) := by rw [List.getElem_cons_drop, List.take_append_drop]
  unfold missF
  conv => lhs; rw [e]
  rw [List.find?_append, List.find?_eq_none.2, Option.none_or, List.find?_cons_of_pos (by simp [h])]
  · rfl
  · intro x hx
    obtain ⟨i, hi, he⟩ := List.getElem_of_mem hx
    rw [List.getElem_take] at he
    rw [List.length_take] at hi
    have := hn i (by omega) (by omega)
    rw [he] at this
    simp [this]
theorem missF_none {s want : List Int} (hn : ∀ i (hi : i < want.length), hasB s want[i] = true) : missF s want = -1 := by
  unfold missF
  rw [List.find?_eq_none.2]
  · rfl
  · intro x hx
    obtain ⟨i, hi, he⟩ := List.getElem_of_mem hx
    have := hn i hi
    rw [he] at this
    simp [this]
theorem missF_neg {s want : List Int} (h0 : ∀ x ∈ want, 0 ≤ x) : missF s want < 0 ↔ subB want s = true := by
  unfold missF
  cases h : want.find? (fun p => !hasB s p) with
  | none =>
    rw [List.find?_eq_none] at h
    simp only [Option.getD_none, subB_iff]
    refine ⟨fun _ x hx => ?_, fun _ => by omega⟩
    have := h x hx
    simpa [hasB] using this
  | some p =>
    have h1 := List.mem_of_find?_eq_some h
    have h2 := List.find?_some h
    have := h0 p h1
    simp only [Option.getD_some, subB_iff]
    refine ⟨fun h => absurd h (by omega), fun h3 => ?_⟩
    have := h3 p h1
    simp [hasB, this] at h2
theorem missF_pos {s want : List Int} (h : 0 ≤ missF s want) : missF s want ∈ want ∧ ¬ missF s want ∈ s := by
  unfold missF at h ⊢
  cases hf : want.find? (fun p => !hasB s p) with
  | none => rw [hf] at h; simp at h
  | some p =>
    have h1 := List.mem_of_find?_eq_some hf
    have h2 := List.find?_some hf
    simp only [Option.getD_some]
    refine ⟨h1, ?_⟩
    simpa [hasB] using h2
theorem missing_pc (s want : List Int) (hs : s.Pairwise (· < ·)) : PCall Try.prog 56 [ints s, ints want] (fun r => r = .int (missF s want)) := by
  (refine enterS Try.func56 Try.ntmps56 ?_)
  (refine aw_bound (i := 1) rfl (fun hb => ?_); (try simp only [List.length_map] at hb))
  (repeat' (first | (refine hK _ ?_; clear hK K) | (refine aw_seq (fun K hK => ?_)) | (refine gR ?_; refine regS ?_) | (refine aw_block ?_)))
  refine aw_loop_at [4, 6, 7, 8, 11, 12, 13, 14, 15, 16, 17, 18, 19, 20, 21, 22, 23, 24] (fun k : Nat => k ≤ want.length ∧ ∀ i (hi : i < want.length), i < k → hasB s want[i] = true) (fun k => want.length - k) (fun k => [(11, .int k)]) (fun _ => []) 0 ⟨by omega, by omega⟩ ?_ ?_
  · (refine atS ?_)
    (exact weakS)
  · rintro k ⟨hk, hn⟩ K hK
    (refine atS ?_)
    by_cases hlt : k < want.length
    · have hse := search_pc s want[k] hs
      (repeat' (first | (refine hK _ ?_; clear hK K) | (refine aw_seq (fun K hK => ?_)) | (refine gR ?_; refine regS ?_) | (refine gC 74 ?_; refine callS (search_pc _ _ (by assumption)) ?_) | (refine gE ?_; (first | (refine exN ?_) | (refine exS (fun _ => ?_)))) | (refine gQ ?_; refine condS (fun hc => ?_) (fun hc => ?_) <;> (try (first | contradiction | (exfalso; omega)))) | (refine aw_block ?_) | (refine gT ?_; refine retS ?_) | (refine gS ?_; refine skipS ?_)))
      · (refine fin_le (Le.refl _) (rv_one (rv1_tmp (by rfl))) (by first | rfl | (simp only [go_sem, Nat.reduceAdd, Nat.reduceMul, reduceIte, Nat.reduceEqDiff, Nat.reduceLeDiff, Int.reduceToNat, Int.reducePow, Int.reduceBEq, Int.reduceBNe, Int.reduceLT, Int.reduceLE, decide_true, decide_false])) ?_)
        rw [missF_hit hlt hn (by simpa using hc)]
      · (refine ⟨k + 1, ⟨by omega, upto_step hn fun _ => by simpa using hc⟩, by omega, ?_⟩; (refine atS ?_); (exact weakS))
    · (repeat' (first | (refine hK _ ?_; clear hK K) | (refine aw_seq (fun K hK => ?_)) | (refine gR ?_; refine regS ?_) | (refine gQ ?_; refine condS (fun hc => ?_) (fun hc => ?_) <;> (try (first | contradiction | (exfalso; omega)))) | (refine gX ?_; refine exitS ?_) | (refine gT ?_; refine retS ?_) | (apply_assumption (exfalso := false) (symm := false))))
      (refine fin_le (Le.refl _) (rv_one (rv1_tmp (by rfl))) (by first | rfl | (simp only [go_sem, Nat.reduceAdd, Nat.reduceMul, reduceIte, Nat.reduceEqDiff, Nat.reduceLeDiff, Int.reduceToNat, Int.reducePow, Int.reduceBEq, Int.reduceBNe, Int.reduceLT, Int.reduceLE, decide_true, decide_false])) ?_)
      rw [missF_none fun i hi => hn i hi (by omega)]
theorem lacking_pc (s want : List Int) : PCall Try.prog 37 [ints s, ints want] (fun r => r = .int (missF s want)) := by
  (refine enterS Try.func37 Try.ntmps37 ?_)
  (refine aw_bound (i := 1) rfl (fun hb => ?_); (try simp only [List.length_map] at hb))
  (repeat' (first | (refine hK _ ?_; clear hK K) | (refine aw_seq (fun K hK => ?_)) | (refine gR ?_; refine regS ?_) | (refine aw_block ?_)))
  refine aw_loop_at [4, 5, 6, 7, 8, 9, 10, 11, 12, 13, 14, 15, 16, 17, 18, 19, 20, 21, 22] (fun k : Nat => k ≤ want.length ∧ ∀ i (hi : i < want.length), i < k → hasB s want[i] = true) (fun k => want.length - k) (fun k => [(5, .int k)]) (fun _ => []) 0 ⟨by omega, by omega⟩ ?_ ?_
  · (refine atS ?_)
    (exact weakS)
  · rintro k ⟨hk, hn⟩ K hK
    (refine atS ?_)
    by_cases hlt : k < want.length
    · (repeat' (first | (refine hK _ ?_; clear hK K) | (refine aw_seq (fun K hK => ?_)) | (refine gR ?_; refine regS ?_) | (refine gC 38 ?_; refine callS (has_pc _ _) ?_) | (refine gE ?_; (first | (refine exN ?_) | (refine exS (fun _ => ?_)))) | (refine gQ ?_; refine condS (fun hc => ?_) (fun hc => ?_) <;> (try (first | contradiction | (exfalso; omega)))) | (refine aw_block ?_) | (refine gT ?_; refine retS ?_) | (refine gS ?_; refine skipS ?_)))
      · (refine fin_le (Le.refl _) (rv_one (rv1_tmp (by rfl))) (by first | rfl | (simp only [go_sem, Nat.reduceAdd, Nat.reduceMul, reduceIte, Nat.reduceEqDiff, Nat.reduceLeDiff, Int.reduceToNat, Int.reducePow, Int.reduceBEq, Int.reduceBNe, Int.reduceLT, Int.reduceLE, decide_true, decide_false])) ?_)
        rw [missF_hit hlt hn (by simpa using hc)]
      · (refine ⟨k + 1, ⟨by omega, upto_step hn fun _ => by simpa using hc⟩, by omega, ?_⟩; (refine atS ?_); (exact weakS))
    · (repeat' (first | (refine hK _ ?_; clear hK K) | (refine aw_seq (fun K hK => ?_)) | (refine gR ?_; refine regS ?_) | (refine gQ ?_; refine condS (fun hc => ?_) (fun hc => ?_) <;> (try (first | contradiction | (exfalso; omega)))) | (refine gX ?_; refine exitS ?_) | (refine gT ?_; refine retS ?_) | (apply_assumption (exfalso := false) (symm := false))))
      (refine fin_le (Le.refl _) (rv_one (rv1_tmp (by rfl))) (by first | rfl | (simp only [go_sem, Nat.reduceAdd, Nat.reduceMul, reduceIte, Nat.reduceEqDiff, Nat.reduceLeDiff, Int.reduceToNat, Int.reducePow, Int.reduceBEq, Int.reduceBNe, Int.reduceLT, Int.reduceLE, decide_true, decide_false])) ?_)
      rw [missF_none fun i hi => hn i hi (by omega)]
/-! Independent, with its errors -/
def rngB (t : Task) (a : Int) : Bool := inB a 0 (t.ops.length - 1)
def indF (t : Task) (a b : Int) : Int × Int := if taskFault t ≠ (0, 0) then taskFault t else if rngB t a && rngB t b then (0, 0) else (3, -6)
theorem rngB_t {t : Task} {a : Int} (h : rngB t a = true) : 0 ≤ a ∧ a < t.ops.length := by
  unfold rngB at h
  rw [inB_t] at h
  omega
theorem rngB_f {t : Task} {a : Int} (h : rngB t a = false) : a < 0 ∨ (t.ops.length : Int) ≤ a := by
  unfold rngB at h
  rw [inB_f] at h
  omega
theorem indep_no (t : Task) (a b : Int) (hf : taskFault t ≠ (0, 0)) : PCall Try.prog 11 [t.av, .int a, .int b] (fun r => r = .tup [.bool false, faultP (taskFault t)]) := by
  obtain ⟨p, hp⟩ : ∃ p, taskFault t = p := ⟨_, rfl⟩
  have hv := val_at hp
  rw [hp] at hf ⊢
  
  
  (refine enterS Try.func11 Try.ntmps11 ?_)
  (repeat' (first | (refine hK _ ?_; clear hK K) | (refine aw_seq (fun K hK => ?_)) | (refine gRx 3 (by rfl) ?_; refine regS ?_) | (refine gC 32 ?_; refine callS (hv) ?_) | (refine gE ?_; refine exN ?_) | (refine gQ ?_; refine condS (fun hc => ?_) (fun hc => ?_) <;> (try (first | contradiction | (exfalso; omega)))) | (refine aw_block ?_) | (refine gS ?_; refine skipS ?_)))
  · (repeat' (first | (refine hK _ ?_; clear hK K) | (refine gD 3 ?_; refine drS (.it 0 0 (.it 1 0 (.it 2 3 .nil))) [0, 1] ?_) | (refine gO ?_; refine adoS ?_) | (refine gT ?_; refine retS ?_)))
    all_goals (refine fin_le (Le.refl _) (rv_two (rv1_tmp (by rfl)) (rv1_cell (by first | exact pv_load (by rfl) (by rfl) (by rfl) (by rfl) | exact pv_loadA (by rfl) (by rfl) (by rfl) (by first | decide | simp)))) (by first | rfl | (simp only [go_sem, Nat.reduceAdd, Nat.reduceMul, reduceIte, Nat.reduceEqDiff, Nat.reduceLeDiff, Int.reduceToNat, Int.reducePow, Int.reduceBEq, Int.reduceBNe, Int.reduceLT, Int.reduceLE, decide_true, decide_false])) ?_)
    all_goals rfl
  · exact absurd (Prod.ext hc.1 hc.2) hf
theorem indep_rng (t : Task) (a b : Int) (hw : WfT t) (hf : taskFault t = (0, 0)) (hr : (rngB t a && rngB t b) = false) : PCall Try.prog 11 [t.av, .int a, .int b] (fun r => r = .tup [.bool false, faultP (3, -6)]) := by
  have hv := val_at hf
  
  
  (refine enterS Try.func11 Try.ntmps11 ?_)
  (repeat' (first | (refine hK _ ?_; clear hK K) | (refine aw_seq (fun K hK => ?_)) | (refine gR ?_; refine regS ?_) | (refine gC 32 ?_; refine callS (hv) ?_) | (refine gE ?_; refine exN ?_) | (refine gQ ?_; refine condF ?_) | (refine aw_block ?_) | (refine gS ?_; refine skipS ?_)))
  refine aw_loop_at [6, 10, 20, 21, 22, 23, 24, 25, 26, 27, 28, 29, 30, 31, 32, 33] (fun k : Nat => k ≤ 2 ∧ (0 < k → rngB t a = true) ∧ (1 < k → rngB t b = true)) (fun k => 2 - k) (fun k => [(20, .int k)]) (fun _ => [(3, ⟨25, t.cs, true⟩), (7, ⟨27, [.int 0, .int 0], true⟩), (8, ⟨27, [.int 0, .int 0], true⟩)]) 0 ⟨by omega, by omega, by omega⟩ ?_ ?_
  · (refine atS ?_)
    (exact weakS)
  · rintro k ⟨hk, hn⟩ K hK
    (refine atS ?_)
    obtain rfl | rfl | rfl : k = 0 ∨ k = 1 ∨ k = 2 := by omega
    · (repeat' (first | (refine hK _ ?_; clear hK K) | (refine aw_seq (fun K hK => ?_)) | (refine gR ?_; refine regS ?_) | (refine stk_op (fun K hK => ?_); (refine aop_pv (pv_indexV (by rfl) (by rfl) (by omega) (by omega) (by rfl)) ?_)) | (refine gE ?_; refine exN ?_) | (refine gG ?_; refine guardS (fun hc => ?_) (fun hc => ?_) <;> (try (first | contradiction | (exfalso; omega)))) | (refine gQ ?_; (first | (refine condT ?_) | (refine condS (fun hc => ?_) (fun hc => ?_) <;> (try (first | contradiction | (exfalso; omega)))))) | (refine gW ?_; refine wopsS ?_) | (refine aw_block ?_) | (refine gT ?_; refine retS ?_) | (refine gS ?_; refine skipS ?_)))
      · (refine fin_le (Le.refl _) (rv_two (rv1_tmp (by rfl)) (rv1_cell (by first | exact pv_load (by rfl) (by rfl) (by rfl) (by rfl) | exact pv_loadA (by rfl) (by rfl) (by rfl) (by first | decide | simp)))) (by first | rfl | (simp only [go_sem, Nat.reduceAdd, Nat.reduceMul, reduceIte, Nat.reduceEqDiff, Nat.reduceLeDiff, Int.reduceToNat, Int.reducePow, Int.reduceBEq, Int.reduceBNe, Int.reduceLT, Int.reduceLE, decide_true, decide_false])) ?_)
        rfl
      · (refine fin_le (Le.refl _) (rv_two (rv1_tmp (by rfl)) (rv1_cell (by first | exact pv_load (by rfl) (by rfl) (by rfl) (by rfl) | exact pv_loadA (by rfl) (by rfl) (by rfl) (by first | decide | simp)))) (by first | rfl | (simp only [go_sem, Nat.reduceAdd, Nat.reduceMul, reduceIte, Nat.reduceEqDiff, Nat.reduceLeDiff, Int.reduceToNat, Int.reducePow, Int.reduceBEq, Int.reduceBNe, Int.reduceLT, Int.reduceLE, decide_true, decide_false])) ?_)
        rfl
      · have : rngB t a = true := by unfold rngB; rw [inB_t]; omega
        (refine ⟨1, ⟨by omega, fun _ => this, by omega⟩, by omega, ?_⟩; (refine atS ?_); (exact weakS))
    · have ha := rngB_t (hn.1 (by omega))
      (repeat' (first | (refine hK _ ?_; clear hK K) | (refine aw_seq (fun K hK => ?_)) | (refine gR ?_; refine regS ?_) | (refine stk_op (fun K hK => ?_); (refine aop_pv (pv_indexV (by rfl) (by rfl) (by omega) (by omega) (by rfl)) ?_)) | (refine gE ?_; refine exN ?_) | (refine gG ?_; refine guardS (fun hc => ?_) (fun hc => ?_) <;> (try (first | contradiction | (exfalso; omega)))) | (refine gQ ?_; (first | (refine condT ?_) | (refine condS (fun hc => ?_) (fun hc => ?_) <;> (try (first | contradiction | (exfalso; omega)))))) | (refine gW ?_; refine wopsS ?_) | (refine aw_block ?_) | (refine gT ?_; refine retS ?_) | (refine gS ?_; refine skipS ?_)))
      · (refine fin_le (Le.refl _) (rv_two (rv1_tmp (by rfl)) (rv1_cell (by first | exact pv_load (by rfl) (by rfl) (by rfl) (by rfl) | exact pv_loadA (by rfl) (by rfl) (by rfl) (by first | decide | simp)))) (by first | rfl | (simp only [go_sem, Nat.reduceAdd, Nat.reduceMul, reduceIte, Nat.reduceEqDiff, Nat.reduceLeDiff, Int.reduceToNat, Int.reducePow, Int.reduceBEq, Int.reduceBNe, Int.reduceLT, Int.reduceLE, decide_true, decide_false])) ?_)
        rfl
      · (refine fin_le (Le.refl _) (rv_two (rv1_tmp (by rfl)) (rv1_cell (by first | exact pv_load (by rfl) (by rfl) (by rfl) (by rfl) | exact pv_loadA (by rfl) (by rfl) (by rfl) (by first | decide | simp)))) (by first | rfl | (simp only [go_sem, Nat.reduceAdd, Nat.reduceMul, reduceIte, Nat.reduceEqDiff, Nat.reduceLeDiff, Int.reduceToNat, Int.reducePow, Int.reduceBEq, Int.reduceBNe, Int.reduceLT, Int.reduceLE, decide_true, decide_false])) ?_)
        rfl
      · have : rngB t b = true := by unfold rngB; rw [inB_t]; omega
        rw [hn.1 (by omega), this] at hr
        cases hr
    · rw [hn.1 (by omega), hn.2 (by omega)] at hr
      cases hr
theorem indep_ok (t : Task) (a b : Int) (hw : WfT t) (hf : taskFault t = (0, 0)) (hr : (rngB t a && rngB t b) = true) : PCall Try.prog 11 [t.av, .int a, .int b] (fun r => r = .tup [.bool (indB t.ops[a.toNat]! t.ops[b.toNat]!), faultP (0, 0)]) := by
  have hv := val_at hf
  rw [Bool.and_eq_true] at hr
  obtain ⟨a0, a1⟩ := rngB_t hr.1
  obtain ⟨b0, b1⟩ := rngB_t hr.2
  have sa := setOp_of hw (i := a.toNat) (by omega)
  have sb := setOp_of hw (i := b.toNat) (by omega)
  have hin := independent_pc _ _ sa sb
  rw [getBang (l := t.ops) (k := a.toNat) (by omega), getBang (l := t.ops) (k := b.toNat) (by omega)]
  
  
  
  (refine enterS Try.func11 Try.ntmps11 ?_)
  (repeat' (first | (refine hK _ ?_; clear hK K) | (refine aw_seq (fun K hK => ?_)) | (refine gR ?_; refine regS ?_) | (refine gC 32 ?_; refine callS (hv) ?_) | (refine gE ?_; refine exN ?_) | (refine gQ ?_; refine condF ?_) | (refine aw_block ?_) | (refine gS ?_; refine skipS ?_)))
  refine aw_loop_at [6, 10, 20, 21, 22, 23, 24, 25, 26, 27, 28, 29, 30, 31, 32, 33] (fun k : Nat => k ≤ 2) (fun k => 2 - k) (fun k => [(20, .int k)]) (fun _ => [(3, ⟨25, t.cs, true⟩), (7, ⟨27, [.int 0, .int 0], true⟩), (8, ⟨27, [.int 0, .int 0], true⟩)]) 0 (by omega) ?_ ?_
  · (refine atS ?_)
    (exact weakS)
  · rintro k hk K hK
    (refine atS ?_)
    obtain rfl | rfl | rfl : k = 0 ∨ k = 1 ∨ k = 2 := by omega
    · (repeat' (first | (refine hK _ ?_; clear hK K) | (refine aw_seq (fun K hK => ?_)) | (refine gR ?_; refine regS ?_) | (refine stk_op (fun K hK => ?_); (refine aop_pv (pv_indexV (by rfl) (by rfl) (by omega) (by omega) (by rfl)) ?_)) | (refine gE ?_; refine exN ?_) | (refine gG ?_; refine guardS (fun hc => ?_) (fun hc => ?_) <;> (try (first | contradiction | (exfalso; omega)))) | (refine gQ ?_; (first | (refine condT ?_) | (refine condS (fun hc => ?_) (fun hc => ?_) <;> (try (first | contradiction | (exfalso; omega)))))) | (refine gW ?_; refine wopsS ?_) | (refine aw_block ?_) | (refine gS ?_; refine skipS ?_)))
      (refine ⟨1, by omega, by omega, ?_⟩; (refine atS ?_); (exact weakS))
    · (repeat' (first | (refine hK _ ?_; clear hK K) | (refine aw_seq (fun K hK => ?_)) | (refine gR ?_; refine regS ?_) | (refine stk_op (fun K hK => ?_); (refine aop_pv (pv_indexV (by rfl) (by rfl) (by omega) (by omega) (by rfl)) ?_)) | (refine gE ?_; refine exN ?_) | (refine gG ?_; refine guardS (fun hc => ?_) (fun hc => ?_) <;> (try (first | contradiction | (exfalso; omega)))) | (refine gQ ?_; (first | (refine condT ?_) | (refine condS (fun hc => ?_) (fun hc => ?_) <;> (try (first | contradiction | (exfalso; omega)))))) | (refine gW ?_; refine wopsS ?_) | (refine aw_block ?_) | (refine gS ?_; refine skipS ?_)))
      (refine ⟨2, by omega, by omega, ?_⟩; (refine atS ?_); (exact weakS))
    · (repeat' (first | (refine hK _ ?_; clear hK K) | (refine aw_seq (fun K hK => ?_)) | (refine gR ?_; refine regS ?_) | (refine gD 10 ?_; refine drS (.it 0 0 (.it 1 0 (.it 2 0 (.it 3 0 (.it 4 0 (.it 5 0 (.it 6 0 (.it 7 0 (.it 8 0 (.it 9 0 (.it 11 0 (.it 10 1 (.it 12 0 (.it 13 3 .nil)))))))))))))) [0, 1, 2, 3, 4, 5, 6, 7, 8, 9, 11, 12] ?_) | (refine gCd 33 ?_; refine callD (hin) ?_) | (refine gO ?_; refine adoS ?_) | (refine gE ?_; (first | (refine exN ?_) | (refine exS (fun _ => ?_)))) | (refine gQ ?_; refine condF ?_) | (refine gX ?_; refine exitS ?_) | (refine gT ?_; refine retS ?_) | (apply_assumption (exfalso := false) (symm := false))))
      (refine fin_le (Le.refl _) (rv_two (rv1_tmp (by rfl)) (rv1_cell (by first | exact pv_load (by rfl) (by rfl) (by rfl) (by rfl) | exact pv_loadA (by rfl) (by rfl) (by rfl) (by first | decide | simp)))) (by first | rfl | (simp only [go_sem, Nat.reduceAdd, Nat.reduceMul, reduceIte, Nat.reduceEqDiff, Nat.reduceLeDiff, Int.reduceToNat, Int.reducePow, Int.reduceBEq, Int.reduceBNe, Int.reduceLT, Int.reduceLE, decide_true, decide_false])) ?_)
      rfl
/-! the answer as one -/
def indAns (t : Task) (a b : Int) : Bool := taskFault t = (0, 0) && (rngB t a && rngB t b) && indB t.ops[a.toNat]! t.ops[b.toNat]!
theorem indep_pc (t : Task) (a b : Int) : PCall Try.prog 11 [t.av, .int a, .int b] (fun r => r = .tup [.bool (indAns t a b), faultP (indF t a b)]) := by
  by_cases hf : taskFault t = (0, 0)
  · cases hr : rngB t a && rngB t b
    · have e1 : indAns t a b = false := by simp [indAns, hr]
      have e2 : indF t a b = (3, -6) := by simp [indF, hf, hr]
      rw [e1, e2]
      exact indep_rng t a b (taskFault_ok.1 hf) hf hr
    · have e1 : indAns t a b = indB t.ops[a.toNat]! t.ops[b.toNat]! := by simp [indAns, hr, hf]
      have e2 : indF t a b = (0, 0) := by simp [indF, hf, hr]
      rw [e1, e2]
      exact indep_ok t a b (taskFault_ok.1 hf) hf hr
  · have e1 : indAns t a b = false := by simp [indAns, hf]
    have e2 : indF t a b = taskFault t := by simp [indF, hf]
    rw [e1, e2]
    exact indep_no t a b hf
end Go.Proofs.Ythdlckclpmfidaa
