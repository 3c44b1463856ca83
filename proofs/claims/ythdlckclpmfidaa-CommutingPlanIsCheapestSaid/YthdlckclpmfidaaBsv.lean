import Derived.Test.YthdlckclpmfidaaBst



namespace Go.Proofs.Ythdlckclpmfidaa
open Go.Ab
open Go
set_option linter.unusedSimpArgs false
set_option linter.unusedVariables false
set_option maxRecDepth 10000
attribute [local irreducible] PV AOp AOps AW PCall OCall MCall Ab.Fin OFin OFin2 MFin RV RV1 Le AStk AGrd ADr ADx ADo AOpX AAny
set_option maxHeartbeats 2000000
/-! one step -/
theorem applies_pc (t : Task) (s : List Int) (i : Nat) (hi : i < t.ops.length) (h40 : t.ops.length ≤ 40) : PCall Try.prog 39 [t.av, ints s, .int i] (fun r => r = .bool (subB (t.ops[i]!).pre s)) := by
  rw [getBang hi]
  (refine enterS Try.func39 Try.ntmps39 ?_)
  (repeat' (first | (refine hK _ ?_; clear hK K) | (refine aw_seq (fun K hK => ?_)) | (refine gR ?_; refine regS ?_) | (refine gC 26 ?_; refine callS (subset_pc _ _) ?_) | (refine stk_op (fun K hK => ?_); (first | (refine aop_pv (pv_fieldAddrF (by rfl) (by rfl) (by first | decide | (simp; done) | (simp; omega))) ?_) | (refine aop_pv (pv_fieldAddrIF (by rfl) (by rfl) (by first | decide | (simp; done) | (simp; omega))) ?_))) | (refine gE ?_; (first | (refine exN ?_) | (refine exS (fun _ => ?_)))) | (refine gQ ?_; (first | (refine condT ?_) | (refine condF ?_) | (refine condS (fun hc => ?_) (fun hc => ?_) <;> (try (first | contradiction | (exfalso; omega)))))) | (refine gW ?_; refine wopsS ?_) | (refine aw_block ?_) | (refine gX ?_; refine exitS ?_) | (refine gT ?_; refine retS ?_) | (refine gS ?_; refine skipS ?_) | (apply_assumption (exfalso := false) (symm := false))))
  (refine fin_le (Le.refl _) (rv_one (rv1_tmp (by rfl))) (by first | rfl | (simp only [go_sem, Nat.reduceAdd, Nat.reduceMul, reduceIte, Nat.reduceEqDiff, Nat.reduceLeDiff, Int.reduceToNat, Int.reducePow, Int.reduceBEq, Int.reduceBNe, Int.reduceLT, Int.reduceLE, decide_true, decide_false])) ?_)
  rfl

theorem aftK_len {o : Op} {s : List Int} {k : Nat} : (aftK o s k).length ≤ k := by
  unfold aftK
  have := List.length_filter_le (aftB o s) (upTo k)
  simp only [upTo, List.length_map, List.length_range] at this
  exact this
theorem after_pc (t : Task) (s : List Int) (i : Nat) (hi : i < t.ops.length) (h40 : t.ops.length ≤ 40) (h0 : 0 ≤ t.facts) (h24 : t.facts ≤ 24) : PCall Try.prog 28 [t.av, ints s, .int i] (fun r => r = ints (aft t.facts s t.ops[i]!)) := by
  obtain ⟨n, hn⟩ := Int.eq_ofNat_of_zero_le h0
  rw [getBang hi]
  unfold aft
  rw [show t.facts.toNat = n by omega]
  (refine enterS Try.func28 Try.ntmps28 ?_)
  (repeat' (first | (refine hK _ ?_; clear hK K) | (refine aw_seq (fun K hK => ?_)) | (refine gR ?_; refine regS ?_) | (refine gC 38 ?_; refine callS (has_pc _ _) ?_) | (refine stk_op (fun K hK => ?_); (first | (refine aop_pv (pv_fieldAddrF (by rfl) (by rfl) (by first | decide | (simp; done) | (simp; omega))) ?_) | (refine aop_pv (pv_fieldAddrIF (by rfl) (by rfl) (by first | decide | (simp; done) | (simp; omega))) ?_) | (refine appendS ?_) | (refine virtS 39 42 1 8 3 ?_; refine appendS ?_))) | (refine gE ?_; (first | (refine exN ?_) | (refine exS (fun _ => ?_)))) | (refine gG ?_; refine guardS (fun hc => ?_) (fun hc => ?_) <;> (try (first | contradiction | (exfalso; omega)))) | (refine gQ ?_; (first | (refine condT ?_) | (refine condF ?_) | (refine condS (fun hc => ?_) (fun hc => ?_) <;> (try (first | contradiction | (exfalso; omega)))))) | (refine gW ?_; refine wopsS ?_) | (refine aw_block ?_) | (refine gX ?_; refine exitS ?_) | (refine gT ?_; refine retS ?_) | (refine gS ?_; refine skipS ?_) | (apply_assumption (exfalso := false) (symm := false))))
  (refine awVirt 7 100 1 8 3 ?_)
  refine aw_loop_at [7, 8, 9, 10, 11, 12, 13, 14, 15, 16, 17, 18, 19, 20, 21, 22, 23, 24, 25, 26, 27, 28, 29, 30, 31, 32, 33, 34, 35, 36, 37, 38, 39, 40, 41, 42] (fun k : Nat => k ≤ n) (fun k => n - k) (fun k => [(8, .int k), (7, .sl 1 8 100 0 (aftK t.ops[i] s k).length)]) (fun k => [(3, ⟨25, t.cs, true⟩), (100, ⟨3, (aftK t.ops[i] s k).map AV.int, false⟩)]) 0 (by omega) ?_ ?_
  · rw [aftK_zero]
    (refine atS ?_)
    (exact weakS)
  · rintro k hk K hK
    (refine atS ?_)
    have hl := aftK_len (o := t.ops[i]) (s := s) (k := k)
    by_cases hlt : k < n
    · (repeat' (first | (refine hK _ ?_; clear hK K) | (refine aw_seq (fun K hK => ?_)) | (refine gR ?_; refine regS ?_) | (refine gC 38 ?_; refine callS (has_pc _ _) ?_) | (refine stk_op (fun K hK => ?_); (first | (refine aop_pv (pv_fieldAddrF (by rfl) (by rfl) (by first | decide | (simp; done) | (simp; omega))) ?_) | (refine aop_pv (pv_fieldAddrIF (by rfl) (by rfl) (by first | decide | (simp; done) | (simp; omega))) ?_) | (refine appendS ?_) | (refine virtS 39 42 1 8 3 ?_; refine appendS ?_))) | (refine gE ?_; (first | (refine exN ?_) | (refine exS (fun _ => ?_)))) | (refine gG ?_; refine guardS (fun hc => ?_) (fun hc => ?_) <;> (try (first | contradiction | (exfalso; omega)))) | (refine gQ ?_; (first | (refine condT ?_) | (refine condF ?_) | (refine condS (fun hc => ?_) (fun hc => ?_) <;> (try (first | contradiction | (exfalso; omega)))))) | (refine gW ?_; refine wopsS ?_) | (refine aw_block ?_) | (refine gX ?_; refine exitS ?_) | (refine gT ?_; refine retS ?_) | (refine gS ?_; refine skipS ?_) | (apply_assumption (exfalso := false) (symm := false))))
      all_goals refine ⟨k + 1, by omega, by omega, ?_⟩
      all_goals first
        | (rw [aftK_yes (by simp [aftB, *])]; (refine atS ?_); (exact weakS); done)
        | (rw [aftK_no (by simp [aftB, *])]; (refine atS ?_); (exact weakS); done)
    · obtain rfl : k = n := by omega
      (repeat' (first | (refine hK _ ?_; clear hK K) | (refine aw_seq (fun K hK => ?_)) | (refine gR ?_; refine regS ?_) | (refine gC 38 ?_; refine callS (has_pc _ _) ?_) | (refine stk_op (fun K hK => ?_); (first | (refine aop_pv (pv_fieldAddrF (by rfl) (by rfl) (by first | decide | (simp; done) | (simp; omega))) ?_) | (refine aop_pv (pv_fieldAddrIF (by rfl) (by rfl) (by first | decide | (simp; done) | (simp; omega))) ?_) | (refine appendS ?_) | (refine virtS 39 42 1 8 3 ?_; refine appendS ?_))) | (refine gE ?_; (first | (refine exN ?_) | (refine exS (fun _ => ?_)))) | (refine gG ?_; refine guardS (fun hc => ?_) (fun hc => ?_) <;> (try (first | contradiction | (exfalso; omega)))) | (refine gQ ?_; (first | (refine condT ?_) | (refine condF ?_) | (refine condS (fun hc => ?_) (fun hc => ?_) <;> (try (first | contradiction | (exfalso; omega)))))) | (refine gW ?_; refine wopsS ?_) | (refine aw_block ?_) | (refine gX ?_; refine exitS ?_) | (refine gT ?_; refine retS ?_) | (refine gS ?_; refine skipS ?_) | (apply_assumption (exfalso := false) (symm := false))))
      refine fin_sl1 (aftK t.ops[i] s k) rfl (by rfl) (by rfl) rfl (fun _ => rfl) (fun _ => rfl) rfl

/-! a set as a number -/
theorem wsum_take {xs : List Int} {k : Nat} (h : k < xs.length) : wsum (xs.take (k + 1)) = wsum (xs.take k) + 2 ^ xs[k].toNat := by
  rw [List.take_succ_eq_append_getElem h, wsum_app]; simp [wsum]
theorem wsum_bd {xs : List Int} {n : Int} (h : isSet xs n = true) (hn : n ≤ 24) : wsum xs < 2 ^ 24 := by
  have := isSet_iff.1 h
  exact wsum_lt this.2 fun x hx => by have := this.1 x hx; omega
theorem wsum_take_le {xs : List Int} : ∀ (k : Nat), wsum (xs.take k) ≤ wsum xs := fun k => by
  have h := wsum_app (xs.take k) (xs.drop k)
  rw [List.take_append_drop] at h
  omega
theorem word_pc (xs : List Int) (n : Int) (hs : isSet xs n = true) (hn : n ≤ 24) : PCall Try.prog 45 [ints xs] (fun r => r = .int (wsum xs : Nat)) := by
  have hw := wsum_bd hs hn
  have hb := (isSet_iff.1 hs).1
  (refine enterS Try.func45 Try.ntmps45 ?_)
  (refine aw_bound (i := 0) rfl (fun hb0 => ?_); (try simp only [List.length_map] at hb0))
  (repeat' (first | (refine hK _ ?_; clear hK K) | (refine aw_seq (fun K hK => ?_)) | (refine gR ?_; refine regS ?_) | (refine gE ?_; (first | (refine exN ?_) | (refine exS (fun _ => ?_)))) | (refine gQ ?_; (first | (refine condT ?_) | (refine condF ?_) | (refine condS (fun hc => ?_) (fun hc => ?_) <;> (try (first | contradiction | (exfalso; omega)))))) | (refine gW ?_; refine wopsS ?_) | (refine aw_block ?_) | (refine gX ?_; refine exitS ?_) | (refine gT ?_; refine retS ?_) | (refine gS ?_; refine skipS ?_) | (apply_assumption (exfalso := false) (symm := false))))
  refine aw_loop_at [3, 4, 5, 6, 7, 8, 9, 10, 11, 12, 13, 14, 15, 16, 17, 18] (fun k : Nat => k ≤ xs.length) (fun k => xs.length - k) (fun k => [(4, .int k), (3, .int (wsum (xs.take k) : Nat))]) (fun _ => []) 0 (by omega) ?_ ?_
  · (refine atS ?_)
    (exact weakS)
  · rintro k hk K hK
    (refine atS ?_)
    by_cases hlt : k < xs.length
    · have hx := hb _ (List.getElem_mem hlt)
      have ht := wsum_take hlt
      have h1 := wsum_take_le (xs := xs) (k + 1)
      have e2 : (1 * 2 ^ xs[k].toNat : Int) = ((2 ^ xs[k].toNat : Nat) : Int) := by rw [Int.one_mul, Int.natCast_pow]; rfl
      have ht2 : ((wsum (xs.take (k + 1)) : Nat) : Int) = (wsum (xs.take k) : Nat) + 1 * 2 ^ xs[k].toNat := by rw [ht, e2]; omega
      obtain ⟨g, hg⟩ : ∃ g : Nat, 2 ^ xs[k].toNat = g := ⟨_, rfl⟩
      rw [hg] at ht e2
      (repeat' (first | (refine hK _ ?_; clear hK K) | (refine aw_seq (fun K hK => ?_)) | (refine gR ?_; refine regS ?_) | (refine gE ?_; (first | (refine exN ?_) | (refine exS (fun _ => ?_)))) | (refine gQ ?_; (first | (refine condT ?_) | (refine condF ?_) | (refine condS (fun hc => ?_) (fun hc => ?_) <;> (try (first | contradiction | (exfalso; omega)))))) | (refine gW ?_; refine wopsS ?_) | (refine aw_block ?_) | (refine gX ?_; refine exitS ?_) | (refine gT ?_; refine retS ?_) | (refine gS ?_; refine skipS ?_) | (apply_assumption (exfalso := false) (symm := false))))
      refine ⟨k + 1, by omega, by omega, ?_⟩
      rw [ht2]
      (refine atS ?_)
      (exact weakS)
    · (repeat' (first | (refine hK _ ?_; clear hK K) | (refine aw_seq (fun K hK => ?_)) | (refine gR ?_; refine regS ?_) | (refine gE ?_; (first | (refine exN ?_) | (refine exS (fun _ => ?_)))) | (refine gQ ?_; (first | (refine condT ?_) | (refine condF ?_) | (refine condS (fun hc => ?_) (fun hc => ?_) <;> (try (first | contradiction | (exfalso; omega)))))) | (refine gW ?_; refine wopsS ?_) | (refine aw_block ?_) | (refine gX ?_; refine exitS ?_) | (refine gT ?_; refine retS ?_) | (refine gS ?_; refine skipS ?_) | (apply_assumption (exfalso := false) (symm := false))))
      (refine fin_le (Le.refl _) (rv_one (rv1_tmp (by rfl))) (by first | rfl | (simp only [go_sem, Nat.reduceAdd, Nat.reduceMul, reduceIte, Nat.reduceEqDiff, Nat.reduceLeDiff, Int.reduceToNat, Int.reducePow, Int.reduceBEq, Int.reduceBNe, Int.reduceLT, Int.reduceLE, decide_true, decide_false])) ?_)
      rw [List.take_of_length_le (by omega)]

end Go.Proofs.Ythdlckclpmfidaa
