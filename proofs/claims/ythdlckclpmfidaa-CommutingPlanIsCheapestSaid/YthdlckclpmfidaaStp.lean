import Derived.Test.YthdlckclpmfidaaUpd



namespace Go.Proofs.Ythdlckclpmfidaa
open Go.Ab
open Go
set_option linter.unusedSimpArgs false
set_option linter.unusedVariables false
set_option maxRecDepth 10000
attribute [local irreducible] PV AOp AOps AW PCall OCall MCall WCall Ab.Fin OFin OFin2 MFin RV RV1 Le AStk AGrd ADr ADx ADo AOpX AAny
set_option maxHeartbeats 2000000
/-! steps -/
theorem contains_pc (s p : List Int) (hs : s.Pairwise (· < ·)) (hp : p.Pairwise (· < ·)) : PCall Try.prog 65 [ints s, ints p] (fun r => r = .bool (subB p s)) := by
  have hs' := List.pairwise_iff_getElem.1 hs
  have hp' := List.pairwise_iff_getElem.1 hp
  (refine enterS Try.func65 Try.ntmps65 ?_)
  (refine aw_bound (i := 0) rfl (fun hb => ?_); (try simp only [List.length_map] at hb))
  (refine aw_bound (i := 1) rfl (fun hb1 => ?_); (try simp only [List.length_map] at hb1))
  (repeat' (first | (refine hK _ ?_; clear hK K) | (refine aw_seq (fun K hK => ?_)) | (refine gR ?_; refine regS ?_) | (refine aw_block ?_)))
  refine aw_loop_at [4, 5, 7, 10, 11, 12, 13, 14, 15, 16, 17, 18, 19, 20, 21, 22, 23, 24, 25, 26, 27, 28, 29, 30, 31, 32, 33, 34, 35, 36, 37, 38, 39, 40] (fun q : Nat × Nat => q.1 ≤ p.length ∧ q.2 ≤ s.length ∧ (∀ j (hj : j < p.length), j < q.1 → hasB s p[j] = true) ∧ ∀ a (ha : a < s.length), a < q.2 → ∀ j (hj : j < p.length), q.1 ≤ j → s[a] < p[j]) (fun q => p.length - q.1) (fun q => [(10, .int q.1), (5, .int q.2)]) (fun _ => []) (0, 0) ⟨by simp, by simp, by simp, by simp⟩ ?_ ?_
  · (refine atS ?_)
    (exact weakS)
  · rintro ⟨k, i⟩ ⟨hk, hi, hn, hl⟩ K hK
    simp only at hk hi hn hl
    (refine atS ?_)
    by_cases hlt : k < p.length
    · (repeat' (first | (refine hK _ ?_; clear hK K) | (refine aw_seq (fun K hK => ?_)) | (refine gR ?_; refine regS ?_) | (refine gE ?_; refine exS (fun _ => ?_)) | (refine gQ ?_; refine condS (fun hc => ?_) (fun hc => ?_) <;> (try (first | contradiction | (exfalso; omega)))) | (refine aw_block ?_) | (refine gS ?_; refine skipS ?_)))
      refine aw_loop_at [5, 14, 15, 16, 17, 18, 19, 20, 21, 22, 23, 24, 25, 26, 27] (fun i : Nat => i ≤ s.length ∧ ∀ a (ha : a < s.length), a < i → ∀ j (hj : j < p.length), k ≤ j → s[a] < p[j]) (fun i => s.length - i) (fun i => [(5, .int i)]) (fun _ => []) i ⟨hi, hl⟩ ?_ ?_
      · (refine atS ?_)
        (exact weakS)
      · clear hi hl
        rintro i ⟨hi, hl⟩ K hK
        (refine atS ?_)
        by_cases hit : i < s.length
        · have hnf : s[i] < p[k] → ∀ a (ha : a < s.length), a < i + 1 → ∀ j (hj : j < p.length), k ≤ j → s[a] < p[j] := fun hc a ha hai j hj hkj => by
            rcases Nat.lt_or_ge a i with h | h
            · exact hl a ha h j hj hkj
            · obtain rfl : a = i := by omega
              rcases Nat.lt_or_ge k j with h2 | h2
              · have := hp' k j hlt hj h2; omega
              · obtain rfl : j = k := by omega
                exact hc
          have hno : p[k] < s[i] → hasB s p[k] = false := fun hc => by
            rw [hasB_f]
            intro hm
            obtain ⟨a, ha, he⟩ := List.getElem_of_mem hm
            rcases Nat.lt_or_ge a i with h | h
            · have := hl a ha h k hlt (Nat.le_refl _); omega
            · rcases Nat.lt_or_ge i a with h2 | h2
              · have := hs' i a hit ha h2; omega
              · obtain rfl : a = i := by omega
                omega
          (repeat' (first | (refine hK _ ?_; clear hK K) | (refine aw_seq (fun K hK => ?_)) | (refine gR ?_; refine regS ?_) | (refine gE ?_; (first | (refine exN ?_) | (refine exS (fun _ => ?_)))) | (refine gG ?_; refine guardS (fun hc => ?_) (fun hc => ?_) <;> (try (first | contradiction | (exfalso; omega)))) | (refine gQ ?_; refine condS (fun hc => ?_) (fun hc => ?_) <;> (try (first | contradiction | (exfalso; omega)))) | (refine aw_block ?_) | (refine gX ?_; refine exitS ?_) | (refine gT ?_; refine retS ?_) | (refine gS ?_; refine skipS ?_) | (apply_assumption (exfalso := false) (symm := false))))
          · refine ⟨i + 1, ⟨by omega, hnf (by assumption)⟩, by omega, ?_⟩
            (refine atS ?_)
            (exact weakS)
          · (refine fin_le (Le.refl _) (rv_one (rv1_tmp (by rfl))) (by first | rfl | (simp only [go_sem, Nat.reduceAdd, Nat.reduceMul, reduceIte, Nat.reduceEqDiff, Nat.reduceLeDiff, Int.reduceToNat, Int.reducePow, Int.reduceBEq, Int.reduceBNe, Int.reduceLT, Int.reduceLE, decide_true, decide_false])) ?_)
            rw [show subB p s = false from all_no hlt (hno (by omega))]
          · refine ⟨(k + 1, i), ⟨by simp only; omega, by simp only; omega, ?_, ?_⟩, by simp only; omega, ?_⟩
            · intro j hj hjk
              rcases Nat.lt_or_ge j k with h | h
              · exact hn j hj h
              · obtain rfl : j = k := by simp only at hjk; omega
                rw [hasB_t, ← hc]; exact List.getElem_mem hit
            · exact fun a ha hai j hj hkj => hl a ha hai j hj (by simp only at hkj; omega)
            · (refine atS ?_)
              (exact weakS)
        · obtain rfl : i = s.length := by omega
          have hno : hasB s p[k] = false := by
            rw [hasB_f]
            intro hm
            obtain ⟨a, ha, he⟩ := List.getElem_of_mem hm
            have := hl a ha ha k hlt (Nat.le_refl _); omega
          (repeat' (first | (refine hK _ ?_; clear hK K) | (refine aw_seq (fun K hK => ?_)) | (refine gR ?_; refine regS ?_) | (refine gG ?_; refine guardS (fun hc => ?_) (fun hc => ?_) <;> (try (first | contradiction | (exfalso; omega)))) | (refine gQ ?_; (first | (refine condT ?_) | (refine condF ?_))) | (refine gX ?_; refine exitS ?_) | (refine gT ?_; refine retS ?_) | (apply_assumption (exfalso := false) (symm := false))))
          (refine fin_le (Le.refl _) (rv_one (rv1_tmp (by rfl))) (by first | rfl | (simp only [go_sem, Nat.reduceAdd, Nat.reduceMul, reduceIte, Nat.reduceEqDiff, Nat.reduceLeDiff, Int.reduceToNat, Int.reducePow, Int.reduceBEq, Int.reduceBNe, Int.reduceLT, Int.reduceLE, decide_true, decide_false])) ?_)
          rw [show subB p s = false from all_no hlt hno]
    · obtain rfl : k = p.length := by omega
      (repeat' (first | (refine hK _ ?_; clear hK K) | (refine aw_seq (fun K hK => ?_)) | (refine gR ?_; refine regS ?_) | (refine gQ ?_; refine condS (fun hc => ?_) (fun hc => ?_) <;> (try (first | contradiction | (exfalso; omega)))) | (refine gX ?_; refine exitS ?_) | (refine gT ?_; refine retS ?_) | (apply_assumption (exfalso := false) (symm := false))))
      (refine fin_le (Le.refl _) (rv_one (rv1_tmp (by rfl))) (by first | rfl | (simp only [go_sem, Nat.reduceAdd, Nat.reduceMul, reduceIte, Nat.reduceEqDiff, Nat.reduceLeDiff, Int.reduceToNat, Int.reducePow, Int.reduceBEq, Int.reduceBNe, Int.reduceLT, Int.reduceLE, decide_true, decide_false])) ?_)
      rw [show subB p s = true from all_yes hn (Nat.le_refl _)]
theorem containsS_pc (s p : List Int) (n m : Int) (hs : isSet s n = true) (hp : isSet p m = true) : PCall Try.prog 65 [ints s, ints p] (fun r => r = .bool (subB p s)) := contains_pc s p (isSet_iff.1 hs).2 (isSet_iff.1 hp).2
/-- What is known of an operator of a valid task. -/
theorem opAtN {t : Task} (hw : WfT t) {x : Int} (hx : 0 ≤ x ∧ x < t.ops.length) : ∃ h : x.toNat < t.ops.length, t.ops[x.toNat]! = t.ops[x.toNat] ∧ isSet t.ops[x.toNat].pre t.facts = true ∧ isSet t.ops[x.toNat].add t.facts = true ∧ isSet t.ops[x.toNat].del t.facts = true := by
  have h : x.toNat < t.ops.length := by omega
  obtain ⟨p1, p2, p3, _⟩ := opOk_sets (hw.ops _ (List.getElem_mem h)).1
  exact ⟨h, getBang h, p1, p2, p3⟩
theorem can_pc (t : Task) (s : List Int) (x : Int) (hw : WfT t) (hs : isSet s t.facts = true) (hx : 0 ≤ x ∧ x < t.ops.length) : PCall Try.prog 48 [t.av, ints s, .int x] (fun r => r = .bool (subB (t.ops[x.toNat]!).pre s)) := by
  obtain ⟨h, hg, p1, p2, p3⟩ := opAtN hw hx
  have h40 := hw.n40
  rw [hg]
  
  (refine enterS Try.func48 Try.ntmps48 ?_)
  (repeat' (first | (refine hK _ ?_; clear hK K) | (refine aw_seq (fun K hK => ?_)) | (refine gR ?_; refine regS ?_) | (refine gC 65 ?_; refine callS (containsS_pc _ _ _ _ hs p1) ?_) | (refine gE ?_; (first | (refine exN ?_) | (refine exS (fun _ => ?_)))) | (refine gT ?_; refine retS ?_)))
  (refine fin_le (Le.refl _) (rv_one (rv1_tmp (by rfl))) (by first | rfl | (simp only [go_sem, Nat.reduceAdd, Nat.reduceMul, reduceIte, Nat.reduceEqDiff, Nat.reduceLeDiff, Int.reduceToNat, Int.reducePow, Int.reduceBEq, Int.reduceBNe, Int.reduceLT, Int.reduceLE, decide_true, decide_false])) ?_)
  rfl

theorem set_len {s : List Int} {n : Int} (hs : isSet s n = true) (h0 : 0 ≤ n) (h24 : n ≤ 24) : s.length ≤ 1000 := by
  have := isSet_len hs h0; omega
theorem next_pc (t : Task) (s : List Int) (x : Int) (hw : WfT t) (hs : isSet s t.facts = true) (hx : 0 ≤ x ∧ x < t.ops.length) : PCall Try.prog 49 [t.av, ints s, .int x] (fun r => r = ints (aft t.facts s t.ops[x.toNat]!)) := by
  obtain ⟨h, hg, p1, p2, p3⟩ := opAtN hw hx
  have h40 := hw.n40
  rw [hg, ← updL_aft hw.f0 hs p2]
  have l1 := set_len hs hw.f0 hw.f1
  have l2 := set_len p2 hw.f0 hw.f1
  have hd := (isSet_iff.1 p3).2
  
  
  (refine enterS Try.func49 Try.ntmps49 ?_)
  (repeat' (first | (refine hK _ ?_; clear hK K) | (refine aw_seq (fun K hK => ?_)) | (refine gR ?_; refine regS ?_) | (refine gC 70 ?_; refine callS (update_pc _ _ _ l1 l2 hd) ?_) | (refine gE ?_; (first | (refine exN ?_) | (refine exS (fun _ => ?_)))) | (refine gT ?_; refine retS ?_)))
  (refine fin_le (Le.refl _) (rv_one (rv1_tmp (by rfl))) (by first | rfl | (simp only [go_sem, Nat.reduceAdd, Nat.reduceMul, reduceIte, Nat.reduceEqDiff, Nat.reduceLeDiff, Int.reduceToNat, Int.reducePow, Int.reduceBEq, Int.reduceBNe, Int.reduceLT, Int.reduceLE, decide_true, decide_false])) ?_)
  rfl
end Go.Proofs.Ythdlckclpmfidaa
