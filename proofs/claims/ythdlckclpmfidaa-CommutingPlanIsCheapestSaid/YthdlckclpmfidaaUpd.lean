import Derived.Test.YthdlckclpmfidaaUpl
import Derived.Test.YthdlckclpmfidaaShl



namespace Go.Proofs.Ythdlckclpmfidaa
open Go.Ab
open Go
set_option linter.unusedSimpArgs false
set_option linter.unusedVariables false
set_option maxRecDepth 10000
attribute [local irreducible] PV AOp AOps AW PCall OCall MCall WCall Ab.Fin OFin OFin2 MFin RV RV1 Le AStk AGrd ADr ADx ADo AOpX AAny
set_option maxHeartbeats 2000000
/-! sets changed -/
theorem sort_wc (xs : List Int) (id : Nat) (fl : Bool) (hl : xs.length ≤ 17592186044416) : WCall Try.prog 79 [.sl 1 8 id 0 xs.length] id ⟨3, xs.map AV.int, fl⟩ (fun x bk => x = .tup [] ∧ bk = ⟨3, (sortI xs).map AV.int, false⟩) :=
  wcall_sort hl (fun blk off cap zs w h1 h2 h3 => Try.slices_Sort_int blk off cap zs w h1 h2 h3) (fun p cap w => Try.slices_Sort_int_none p cap w)
theorem compact_wc (xs : List Int) (id : Nat) (fl : Bool) (hl : xs.length ≤ 1000000) : WCall Try.prog 80 [.sl 1 8 id 0 xs.length] id ⟨3, xs.map AV.int, fl⟩ (fun x bk => x = .sl 1 8 id 0 (Lib.compact xs).length ∧ bk = ⟨3, (Lib.compact xs).map AV.int, false⟩) :=
  wcall_compact hl (fun blk off cap zs w h1 h2 h3 => Try.slices_Compact_int blk off cap zs w h1 h2 h3) (fun p cap w => Try.slices_Compact_int_empty p cap w)
def notIn (del s : List Int) : List Int := s.filter fun x => !hasB del x
theorem notIn_yes {del s : List Int} {k : Nat} (hk : k < s.length) (h : hasB del s[k] = false) : notIn del (s.take (k + 1)) = notIn del (s.take k) ++ [s[k]] := by
  unfold notIn; rw [List.take_succ_eq_append_getElem hk, List.filter_append, List.filter_cons_of_pos (by simp [h])]; rfl
theorem notIn_no {del s : List Int} {k : Nat} (hk : k < s.length) (h : hasB del s[k] = true) : notIn del (s.take (k + 1)) = notIn del (s.take k) := by
  unfold notIn; rw [List.take_succ_eq_append_getElem hk, List.filter_append, List.filter_cons_of_neg (by simp [h])]; simp
theorem notIn_len {del s : List Int} {k : Nat} : (notIn del (s.take k)).length ≤ k := by
  unfold notIn
  have := List.length_filter_le (fun x => !hasB del x) (s.take k)
  have h2 : (s.take k).length ≤ k := by rw [List.length_take]; omega
  omega
theorem update_pc (s add del : List Int) (hs : s.length ≤ 1000) (ha : add.length ≤ 1000) (hd : del.Pairwise (· < ·)) : PCall Try.prog 70 [ints s, ints add, ints del] (fun r => r = ints (updL s add del)) := by
  (refine enterS Try.func70 Try.ntmps70 ?_)
  (repeat' (first | (refine hK _ ?_; clear hK K) | (refine aw_seq (fun K hK => ?_)) | (refine gR ?_; refine regS ?_) | (refine aw_block ?_)))
  (refine awVirt 7 100 1 8 3 ?_)
  refine aw_loop_at [7, 9, 10, 11, 14, 15, 16, 17, 18, 19, 20, 21, 22, 23, 24, 25, 26, 27, 28, 29, 30] (fun k : Nat => k ≤ s.length) (fun k => s.length - k) (fun k => [(14, .int k), (7, .sl 1 8 100 0 (notIn del (s.take k)).length)]) (fun k => [(100, ⟨3, (notIn del (s.take k)).map AV.int, false⟩)]) 0 (by omega) ?_ ?_
  · (refine atS ?_)
    (exact weakS)
  · rintro k hk K hK
    (refine atS ?_)
    have hl := notIn_len (del := del) (s := s) (k := k)
    by_cases hlt : k < s.length
    · (repeat' (first | (refine hK _ ?_; clear hK K) | (refine aw_seq (fun K hK => ?_)) | (refine gR ?_; refine regS ?_) | (refine gC 74 ?_; refine callS (search_pc _ _ (by assumption)) ?_) | (refine stk_op (fun K hK => ?_); refine appendS ?_) | (refine gE ?_; (first | (refine exN ?_) | (refine exS (fun _ => ?_)))) | (refine gQ ?_; refine condS (fun hc => ?_) (fun hc => ?_) <;> (try (first | contradiction | (exfalso; omega)))) | (refine aw_block ?_) | (refine gS ?_; refine skipS ?_)))
      all_goals refine ⟨k + 1, by omega, by omega, ?_⟩
      · rw [notIn_yes hlt (by assumption)]
        (refine atS ?_)
        (exact weakS)
      · rw [notIn_no hlt (by assumption)]
        (refine atS ?_)
        (exact weakS)
    · obtain rfl : k = s.length := by omega
      rw [List.take_length] at *
      have hnl : (notIn del s ++ add).length = (notIn del s).length + add.length := List.length_append
      have hnb := notIn_len (del := del) (s := s) (k := s.length)
      rw [List.take_length] at hnb
      have hr : updL s add del = setL (notIn del s ++ add) := rfl
      (repeat' (first | (refine hK _ ?_; clear hK K) | (refine aw_seq (fun K hK => ?_)) | (refine gRx 10 (by rfl) ?_; refine regS ?_) | (refine stk_op (fun K hK => ?_); refine appendS ?_) | (refine gQ ?_; refine condS (fun hc => ?_) (fun hc => ?_) <;> (try (first | contradiction | (exfalso; omega)))) | (refine gX ?_; refine exitS ?_) | (apply_assumption (exfalso := false) (symm := false))))
      simp only [go_sem, Nat.reduceAdd, Nat.reduceMul, reduceIte, Nat.reduceEqDiff, Nat.reduceLeDiff, Int.reduceToNat, Int.reducePow, Int.reduceBEq, Int.reduceBNe, Int.reduceLT, Int.reduceLE, decide_true, decide_false, flat_ints, List.length_map]
      rw [← hnl, ← List.map_append]
      have hx : (notIn del s ++ add).length ≤ 2000 := by omega
      generalize notIn del s ++ add = xs at *
      have hsl : xs.length = (sortI xs).length := (List.length_mergeSort xs).symm
      
      (repeat' (first | (refine hK _ ?_; clear hK K) | (refine aw_seq (fun K hK => ?_)) | (refine gRx 11 (by rfl) ?_; refine regS ?_) | (refine stk_op (fun K hK => ?_); refine aop_callW (hT := by exact of_decide_eq_true rfl) (d := some 35) (sort_wc xs 100 _ (by omega)) (by rfl) (fun x bk hx => ?_); obtain ⟨rfl, rfl⟩ := hx; simp only [Nat.reduceBEq, Bool.or_true, Bool.or_false, Bool.false_or, Bool.true_or, go_sem, Nat.reduceAdd, Nat.reduceMul, reduceIte, Nat.reduceEqDiff, Nat.reduceLeDiff, Int.reduceToNat, Int.reducePow, Int.reduceBEq, Int.reduceBNe, Int.reduceLT, Int.reduceLE, decide_true, decide_false])))
      
      have hr2 : updL s add del = Lib.compact (sortI xs) := hr
      clear hr
      have hys : (sortI xs).length ≤ 2000 := by omega
      rw [hsl]
      clear hsl
      generalize sortI xs = ys at *
      
      (repeat' (first | (refine hK _ ?_; clear hK K) | (refine gR ?_; refine regS ?_) | (refine stk_op (fun K hK => ?_); refine aop_callW (hT := by exact of_decide_eq_true rfl) (d := some 37) (compact_wc ys 100 _ (by omega)) (by rfl) (fun x bk hx => ?_); obtain ⟨rfl, rfl⟩ := hx; simp only [Nat.reduceBEq, Bool.or_true, Bool.or_false, Bool.false_or, Bool.true_or, go_sem, Nat.reduceAdd, Nat.reduceMul, reduceIte, Nat.reduceEqDiff, Nat.reduceLeDiff, Int.reduceToNat, Int.reducePow, Int.reduceBEq, Int.reduceBNe, Int.reduceLT, Int.reduceLE, decide_true, decide_false]) | (refine gT ?_; refine retS ?_)))
      
      refine fin_sl1 (Lib.compact ys) rfl (by rfl) (by rfl) rfl (fun _ => rfl) (fun _ => rfl) (by rw [hr2])

end Go.Proofs.Ythdlckclpmfidaa
