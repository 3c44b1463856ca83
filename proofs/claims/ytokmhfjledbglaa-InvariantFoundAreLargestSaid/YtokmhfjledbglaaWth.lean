import Derived.Test.YtokmhfjledbglaaGrp



namespace Go.Proofs.Ytokmhfjledbglaa
open Go.Ab
open Go
set_option linter.unusedSimpArgs false
set_option linter.unusedVariables false
set_option maxRecDepth 10000
attribute [local irreducible] PV AOp AOps AW PCall OCall MCall WCall Ab.Fin OFin OFin2 MFin RV RV1 Le AStk AGrd ADr ADx ADo AOpX AAny
set_option maxHeartbeats 4000000
/-! a number that a set lacks, put in -/
def insI (xs : List Int) (n : Int) : Nat := xs.findIdx fun x => decide (n ≤ x)
def insL (xs : List Int) (n : Int) : List Int := xs.take (insI xs n) ++ n :: xs.drop (insI xs n)
theorem insI_le (xs : List Int) (n : Int) : insI xs n ≤ xs.length := List.findIdx_le_length
theorem insI_lt {xs : List Int} {n : Int} {j : Nat} (h : j < insI xs n) : xs[j]'(Nat.lt_of_lt_of_le h (insI_le xs n)) < n := by
  have := List.not_of_lt_findIdx h
  simp at this
  exact this
theorem insI_at {xs : List Int} {n : Int} (h : insI xs n < xs.length) : n ≤ xs[insI xs n] := by
  have := List.findIdx_getElem (xs := xs) (p := fun x => decide (n ≤ x)) (w := h)
  rw [decide_eq_true_eq] at this
  exact this
theorem insL_mem {xs : List Int} {n x : Int} : x ∈ insL xs n ↔ x ∈ xs ∨ x = n := by
  unfold insL
  rw [List.mem_append, List.mem_cons]
  constructor
  · rintro (h | rfl | h)
    · exact .inl (List.mem_of_mem_take h)
    · exact .inr rfl
    · exact .inl (List.mem_of_mem_drop h)
  · rintro (h | rfl)
    · rw [← List.take_append_drop (insI xs n) xs, List.mem_append] at h
      rcases h with h | h
      · exact .inl h
      · exact .inr (.inr h)
    · exact .inr (.inl rfl)
theorem insL_pw {xs : List Int} {n : Int} (h : xs.Pairwise (· < ·)) (hn : ¬ n ∈ xs) : (insL xs n).Pairwise (· < ·) := by
  unfold insL
  have h1 : ∀ x ∈ xs.take (insI xs n), x < n := fun x hx => by
    obtain ⟨j, hj, rfl⟩ := List.getElem_of_mem hx
    rw [List.length_take] at hj
    rw [List.getElem_take]
    exact insI_lt (by omega)
  have h2 : ∀ x ∈ xs.drop (insI xs n), n < x := fun x hx => by
    obtain ⟨j, hj, rfl⟩ := List.getElem_of_mem hx
    rw [List.length_drop] at hj
    rw [List.getElem_drop]
    have h0 := insI_at (xs := xs) (n := n) (by omega)
    rw [List.pairwise_iff_getElem] at h
    have hne : n ≠ xs[insI xs n + j] := fun e => hn (by rw [e]; exact List.getElem_mem _)
    rcases Nat.eq_zero_or_pos j with rfl | hj0
    · simp only [Nat.add_zero] at hne ⊢; omega
    · have := h (insI xs n) (insI xs n + j) (by omega) (by omega) (by omega)
      omega
  rw [List.pairwise_append]
  refine ⟨h.sublist (List.take_sublist _ _), ?_, fun x hx y hy => ?_⟩
  · rw [List.pairwise_cons]
    exact ⟨h2, h.sublist (List.drop_sublist _ _)⟩
  · rcases List.mem_cons.1 hy with rfl | hy
    · exact h1 x hx
    · have := h1 x hx; have := h2 y hy; omega
@[local go_sem] theorem drop_intsW (xs : List Int) (k : Nat) : (xs.map AV.int).drop k = (xs.drop k).map AV.int := List.map_drop.symm
theorem withI_pc (xs : List Int) (n : Int) (hn : ¬ n ∈ xs) (hl : xs.length ≤ 1000) : PCall Try.prog 18 [ints xs, .int n] (fun r => r = ints (insL xs n)) := by
  have hil := insI_le xs n
  (refine enterS Try.func18 Try.ntmps18 ?_)
  (refine aw_bound (i := 0) rfl (fun hb => ?_); (try simp only [List.length_map] at hb))
  (repeat' (first | (refine hK _ ?_; clear hK K) | (refine aw_seq (fun K hK => ?_)) | (refine gR ?_; refine regS ?_) | (refine stk_op (fun K hK => ?_); (first | (refine appendS ?_) | (refine virtS 22 28 1 8 3 ?_; refine appendS ?_) | (refine virtS 31 34 1 8 3 ?_; refine appendS ?_) | (refine aop_pv (pv_eql (by rfl) (by rfl)) ?_) | (refine aop_pv (pv_eqlB (by rfl) (by rfl)) ?_) | (refine aop_pv (pv_eqlA (by rfl) (by rfl) (by kernel_rfl)) ?_) | (refine virtS 49 53 1 8 3 ?_; refine appendS ?_))) | (refine gE ?_; (first | (refine exN ?_) | (refine exS (fun _ => ?_)))) | (refine gG ?_; refine guardS (fun hc => ?_) (fun hc => ?_) <;> (try (first | contradiction | (exfalso; omega)))) | (refine gQ ?_; (first | (refine condT ?_) | (refine condF ?_) | (refine condS (fun hc => ?_) (fun hc => ?_) <;> (try (first | contradiction | (exfalso; omega)))))) | (refine gW ?_; refine wopsS ?_) | (refine aw_block ?_) | (refine gX ?_; refine exitS ?_) | (refine gT ?_; refine retS ?_) | (refine gS ?_; refine skipS ?_) | (apply_assumption (exfalso := false) (symm := false))))
  (refine awVirt 5 100 1 8 3 ?_)
  refine aw_loop_at [5, 6, 8, 9, 10, 11, 12, 13, 14, 15, 16, 17, 18, 19, 20, 21, 22, 23, 24, 25, 26, 27, 28] (fun k : Nat => k ≤ insI xs n) (fun k => xs.length - k) (fun k => [(6, .int k), (5, .sl 1 8 100 0 k)]) (fun k => [(100, ⟨3, (xs.take k).map AV.int, false⟩)]) 0 (by omega) ?_ ?_
  · (refine atS ?_)
    (exact weakS)
  · rintro k hk K hK
    (refine atS ?_)
    by_cases hlt : k < insI xs n
    · have hkl : k < xs.length := by omega
      have hxk := insI_lt hlt
      have hs : xs.take (k + 1) = xs.take k ++ [xs[k]] := List.take_succ_eq_append_getElem hkl
      have hlk : (xs.take k).length = k := by simp; omega
      generalize xs.take k = l at *
      (repeat' (first | (refine hK _ ?_; clear hK K) | (refine aw_seq (fun K hK => ?_)) | (refine gR ?_; refine regS ?_) | (refine stk_op (fun K hK => ?_); (first | (refine appendS ?_) | (refine virtS 22 28 1 8 3 ?_; refine appendS ?_) | (refine virtS 31 34 1 8 3 ?_; refine appendS ?_) | (refine aop_pv (pv_eql (by rfl) (by rfl)) ?_) | (refine aop_pv (pv_eqlB (by rfl) (by rfl)) ?_) | (refine aop_pv (pv_eqlA (by rfl) (by rfl) (by kernel_rfl)) ?_) | (refine virtS 49 53 1 8 3 ?_; refine appendS ?_))) | (refine gE ?_; (first | (refine exN ?_) | (refine exS (fun _ => ?_)))) | (refine gG ?_; refine guardS (fun hc => ?_) (fun hc => ?_) <;> (try (first | contradiction | (exfalso; omega)))) | (refine gQ ?_; (first | (refine condT ?_) | (refine condF ?_) | (refine condS (fun hc => ?_) (fun hc => ?_) <;> (try (first | contradiction | (exfalso; omega)))))) | (refine gW ?_; refine wopsS ?_) | (refine aw_block ?_) | (refine gX ?_; refine exitS ?_) | (refine gT ?_; refine retS ?_) | (refine gS ?_; refine skipS ?_) | (apply_assumption (exfalso := false) (symm := false))))
      refine ⟨k + 1, by omega, by omega, ?_⟩
      rw [hs]
      (refine atS ?_)
      (exact weakS)
    · obtain rfl : k = insI xs n := by omega
      have hun : insL xs n = xs.take (insI xs n) ++ n :: xs.drop (insI xs n) := rfl
      have hat : (h : insI xs n < xs.length) → n ≤ xs[insI xs n] ∧ xs[insI xs n] ≠ n := fun h => ⟨insI_at h, fun e => hn (by rw [← e]; exact List.getElem_mem _)⟩
      have hlk : (xs.take (insI xs n)).length = insI xs n := by simp; omega
      have hld : (xs.drop (insI xs n)).length ≤ 1000 := by simp; omega
      generalize xs.take (insI xs n) = l at *
      generalize insI xs n = i at *
      by_cases hi : i < xs.length
      · obtain ⟨h1, h2⟩ := hat hi
        (repeat' (first | (refine hK _ ?_; clear hK K) | (refine aw_seq (fun K hK => ?_)) | (refine gR ?_; refine regS ?_) | (refine stk_op (fun K hK => ?_); (first | (refine appendS ?_) | (refine virtS 22 28 1 8 3 ?_; refine appendS ?_) | (refine virtS 31 34 1 8 3 ?_; refine appendS ?_) | (refine aop_pv (pv_eql (by rfl) (by rfl)) ?_) | (refine aop_pv (pv_eqlB (by rfl) (by rfl)) ?_) | (refine aop_pv (pv_eqlA (by rfl) (by rfl) (by kernel_rfl)) ?_) | (refine virtS 49 53 1 8 3 ?_; refine appendS ?_))) | (refine gE ?_; (first | (refine exN ?_) | (refine exS (fun _ => ?_)))) | (refine gG ?_; refine guardS (fun hc => ?_) (fun hc => ?_) <;> (try (first | contradiction | (exfalso; omega)))) | (refine gQ ?_; (first | (refine condT ?_) | (refine condF ?_) | (refine condS (fun hc => ?_) (fun hc => ?_) <;> (try (first | contradiction | (exfalso; omega)))))) | (refine gW ?_; refine wopsS ?_) | (refine aw_block ?_) | (refine gX ?_; refine exitS ?_) | (refine gT ?_; refine retS ?_) | (refine gS ?_; refine skipS ?_) | (apply_assumption (exfalso := false) (symm := false))))
        rw [show List.map AV.int l ++ [AV.int n] = (l ++ [n]).map AV.int by simp, purgeL_ints, flat_ints]
        refine fin_sl1 (l ++ n :: xs.drop i) rfl (by rfl) (by rw [← List.map_append, List.append_assoc]; rfl) (by simp; omega) (fun _ => rfl) (fun _ => rfl) (by rw [hun])
      · (repeat' (first | (refine hK _ ?_; clear hK K) | (refine aw_seq (fun K hK => ?_)) | (refine gR ?_; refine regS ?_) | (refine stk_op (fun K hK => ?_); (first | (refine appendS ?_) | (refine virtS 22 28 1 8 3 ?_; refine appendS ?_) | (refine virtS 31 34 1 8 3 ?_; refine appendS ?_) | (refine aop_pv (pv_eql (by rfl) (by rfl)) ?_) | (refine aop_pv (pv_eqlB (by rfl) (by rfl)) ?_) | (refine aop_pv (pv_eqlA (by rfl) (by rfl) (by kernel_rfl)) ?_) | (refine virtS 49 53 1 8 3 ?_; refine appendS ?_))) | (refine gE ?_; (first | (refine exN ?_) | (refine exS (fun _ => ?_)))) | (refine gG ?_; refine guardS (fun hc => ?_) (fun hc => ?_) <;> (try (first | contradiction | (exfalso; omega)))) | (refine gQ ?_; (first | (refine condT ?_) | (refine condF ?_) | (refine condS (fun hc => ?_) (fun hc => ?_) <;> (try (first | contradiction | (exfalso; omega)))))) | (refine gW ?_; refine wopsS ?_) | (refine aw_block ?_) | (refine gX ?_; refine exitS ?_) | (refine gT ?_; refine retS ?_) | (refine gS ?_; refine skipS ?_) | (apply_assumption (exfalso := false) (symm := false))))
        rw [show List.map AV.int l ++ [AV.int n] = (l ++ [n]).map AV.int by simp, purgeL_ints, flat_ints]
        refine fin_sl1 (l ++ n :: xs.drop i) rfl (by rfl) (by rw [← List.map_append, List.append_assoc]; rfl) (by simp; omega) (fun _ => rfl) (fun _ => rfl) (by rw [hun])
end Go.Proofs.Ytokmhfjledbglaa
