import Derived.Test.YtjefjhcaicohjaaNuma

namespace Go.Proofs.Ytjefjhcaicohjaa
open Go.Ab
open Go
set_option linter.unusedSimpArgs false
set_option linter.unusedVariables false
set_option maxRecDepth 10000
attribute [local irreducible] PV AOp AOps AW PCall OCall Ab.Fin OFin RV RV1 Le AStk AGrd ADr ADx ADo AOpX AAny
set_option maxHeartbeats 1000000
/-! first of a sequence -/
def firstSome {α : Type} (g : Nat → Option α) : Nat → Option α
  | 0 => none
  | n+1 => (firstSome g n).or (g n)
theorem firstSome_step {α : Type} {g : Nat → Option α} {k : Nat} (h : firstSome g k = none) (hk : g k = none) : firstSome g (k + 1) = none := by simp [firstSome, h, hk]
theorem firstSome_hit {α : Type} {g : Nat → Option α} {k n : Nat} {a : α} (h : firstSome g k = none) (hk : g k = some a) (hn : k < n) : firstSome g n = some a := by
  induction n with
  | zero => omega
  | succ n ih =>
    rcases Nat.lt_or_ge k n with h1 | h1
    · simp [firstSome, ih h1]
    · obtain rfl : k = n := by omega
      simp [firstSome, h, hk]
/-! the data -/
structure Cmp where
  f : List Int
  kind : Int
  bound : Int
  deriving Inhabited
structure Chg where
  var : Int
  f : List Int
  const : Int
  deriving Inhabited
structure NOp where
  pre : List Cmp
  chg : List Chg
  cost : Int
  deriving Inhabited
structure NT where
  init : List Int
  goal : List Cmp
  ops : List NOp
abbrev Cmp.av (c : Cmp) : AV := .agg [ints c.f, .int c.kind, .int c.bound]
abbrev Chg.av (c : Chg) : AV := .agg [.int c.var, ints c.f, .int c.const]
abbrev NOp.av (o : NOp) : AV := .agg [.isl 3 40 (o.pre.map Cmp.av), .isl 3 40 (o.chg.map Chg.av), .int o.cost]
abbrev NT.av (t : NT) : AV := .agg [ints t.init, .isl 3 40 (t.goal.map Cmp.av), .isl 3 56 (t.ops.map NOp.av)]
theorem int_beq (a b : Int) : (a == b) = decide (a = b) := by by_cases h : a = b <;> simp [h]
theorem upto_step {n k : Nat} {P : (i : Nat) → i < n → Prop} (h : ∀ i (hi : i < n), i < k → P i hi) (hk : ∀ hi, P k hi) : ∀ i (hi : i < n), i < k + 1 → P i hi := by
  intro i hi hik
  rcases Nat.lt_or_ge i k with h1 | h1
  · exact h i hi h1
  · obtain rfl : i = k := by omega
    exact hk hi
theorem all_yes {α : Type} {p : α → Bool} {xs : List α} {k : Nat} (hn : ∀ i (hi : i < xs.length), i < k → p xs[i] = true) (hk : xs.length ≤ k) : xs.all p = true := by
  rw [List.all_eq_true]; intro x hx; obtain ⟨i, hi, rfl⟩ := List.getElem_of_mem hx; exact hn i hi (by omega)
theorem all_no {α : Type} {p : α → Bool} {xs : List α} {k : Nat} (hk : k < xs.length) (h : p xs[k] = false) : xs.all p = false := by
  rw [List.all_eq_false]; exact ⟨_, List.getElem_mem hk, by simp [h]⟩
theorem factorsOk_pc (n : Int) (xs : List Int) : PCall Try.prog 77 [.int n, ints xs] (fun r => r = .bool (listOk 1000 n xs)) := by
  (refine enterS Try.func77 Try.ntmps77 ?_)
  (refine aw_bound (i := 1) rfl (fun hb => ?_); (try simp only [List.length_map] at hb))
  (repeat' (first | (refine hK _ ?_; clear hK K) | (refine aw_seq (fun K hK => ?_)) | (refine gR ?_; refine regS ?_) | (refine gE ?_; (first | (refine exN ?_) | (refine exS (fun _ => ?_)))) | (refine gC 20 ?_; refine callS (in_pc _ _ _) ?_) | (refine stk_op (fun K hK => ?_); (first | (refine aop_pv (pv_eql (by rfl) (by rfl)) ?_) | (refine aop_pv (pv_eqlB (by rfl) (by rfl)) ?_) | (refine aop_pv (pv_eqlA (by rfl) (by rfl) (by kernel_rfl)) ?_))) | (refine gQ ?_; (first | (refine condT ?_) | (refine condF ?_) | (refine condS (fun hc => ?_) (fun hc => ?_) <;> (try (first | contradiction | (exfalso; omega)))))) | (refine gW ?_; refine wopsS ?_) | (refine aw_block ?_) | (refine gX ?_; refine exitS ?_) | (refine gT ?_; refine retS ?_) | (refine gS ?_; refine skipS ?_) | (apply_assumption (exfalso := false) (symm := false))))
  refine aw_loop_at [4, 5, 6, 7, 8, 9, 10, 11, 12, 13, 14, 15, 16, 17] (fun k : Nat => k ≤ xs.length ∧ ∀ i (hi : i < xs.length), i < k → inB xs[i] (-1000) 1000 = true) (fun k => xs.length - k) (fun k => [(5, .int k)]) (fun _ => []) 0 ⟨by omega, by omega⟩ ?_ ?_
  · (simp only [sets, havoc, go_sem, Nat.reduceAdd, Nat.reduceMul, reduceIte, Nat.reduceEqDiff, Nat.reduceLeDiff, Int.reduceBEq, Int.reduceBNe, Int.reduceLT, Int.reduceLE, decide_true, decide_false])
    (exact weakS)
  · rintro k ⟨hk, hn⟩ K hK
    (simp only [sets, havoc, go_sem, Nat.reduceAdd, Nat.reduceMul, reduceIte, Nat.reduceEqDiff, Nat.reduceLeDiff, Int.reduceBEq, Int.reduceBNe, Int.reduceLT, Int.reduceLE, decide_true, decide_false])
    (repeat' (first | (refine hK _ ?_; clear hK K) | (refine aw_seq (fun K hK => ?_)) | (refine gR ?_; refine regS ?_) | (refine gE ?_; (first | (refine exN ?_) | (refine exS (fun _ => ?_)))) | (refine gC 20 ?_; refine callS (in_pc _ _ _) ?_) | (refine stk_op (fun K hK => ?_); (first | (refine aop_pv (pv_eql (by rfl) (by rfl)) ?_) | (refine aop_pv (pv_eqlB (by rfl) (by rfl)) ?_) | (refine aop_pv (pv_eqlA (by rfl) (by rfl) (by kernel_rfl)) ?_))) | (refine gQ ?_; (first | (refine condT ?_) | (refine condF ?_) | (refine condS (fun hc => ?_) (fun hc => ?_) <;> (try (first | contradiction | (exfalso; omega)))))) | (refine gW ?_; refine wopsS ?_) | (refine aw_block ?_) | (refine gX ?_; refine exitS ?_) | (refine gT ?_; refine retS ?_) | (refine gS ?_; refine skipS ?_) | (apply_assumption (exfalso := false) (symm := false))))
    · (refine fin_le (Le.refl _) (rv_one (rv1_tmp (by rfl))) (by first | rfl | (simp only [go_sem, Nat.reduceAdd, Nat.reduceMul, reduceIte, Nat.reduceEqDiff, Nat.reduceLeDiff, Int.reduceBEq, Int.reduceBNe, Int.reduceLT, Int.reduceLE, decide_true, decide_false])) ?_)
      simp only [listOk, all_no (p := fun x => inB x (-1000) 1000) (by omega) hc, Bool.and_false]
    · refine ⟨k + 1, ⟨by omega, upto_step hn fun _ => hc⟩, by omega, ?_⟩
      (simp only [sets, havoc, go_sem, Nat.reduceAdd, Nat.reduceMul, reduceIte, Nat.reduceEqDiff, Nat.reduceLeDiff, Int.reduceBEq, Int.reduceBNe, Int.reduceLT, Int.reduceLE, decide_true, decide_false])
      (exact weakS)
    · (refine fin_le (Le.refl _) (rv_one (rv1_tmp (by rfl))) (by first | rfl | (simp only [go_sem, Nat.reduceAdd, Nat.reduceMul, reduceIte, Nat.reduceEqDiff, Nat.reduceLeDiff, Int.reduceBEq, Int.reduceBNe, Int.reduceLT, Int.reduceLE, decide_true, decide_false])) ?_)
      simp only [listOk, all_yes (p := fun x => inB x (-1000) 1000) hn (by omega), Bool.and_true, int_beq]

theorem valuesOk_pc (n : Int) (xs : List Int) : PCall Try.prog 45 [.int n, ints xs] (fun r => r = .bool (listOk 1000000 n xs)) := by
  (refine enterS Try.func45 Try.ntmps45 ?_)
  (refine aw_bound (i := 1) rfl (fun hb => ?_); (try simp only [List.length_map] at hb))
  (repeat' (first | (refine hK _ ?_; clear hK K) | (refine aw_seq (fun K hK => ?_)) | (refine gR ?_; refine regS ?_) | (refine gE ?_; (first | (refine exN ?_) | (refine exS (fun _ => ?_)))) | (refine gC 20 ?_; refine callS (in_pc _ _ _) ?_) | (refine stk_op (fun K hK => ?_); (first | (refine aop_pv (pv_eql (by rfl) (by rfl)) ?_) | (refine aop_pv (pv_eqlB (by rfl) (by rfl)) ?_) | (refine aop_pv (pv_eqlA (by rfl) (by rfl) (by kernel_rfl)) ?_))) | (refine gQ ?_; (first | (refine condT ?_) | (refine condF ?_) | (refine condS (fun hc => ?_) (fun hc => ?_) <;> (try (first | contradiction | (exfalso; omega)))))) | (refine gW ?_; refine wopsS ?_) | (refine aw_block ?_) | (refine gX ?_; refine exitS ?_) | (refine gT ?_; refine retS ?_) | (refine gS ?_; refine skipS ?_) | (apply_assumption (exfalso := false) (symm := false))))
  refine aw_loop_at [4, 5, 6, 7, 8, 9, 10, 11, 12, 13, 14, 15, 16, 17] (fun k : Nat => k ≤ xs.length ∧ ∀ i (hi : i < xs.length), i < k → inB xs[i] (-1000000) 1000000 = true) (fun k => xs.length - k) (fun k => [(5, .int k)]) (fun _ => []) 0 ⟨by omega, by omega⟩ ?_ ?_
  · (simp only [sets, havoc, go_sem, Nat.reduceAdd, Nat.reduceMul, reduceIte, Nat.reduceEqDiff, Nat.reduceLeDiff, Int.reduceBEq, Int.reduceBNe, Int.reduceLT, Int.reduceLE, decide_true, decide_false])
    (exact weakS)
  · rintro k ⟨hk, hn⟩ K hK
    (simp only [sets, havoc, go_sem, Nat.reduceAdd, Nat.reduceMul, reduceIte, Nat.reduceEqDiff, Nat.reduceLeDiff, Int.reduceBEq, Int.reduceBNe, Int.reduceLT, Int.reduceLE, decide_true, decide_false])
    (repeat' (first | (refine hK _ ?_; clear hK K) | (refine aw_seq (fun K hK => ?_)) | (refine gR ?_; refine regS ?_) | (refine gE ?_; (first | (refine exN ?_) | (refine exS (fun _ => ?_)))) | (refine gC 20 ?_; refine callS (in_pc _ _ _) ?_) | (refine stk_op (fun K hK => ?_); (first | (refine aop_pv (pv_eql (by rfl) (by rfl)) ?_) | (refine aop_pv (pv_eqlB (by rfl) (by rfl)) ?_) | (refine aop_pv (pv_eqlA (by rfl) (by rfl) (by kernel_rfl)) ?_))) | (refine gQ ?_; (first | (refine condT ?_) | (refine condF ?_) | (refine condS (fun hc => ?_) (fun hc => ?_) <;> (try (first | contradiction | (exfalso; omega)))))) | (refine gW ?_; refine wopsS ?_) | (refine aw_block ?_) | (refine gX ?_; refine exitS ?_) | (refine gT ?_; refine retS ?_) | (refine gS ?_; refine skipS ?_) | (apply_assumption (exfalso := false) (symm := false))))
    · (refine fin_le (Le.refl _) (rv_one (rv1_tmp (by rfl))) (by first | rfl | (simp only [go_sem, Nat.reduceAdd, Nat.reduceMul, reduceIte, Nat.reduceEqDiff, Nat.reduceLeDiff, Int.reduceBEq, Int.reduceBNe, Int.reduceLT, Int.reduceLE, decide_true, decide_false])) ?_)
      simp only [listOk, all_no (p := fun x => inB x (-1000000) 1000000) (by omega) hc, Bool.and_false]
    · refine ⟨k + 1, ⟨by omega, upto_step hn fun _ => hc⟩, by omega, ?_⟩
      (simp only [sets, havoc, go_sem, Nat.reduceAdd, Nat.reduceMul, reduceIte, Nat.reduceEqDiff, Nat.reduceLeDiff, Int.reduceBEq, Int.reduceBNe, Int.reduceLT, Int.reduceLE, decide_true, decide_false])
      (exact weakS)
    · (refine fin_le (Le.refl _) (rv_one (rv1_tmp (by rfl))) (by first | rfl | (simp only [go_sem, Nat.reduceAdd, Nat.reduceMul, reduceIte, Nat.reduceEqDiff, Nat.reduceLeDiff, Int.reduceBEq, Int.reduceBNe, Int.reduceLT, Int.reduceLE, decide_true, decide_false])) ?_)
      simp only [listOk, all_yes (p := fun x => inB x (-1000000) 1000000) hn (by omega), Bool.and_true, int_beq]

/-! comparisons -/
def cmpCode1 (n : Int) (c : Cmp) : Option Int := if c.kind ≠ 1 ∧ c.kind ≠ 2 then some 4 else if listOk 1000 n c.f = false ∨ inB c.bound (-1000000) 1000000 = false then some 3 else none
def cmpAt (n : Int) (l : List Cmp) (i : Nat) : Option Int := cmpCode1 n l[i]!
def cmpCode (n : Int) (l : List Cmp) : Option Int := if 8 < l.length then some 2 else firstSome (cmpAt n l) l.length
theorem cmpAt_eq {n : Int} {l : List Cmp} {k : Nat} (h : k < l.length) : cmpAt n l k = cmpCode1 n l[k] := by simp [cmpAt, h]
abbrev code (o : Option Int) : AV := .int (o.getD 0)
theorem comparisons_pc (n : Int) (l : List Cmp) : PCall Try.prog 80 [.int n, .isl 3 40 (l.map Cmp.av)] (fun r => r = code (cmpCode n l)) := by
  (refine enterS Try.func80 Try.ntmps80 ?_)
  (refine aw_bound (i := 1) rfl (fun hb => ?_); (try simp only [List.length_map] at hb))
  (repeat' (first | (refine hK _ ?_; clear hK K) | (refine aw_seq (fun K hK => ?_)) | (refine gR ?_; refine regS ?_) | (refine gE ?_; (first | (refine exN ?_) | (refine exS (fun _ => ?_)))) | (refine gC 110 ?_; refine callS (factors_pc _ _) ?_) | (refine gC 109 ?_; refine callS (within_pc _ _ (by omega)) ?_) | (refine stk_op (fun K hK => ?_); (first | (refine aop_pv (pv_fieldAddrF (by rfl) (by rfl) (by first | decide | (simp; done) | (simp; omega))) ?_) | (refine aop_pv (pv_fieldAddrIF (by rfl) (by rfl) (by first | decide | (simp; done) | (simp; omega))) ?_) | (refine aop_pv (pv_neq (by rfl) (by rfl)) ?_) | (refine aop_pv (pv_neqB (by rfl) (by rfl)) ?_) | (refine aop_pv (pv_neqA (by rfl) (by rfl) (by kernel_rfl)) ?_))) | (refine gQ ?_; (first | (refine condT ?_) | (refine condF ?_) | (refine condS (fun hc => ?_) (fun hc => ?_) <;> (try (first | contradiction | (exfalso; omega)))))) | (refine gG ?_; refine guardS (fun hc => ?_) (fun hc => ?_) <;> (try (first | contradiction | (exfalso; omega)))) | (refine gW ?_; refine wopsS ?_) | (refine aw_block ?_) | (refine gX ?_; refine exitS ?_) | (refine gT ?_; refine retS ?_) | (refine gS ?_; refine skipS ?_) | (apply_assumption (exfalso := false) (symm := false))))
  · (refine fin_le (Le.refl _) (rv_one (rv1_tmp (by rfl))) (by first | rfl | (simp only [go_sem, Nat.reduceAdd, Nat.reduceMul, reduceIte, Nat.reduceEqDiff, Nat.reduceLeDiff, Int.reduceBEq, Int.reduceBNe, Int.reduceLT, Int.reduceLE, decide_true, decide_false])) ?_)
    have h8 : 8 < l.length := by omega
    simp [cmpCode, h8]
  refine aw_loop_at [4, 6, 12, 13, 14, 15, 16, 17, 18, 19, 20, 21, 22, 23, 24, 25, 26, 27, 28, 29, 30, 31, 32, 33, 34, 35, 36, 37] (fun k : Nat => k ≤ l.length ∧ firstSome (cmpAt n l) k = none) (fun k => l.length - k) (fun k => [(12, .int k)]) (fun _ => []) 0 ⟨by omega, rfl⟩ ?_ ?_
  · (simp only [sets, havoc, go_sem, Nat.reduceAdd, Nat.reduceMul, reduceIte, Nat.reduceEqDiff, Nat.reduceLeDiff, Int.reduceBEq, Int.reduceBNe, Int.reduceLT, Int.reduceLE, decide_true, decide_false])
    (exact weakS)
  · rintro k ⟨hk, hn⟩ K hK
    have h8 : ¬ 8 < l.length := by omega
    (simp only [sets, havoc, go_sem, Nat.reduceAdd, Nat.reduceMul, reduceIte, Nat.reduceEqDiff, Nat.reduceLeDiff, Int.reduceBEq, Int.reduceBNe, Int.reduceLT, Int.reduceLE, decide_true, decide_false])
    by_cases hlt : k < l.length
    · have hkk := cmpAt_eq (n := n) hlt
      (repeat' (first | (refine hK _ ?_; clear hK K) | (refine aw_seq (fun K hK => ?_)) | (refine gR ?_; refine regS ?_) | (refine gE ?_; (first | (refine exN ?_) | (refine exS (fun _ => ?_)))) | (refine gC 110 ?_; refine callS (factors_pc _ _) ?_) | (refine gC 109 ?_; refine callS (within_pc _ _ (by omega)) ?_) | (refine stk_op (fun K hK => ?_); (first | (refine aop_pv (pv_fieldAddrF (by rfl) (by rfl) (by first | decide | (simp; done) | (simp; omega))) ?_) | (refine aop_pv (pv_fieldAddrIF (by rfl) (by rfl) (by first | decide | (simp; done) | (simp; omega))) ?_) | (refine aop_pv (pv_neq (by rfl) (by rfl)) ?_) | (refine aop_pv (pv_neqB (by rfl) (by rfl)) ?_) | (refine aop_pv (pv_neqA (by rfl) (by rfl) (by kernel_rfl)) ?_))) | (refine gQ ?_; (first | (refine condT ?_) | (refine condF ?_) | (refine condS (fun hc => ?_) (fun hc => ?_) <;> (try (first | contradiction | (exfalso; omega)))))) | (refine gG ?_; refine guardS (fun hc => ?_) (fun hc => ?_) <;> (try (first | contradiction | (exfalso; omega)))) | (refine gW ?_; refine wopsS ?_) | (refine aw_block ?_) | (refine gX ?_; refine exitS ?_) | (refine gT ?_; refine retS ?_) | (refine gS ?_; refine skipS ?_) | (apply_assumption (exfalso := false) (symm := false))))
      all_goals first
        | (refine ⟨k + 1, ⟨by omega, firstSome_step hn ?_⟩, by omega, ?_⟩; (focus (rw [hkk]; ((simp_all [cmpCode1]) <;> (repeat' split) <;> first | rfl | omega))); (simp only [sets, havoc, go_sem, Nat.reduceAdd, Nat.reduceMul, reduceIte, Nat.reduceEqDiff, Nat.reduceLeDiff, Int.reduceBEq, Int.reduceBNe, Int.reduceLT, Int.reduceLE, decide_true, decide_false]); (exact weakS))
        | ((refine fin_le (Le.refl _) (rv_one (rv1_tmp (by rfl))) (by first | rfl | (simp only [go_sem, Nat.reduceAdd, Nat.reduceMul, reduceIte, Nat.reduceEqDiff, Nat.reduceLeDiff, Int.reduceBEq, Int.reduceBNe, Int.reduceLT, Int.reduceLE, decide_true, decide_false])) ?_); refine (have e : cmpAt n l k = some 3 := ?_; ?_); (focus (rw [hkk]; ((simp_all [cmpCode1]) <;> (repeat' split) <;> first | rfl | omega))); (focus (simp only [cmpCode, if_neg h8, firstSome_hit hn e hlt]; first | done | rfl)))
        | ((refine fin_le (Le.refl _) (rv_one (rv1_tmp (by rfl))) (by first | rfl | (simp only [go_sem, Nat.reduceAdd, Nat.reduceMul, reduceIte, Nat.reduceEqDiff, Nat.reduceLeDiff, Int.reduceBEq, Int.reduceBNe, Int.reduceLT, Int.reduceLE, decide_true, decide_false])) ?_); refine (have e : cmpAt n l k = some 4 := ?_; ?_); (focus (rw [hkk]; ((simp_all [cmpCode1]) <;> (repeat' split) <;> first | rfl | omega))); (focus (simp only [cmpCode, if_neg h8, firstSome_hit hn e hlt]; first | done | rfl)))
    · (repeat' (first | (refine hK _ ?_; clear hK K) | (refine aw_seq (fun K hK => ?_)) | (refine gR ?_; refine regS ?_) | (refine gE ?_; (first | (refine exN ?_) | (refine exS (fun _ => ?_)))) | (refine gC 110 ?_; refine callS (factors_pc _ _) ?_) | (refine gC 109 ?_; refine callS (within_pc _ _ (by omega)) ?_) | (refine stk_op (fun K hK => ?_); (first | (refine aop_pv (pv_fieldAddrF (by rfl) (by rfl) (by first | decide | (simp; done) | (simp; omega))) ?_) | (refine aop_pv (pv_fieldAddrIF (by rfl) (by rfl) (by first | decide | (simp; done) | (simp; omega))) ?_) | (refine aop_pv (pv_neq (by rfl) (by rfl)) ?_) | (refine aop_pv (pv_neqB (by rfl) (by rfl)) ?_) | (refine aop_pv (pv_neqA (by rfl) (by rfl) (by kernel_rfl)) ?_))) | (refine gQ ?_; (first | (refine condT ?_) | (refine condF ?_) | (refine condS (fun hc => ?_) (fun hc => ?_) <;> (try (first | contradiction | (exfalso; omega)))))) | (refine gG ?_; refine guardS (fun hc => ?_) (fun hc => ?_) <;> (try (first | contradiction | (exfalso; omega)))) | (refine gW ?_; refine wopsS ?_) | (refine aw_block ?_) | (refine gX ?_; refine exitS ?_) | (refine gT ?_; refine retS ?_) | (refine gS ?_; refine skipS ?_) | (apply_assumption (exfalso := false) (symm := false))))
      (refine fin_le (Le.refl _) (rv_one (rv1_tmp (by rfl))) (by first | rfl | (simp only [go_sem, Nat.reduceAdd, Nat.reduceMul, reduceIte, Nat.reduceEqDiff, Nat.reduceLeDiff, Int.reduceBEq, Int.reduceBNe, Int.reduceLT, Int.reduceLE, decide_true, decide_false])) ?_)
      obtain rfl : k = l.length := by omega
      simp [cmpCode, h8, hn]

theorem inB_kind (k : Int) : inB k 1 2 = decide (¬ (k ≠ 1 ∧ k ≠ 2)) := by
  unfold inB
  by_cases h1 : k = 1
  · subst h1; rfl
  · by_cases h2 : k = 2
    · subst h2; rfl
    · have : ¬ (1 ≤ k ∧ k ≤ 2) := by omega
      simp [h1, h2]; omega
theorem comparisonsCode_pc (n : Int) (l : List Cmp) : PCall Try.prog 76 [.int n, .isl 3 40 (l.map Cmp.av)] (fun r => r = code (cmpCode n l)) := by
  (refine enterS Try.func76 Try.ntmps76 ?_)
  (refine aw_bound (i := 1) rfl (fun hb => ?_); (try simp only [List.length_map] at hb))
  (repeat' (first | (refine hK _ ?_; clear hK K) | (refine aw_seq (fun K hK => ?_)) | (refine gR ?_; refine regS ?_) | (refine gE ?_; (first | (refine exN ?_) | (refine exS (fun _ => ?_)))) | (refine gC 20 ?_; refine callS (in_pc _ _ _) ?_) | (refine gC 77 ?_; refine callS (factorsOk_pc _ _) ?_) | (refine stk_op (fun K hK => ?_); (first | (refine aop_pv (pv_fieldAddrF (by rfl) (by rfl) (by first | decide | (simp; done) | (simp; omega))) ?_) | (refine aop_pv (pv_fieldAddrIF (by rfl) (by rfl) (by first | decide | (simp; done) | (simp; omega))) ?_))) | (refine gQ ?_; (first | (refine condT ?_) | (refine condF ?_) | (refine condS (fun hc => ?_) (fun hc => ?_) <;> (try (first | contradiction | (exfalso; omega)))))) | (refine gG ?_; refine guardS (fun hc => ?_) (fun hc => ?_) <;> (try (first | contradiction | (exfalso; omega)))) | (refine gW ?_; refine wopsS ?_) | (refine aw_block ?_) | (refine gX ?_; refine exitS ?_) | (refine gT ?_; refine retS ?_) | (refine gS ?_; refine skipS ?_) | (apply_assumption (exfalso := false) (symm := false))))
  · (refine fin_le (Le.refl _) (rv_one (rv1_tmp (by rfl))) (by first | rfl | (simp only [go_sem, Nat.reduceAdd, Nat.reduceMul, reduceIte, Nat.reduceEqDiff, Nat.reduceLeDiff, Int.reduceBEq, Int.reduceBNe, Int.reduceLT, Int.reduceLE, decide_true, decide_false])) ?_)
    have h8 : 8 < l.length := by omega
    simp [cmpCode, h8]
  refine aw_loop_at [4, 5, 9, 10, 11, 12, 13, 14, 15, 16, 17, 18, 19, 20, 21, 22, 23, 24, 25, 26, 27, 28, 29, 30, 31, 32, 33, 34, 35, 36, 37, 38] (fun k : Nat => k ≤ l.length ∧ firstSome (cmpAt n l) k = none) (fun k => l.length - k) (fun k => [(5, .int k)]) (fun _ => []) 0 ⟨by omega, rfl⟩ ?_ ?_
  · (simp only [sets, havoc, go_sem, Nat.reduceAdd, Nat.reduceMul, reduceIte, Nat.reduceEqDiff, Nat.reduceLeDiff, Int.reduceBEq, Int.reduceBNe, Int.reduceLT, Int.reduceLE, decide_true, decide_false])
    (exact weakS)
  · rintro k ⟨hk, hn⟩ K hK
    have h8 : ¬ 8 < l.length := by omega
    (simp only [sets, havoc, go_sem, Nat.reduceAdd, Nat.reduceMul, reduceIte, Nat.reduceEqDiff, Nat.reduceLeDiff, Int.reduceBEq, Int.reduceBNe, Int.reduceLT, Int.reduceLE, decide_true, decide_false])
    by_cases hlt : k < l.length
    · have hkk := cmpAt_eq (n := n) hlt
      have hki := inB_kind l[k].kind
      (repeat' (first | (refine hK _ ?_; clear hK K) | (refine aw_seq (fun K hK => ?_)) | (refine gR ?_; refine regS ?_) | (refine gE ?_; (first | (refine exN ?_) | (refine exS (fun _ => ?_)))) | (refine gC 20 ?_; refine callS (in_pc _ _ _) ?_) | (refine gC 77 ?_; refine callS (factorsOk_pc _ _) ?_) | (refine stk_op (fun K hK => ?_); (first | (refine aop_pv (pv_fieldAddrF (by rfl) (by rfl) (by first | decide | (simp; done) | (simp; omega))) ?_) | (refine aop_pv (pv_fieldAddrIF (by rfl) (by rfl) (by first | decide | (simp; done) | (simp; omega))) ?_))) | (refine gQ ?_; (first | (refine condT ?_) | (refine condF ?_) | (refine condS (fun hc => ?_) (fun hc => ?_) <;> (try (first | contradiction | (exfalso; omega)))))) | (refine gG ?_; refine guardS (fun hc => ?_) (fun hc => ?_) <;> (try (first | contradiction | (exfalso; omega)))) | (refine gW ?_; refine wopsS ?_) | (refine aw_block ?_) | (refine gX ?_; refine exitS ?_) | (refine gT ?_; refine retS ?_) | (refine gS ?_; refine skipS ?_) | (apply_assumption (exfalso := false) (symm := false))))
      all_goals first
        | (refine ⟨k + 1, ⟨by omega, firstSome_step hn ?_⟩, by omega, ?_⟩; (focus (rw [hkk]; ((simp_all [cmpCode1]) <;> (repeat' split) <;> first | rfl | omega))); (simp only [sets, havoc, go_sem, Nat.reduceAdd, Nat.reduceMul, reduceIte, Nat.reduceEqDiff, Nat.reduceLeDiff, Int.reduceBEq, Int.reduceBNe, Int.reduceLT, Int.reduceLE, decide_true, decide_false]); (exact weakS))
        | ((refine fin_le (Le.refl _) (rv_one (rv1_tmp (by rfl))) (by first | rfl | (simp only [go_sem, Nat.reduceAdd, Nat.reduceMul, reduceIte, Nat.reduceEqDiff, Nat.reduceLeDiff, Int.reduceBEq, Int.reduceBNe, Int.reduceLT, Int.reduceLE, decide_true, decide_false])) ?_); refine (have e : cmpAt n l k = some 3 := ?_; ?_); (focus (rw [hkk]; ((simp_all [cmpCode1]) <;> (repeat' split) <;> first | rfl | omega))); (focus (simp only [cmpCode, if_neg h8, firstSome_hit hn e hlt]; first | done | rfl)))
        | ((refine fin_le (Le.refl _) (rv_one (rv1_tmp (by rfl))) (by first | rfl | (simp only [go_sem, Nat.reduceAdd, Nat.reduceMul, reduceIte, Nat.reduceEqDiff, Nat.reduceLeDiff, Int.reduceBEq, Int.reduceBNe, Int.reduceLT, Int.reduceLE, decide_true, decide_false])) ?_); refine (have e : cmpAt n l k = some 4 := ?_; ?_); (focus (rw [hkk]; ((simp_all [cmpCode1]) <;> (repeat' split) <;> first | rfl | omega))); (focus (simp only [cmpCode, if_neg h8, firstSome_hit hn e hlt]; first | done | rfl)))
    · (repeat' (first | (refine hK _ ?_; clear hK K) | (refine aw_seq (fun K hK => ?_)) | (refine gR ?_; refine regS ?_) | (refine gE ?_; (first | (refine exN ?_) | (refine exS (fun _ => ?_)))) | (refine gC 20 ?_; refine callS (in_pc _ _ _) ?_) | (refine gC 77 ?_; refine callS (factorsOk_pc _ _) ?_) | (refine stk_op (fun K hK => ?_); (first | (refine aop_pv (pv_fieldAddrF (by rfl) (by rfl) (by first | decide | (simp; done) | (simp; omega))) ?_) | (refine aop_pv (pv_fieldAddrIF (by rfl) (by rfl) (by first | decide | (simp; done) | (simp; omega))) ?_))) | (refine gQ ?_; (first | (refine condT ?_) | (refine condF ?_) | (refine condS (fun hc => ?_) (fun hc => ?_) <;> (try (first | contradiction | (exfalso; omega)))))) | (refine gG ?_; refine guardS (fun hc => ?_) (fun hc => ?_) <;> (try (first | contradiction | (exfalso; omega)))) | (refine gW ?_; refine wopsS ?_) | (refine aw_block ?_) | (refine gX ?_; refine exitS ?_) | (refine gT ?_; refine retS ?_) | (refine gS ?_; refine skipS ?_) | (apply_assumption (exfalso := false) (symm := false))))
      (refine fin_le (Le.refl _) (rv_one (rv1_tmp (by rfl))) (by first | rfl | (simp only [go_sem, Nat.reduceAdd, Nat.reduceMul, reduceIte, Nat.reduceEqDiff, Nat.reduceLeDiff, Int.reduceBEq, Int.reduceBNe, Int.reduceLT, Int.reduceLE, decide_true, decide_false])) ?_)
      obtain rfl : k = l.length := by omega
      simp [cmpCode, h8, hn]

/-! changes -/
def chgCode1 (n i pv : Int) (c : Chg) : Option Int :=
  if c.var < 0 ∨ n ≤ c.var ∨ listOk 1000 n c.f = false ∨ inB c.const (-1000) 1000 = false then some 3 else if 0 < i ∧ c.var ≤ pv then some 5 else none
def chgAt (n : Int) (l : List Chg) (i : Nat) : Option Int := chgCode1 n i l[i-1]!.var l[i]!
def chgCode (n : Int) (l : List Chg) : Option Int := firstSome (chgAt n l) l.length
theorem chgAt_eq {n : Int} {l : List Chg} {k : Nat} (h : k < l.length) (h1 : k - 1 < l.length) : chgAt n l k = chgCode1 n k l[k-1].var l[k] := by simp [chgAt, h, h1]
theorem changes_pc (n : Int) (l : List Chg) : PCall Try.prog 111 [.int n, .isl 3 40 (l.map Chg.av)] (fun r => r = code (chgCode n l)) := by
  (refine enterS Try.func111 Try.ntmps111 ?_)
  (refine aw_bound (i := 1) rfl (fun hb => ?_); (try simp only [List.length_map] at hb))
  (repeat' (first | (refine hK _ ?_; clear hK K) | (refine aw_seq (fun K hK => ?_)) | (refine gR ?_; refine regS ?_) | (refine gD 6 ?_; refine drS (.it 0 0 (.it 1 0 (.it 2 0 (.it 3 0 (.it 4 0 (.it 5 0 (.it 6 0 (.it 7 0 (.it 8 0 (.it 9 0 (.it 10 0 (.it 11 0 (.it 12 0 (.it 13 0 .nil)))))))))))))) [0, 1, 2, 3, 4, 5, 6, 7, 8, 9, 10, 11, 12, 13] ?_) | (refine gE ?_; (first | (refine exN ?_) | (refine exS (fun _ => ?_)))) | (refine gC 110 ?_; refine callS (factors_pc _ _) ?_) | (refine gC 109 ?_; refine callS (within_pc _ _ (by omega)) ?_) | (refine stk_op (fun K hK => ?_); (first | (refine aop_pv (pv_fieldAddrF (by rfl) (by rfl) (by first | decide | (simp; done) | (simp; omega))) ?_) | (refine aop_pv (pv_fieldAddrIF (by rfl) (by rfl) (by first | decide | (simp; done) | (simp; omega))) ?_))) | (refine adx_op (fun K hK => ?_); (first | (refine pv_fieldAddrF (by rfl) (by rfl) (by first | decide | (simp; done) | (simp; omega)) ?_) | (refine pv_fieldAddrIF (by rfl) (by rfl) (by first | decide | (simp; done) | (simp; omega)) ?_))) | (refine And.intro ?_ ?_) | (refine gDx ?_; refine adxS ?_) | (refine gQ ?_; (first | (refine condT ?_) | (refine condF ?_) | (refine condS (fun hc => ?_) (fun hc => ?_) <;> (try (first | contradiction | (exfalso; omega)))))) | (refine gG ?_; refine guardS (fun hc => ?_) (fun hc => ?_) <;> (try (first | contradiction | (exfalso; omega)))) | (refine gGd ?_; refine guardD (fun hc => ?_) (fun hc => ?_) <;> (try (first | contradiction | (exfalso; omega)))) | (refine gW ?_; refine wopsS ?_) | (refine gWd ?_; refine wdrS ?_) | (refine aw_block ?_) | (refine gX ?_; refine exitS ?_) | (refine gT ?_; refine retS ?_) | (refine gS ?_; refine skipS ?_) | (apply_assumption (exfalso := false) (symm := false))))
  refine aw_loop_at [4, 5, 6, 9, 10, 11, 12, 13, 14, 15, 16, 17, 18, 19, 20, 21, 22, 23, 24, 25, 26, 27, 28, 29, 30, 31, 32, 33, 34, 35, 36, 37, 38, 39, 40, 41, 42, 43, 44, 45, 46, 47, 48, 49, 50, 51] (fun k : Nat => k ≤ l.length ∧ firstSome (chgAt n l) k = none) (fun k => l.length - k) (fun k => [(9, .int k)]) (fun _ => []) 0 ⟨by omega, rfl⟩ ?_ ?_
  · (simp only [sets, havoc, go_sem, Nat.reduceAdd, Nat.reduceMul, reduceIte, Nat.reduceEqDiff, Nat.reduceLeDiff, Int.reduceBEq, Int.reduceBNe, Int.reduceLT, Int.reduceLE, decide_true, decide_false])
    (exact weakS)
  · rintro k ⟨hk, hn⟩ K hK
    (simp only [sets, havoc, go_sem, Nat.reduceAdd, Nat.reduceMul, reduceIte, Nat.reduceEqDiff, Nat.reduceLeDiff, Int.reduceBEq, Int.reduceBNe, Int.reduceLT, Int.reduceLE, decide_true, decide_false])
    by_cases hlt : k < l.length
    · have hp1 : k - 1 < l.length := by omega
      have hkk := chgAt_eq (n := n) hlt hp1
      (repeat' (first | (refine hK _ ?_; clear hK K) | (refine aw_seq (fun K hK => ?_)) | (refine gR ?_; refine regS ?_) | (refine gD 6 ?_; refine drS (.it 0 0 (.it 1 0 (.it 2 0 (.it 3 0 (.it 4 0 (.it 5 0 (.it 6 0 (.it 7 0 (.it 8 0 (.it 9 0 (.it 10 0 (.it 11 0 (.it 12 0 (.it 13 0 .nil)))))))))))))) [0, 1, 2, 3, 4, 5, 6, 7, 8, 9, 10, 11, 12, 13] ?_) | (refine gE ?_; (first | (refine exN ?_) | (refine exS (fun _ => ?_)))) | (refine gC 110 ?_; refine callS (factors_pc _ _) ?_) | (refine gC 109 ?_; refine callS (within_pc _ _ (by omega)) ?_) | (refine stk_op (fun K hK => ?_); (first | (refine aop_pv (pv_fieldAddrF (by rfl) (by rfl) (by first | decide | (simp; done) | (simp; omega))) ?_) | (refine aop_pv (pv_fieldAddrIF (by rfl) (by rfl) (by first | decide | (simp; done) | (simp; omega))) ?_))) | (refine adx_op (fun K hK => ?_); (first | (refine pv_fieldAddrF (by rfl) (by rfl) (by first | decide | (simp; done) | (simp; omega)) ?_) | (refine pv_fieldAddrIF (by rfl) (by rfl) (by first | decide | (simp; done) | (simp; omega)) ?_))) | (refine And.intro ?_ ?_) | (refine gDx ?_; refine adxS ?_) | (refine gQ ?_; (first | (refine condT ?_) | (refine condF ?_) | (refine condS (fun hc => ?_) (fun hc => ?_) <;> (try (first | contradiction | (exfalso; omega)))))) | (refine gG ?_; refine guardS (fun hc => ?_) (fun hc => ?_) <;> (try (first | contradiction | (exfalso; omega)))) | (refine gGd ?_; refine guardD (fun hc => ?_) (fun hc => ?_) <;> (try (first | contradiction | (exfalso; omega)))) | (refine gW ?_; refine wopsS ?_) | (refine gWd ?_; refine wdrS ?_) | (refine aw_block ?_) | (refine gX ?_; refine exitS ?_) | (refine gT ?_; refine retS ?_) | (refine gS ?_; refine skipS ?_) | (apply_assumption (exfalso := false) (symm := false))))
      all_goals first
        | (refine ⟨k + 1, ⟨by omega, firstSome_step hn ?_⟩, by omega, ?_⟩; (focus (rw [hkk]; ((simp_all [chgCode1]) <;> (repeat' split) <;> first | rfl | omega))); (simp only [sets, havoc, go_sem, Nat.reduceAdd, Nat.reduceMul, reduceIte, Nat.reduceEqDiff, Nat.reduceLeDiff, Int.reduceBEq, Int.reduceBNe, Int.reduceLT, Int.reduceLE, decide_true, decide_false]); (exact weakS))
        | ((refine fin_le (Le.refl _) (rv_one (rv1_tmp (by rfl))) (by first | rfl | (simp only [go_sem, Nat.reduceAdd, Nat.reduceMul, reduceIte, Nat.reduceEqDiff, Nat.reduceLeDiff, Int.reduceBEq, Int.reduceBNe, Int.reduceLT, Int.reduceLE, decide_true, decide_false])) ?_); refine (have e : chgAt n l k = some 3 := ?_; ?_); (focus (rw [hkk]; ((simp_all [chgCode1]) <;> (repeat' split) <;> first | rfl | omega))); (focus (simp only [chgCode, firstSome_hit hn e hlt]; first | done | rfl)))
        | ((refine fin_le (Le.refl _) (rv_one (rv1_tmp (by rfl))) (by first | rfl | (simp only [go_sem, Nat.reduceAdd, Nat.reduceMul, reduceIte, Nat.reduceEqDiff, Nat.reduceLeDiff, Int.reduceBEq, Int.reduceBNe, Int.reduceLT, Int.reduceLE, decide_true, decide_false])) ?_); refine (have e : chgAt n l k = some 5 := ?_; ?_); (focus (rw [hkk]; ((simp_all [chgCode1]) <;> (repeat' split) <;> first | rfl | omega))); (focus (simp only [chgCode, firstSome_hit hn e hlt]; first | done | rfl)))
    · (repeat' (first | (refine hK _ ?_; clear hK K) | (refine aw_seq (fun K hK => ?_)) | (refine gR ?_; refine regS ?_) | (refine gD 6 ?_; refine drS (.it 0 0 (.it 1 0 (.it 2 0 (.it 3 0 (.it 4 0 (.it 5 0 (.it 6 0 (.it 7 0 (.it 8 0 (.it 9 0 (.it 10 0 (.it 11 0 (.it 12 0 (.it 13 0 .nil)))))))))))))) [0, 1, 2, 3, 4, 5, 6, 7, 8, 9, 10, 11, 12, 13] ?_) | (refine gE ?_; (first | (refine exN ?_) | (refine exS (fun _ => ?_)))) | (refine gC 110 ?_; refine callS (factors_pc _ _) ?_) | (refine gC 109 ?_; refine callS (within_pc _ _ (by omega)) ?_) | (refine stk_op (fun K hK => ?_); (first | (refine aop_pv (pv_fieldAddrF (by rfl) (by rfl) (by first | decide | (simp; done) | (simp; omega))) ?_) | (refine aop_pv (pv_fieldAddrIF (by rfl) (by rfl) (by first | decide | (simp; done) | (simp; omega))) ?_))) | (refine adx_op (fun K hK => ?_); (first | (refine pv_fieldAddrF (by rfl) (by rfl) (by first | decide | (simp; done) | (simp; omega)) ?_) | (refine pv_fieldAddrIF (by rfl) (by rfl) (by first | decide | (simp; done) | (simp; omega)) ?_))) | (refine And.intro ?_ ?_) | (refine gDx ?_; refine adxS ?_) | (refine gQ ?_; (first | (refine condT ?_) | (refine condF ?_) | (refine condS (fun hc => ?_) (fun hc => ?_) <;> (try (first | contradiction | (exfalso; omega)))))) | (refine gG ?_; refine guardS (fun hc => ?_) (fun hc => ?_) <;> (try (first | contradiction | (exfalso; omega)))) | (refine gGd ?_; refine guardD (fun hc => ?_) (fun hc => ?_) <;> (try (first | contradiction | (exfalso; omega)))) | (refine gW ?_; refine wopsS ?_) | (refine gWd ?_; refine wdrS ?_) | (refine aw_block ?_) | (refine gX ?_; refine exitS ?_) | (refine gT ?_; refine retS ?_) | (refine gS ?_; refine skipS ?_) | (apply_assumption (exfalso := false) (symm := false))))
      (refine fin_le (Le.refl _) (rv_one (rv1_tmp (by rfl))) (by first | rfl | (simp only [go_sem, Nat.reduceAdd, Nat.reduceMul, reduceIte, Nat.reduceEqDiff, Nat.reduceLeDiff, Int.reduceBEq, Int.reduceBNe, Int.reduceLT, Int.reduceLE, decide_true, decide_false])) ?_)
      obtain rfl : k = l.length := by omega
      simp [chgCode, hn]

def costCode (c : Int) : Option Int := if c < 0 ∨ 100 < c then some 3 else none
def opCode (n : Int) (o : NOp) : Option Int := (cmpCode n o.pre).or ((chgCode n o.chg).or (costCode o.cost))
theorem firstSome_of {α : Type} {g : Nat → Option α} {n : Nat} {a : α} (h : firstSome g n = some a) : ∃ i, g i = some a := by
  induction n with
  | zero => simp [firstSome] at h
  | succ n ih =>
    simp only [firstSome] at h
    cases hq : firstSome g n with
    | none => rw [hq] at h; exact ⟨n, by simpa using h⟩
    | some b => rw [hq] at h; simp at h; subst h; exact ih hq
theorem cmpCode_ne {n : Int} {l : List Cmp} {e : Int} (h : cmpCode n l = some e) : e ≠ 0 := by
  unfold cmpCode at h
  split at h
  · simp at h; omega
  · obtain ⟨i, hi⟩ := firstSome_of h
    unfold cmpAt cmpCode1 at hi
    split at hi
    · simp at hi; omega
    · split at hi <;> simp at hi; omega
theorem chgCode_ne {n : Int} {l : List Chg} {e : Int} (h : chgCode n l = some e) : e ≠ 0 := by
  obtain ⟨i, hi⟩ := firstSome_of h
  unfold chgAt chgCode1 at hi
  split at hi
  · simp at hi; omega
  · split at hi <;> simp at hi; omega
theorem code_zero {o : Option Int} (h : ∀ e, o = some e → e ≠ 0) : o.getD 0 = 0 ↔ o = none := by
  cases o with
  | none => simp
  | some e => simp; exact h e rfl
theorem operator_pc (n : Int) (o : NOp) : PCall Try.prog 81 [.int n, o.av] (fun r => r = code (opCode n o)) := by
  have z1 := code_zero (o := cmpCode n o.pre) fun e => cmpCode_ne
  have z2 := code_zero (o := chgCode n o.chg) fun e => chgCode_ne
  (refine enterS Try.func81 Try.ntmps81 ?_)
  (repeat' (first | (refine hK _ ?_; clear hK K) | (refine aw_seq (fun K hK => ?_)) | (refine gR ?_; refine regS ?_) | (refine gE ?_; (first | (refine exN ?_) | (refine exS (fun _ => ?_)))) | (refine gC 80 ?_; refine callS (comparisons_pc _ _) ?_) | (refine gC 111 ?_; refine callS (changes_pc _ _) ?_) | (refine stk_op (fun K hK => ?_); (first | (refine aop_pv (pv_fieldAddrF (by rfl) (by rfl) (by first | decide | (simp; done) | (simp; omega))) ?_) | (refine aop_pv (pv_fieldAddrIF (by rfl) (by rfl) (by first | decide | (simp; done) | (simp; omega))) ?_) | (refine aop_pv (pv_neq (by rfl) (by rfl)) ?_) | (refine aop_pv (pv_neqB (by rfl) (by rfl)) ?_) | (refine aop_pv (pv_neqA (by rfl) (by rfl) (by kernel_rfl)) ?_))) | (refine gQ ?_; (first | (refine condT ?_) | (refine condF ?_) | (refine condS (fun hc => ?_) (fun hc => ?_) <;> (try (first | contradiction | (exfalso; omega)))))) | (refine gG ?_; refine guardS (fun hc => ?_) (fun hc => ?_) <;> (try (first | contradiction | (exfalso; omega)))) | (refine gW ?_; refine wopsS ?_) | (refine aw_block ?_) | (refine gX ?_; refine exitS ?_) | (refine gT ?_; refine retS ?_) | (refine gS ?_; refine skipS ?_) | (apply_assumption (exfalso := false) (symm := false))))
  all_goals (refine fin_le (Le.refl _) (rv_one (rv1_tmp (by rfl))) (by first | rfl | (simp only [go_sem, Nat.reduceAdd, Nat.reduceMul, reduceIte, Nat.reduceEqDiff, Nat.reduceLeDiff, Int.reduceBEq, Int.reduceBNe, Int.reduceLT, Int.reduceLE, decide_true, decide_false])) ?_)
  all_goals (cases hA : cmpCode n o.pre <;> cases hB : chgCode n o.chg <;> (try simp_all [opCode, costCode]))
  all_goals (try (split <;> first | rfl | omega))

end Go.Proofs.Ytjefjhcaicohjaa
