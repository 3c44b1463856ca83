import Derived.Test.YthdlckclpmfidaaBas


namespace Go.Proofs.Ythdlckclpmfidaa
open Go.Ab
open Go
set_option linter.unusedSimpArgs false
set_option linter.unusedVariables false
set_option maxRecDepth 10000
attribute [local irreducible] PV AOp AOps AW PCall OCall MCall Ab.Fin OFin MFin RV RV1 Le AStk AGrd ADr ADx ADo AOpX AAny
set_option maxHeartbeats 1000000
/-! search in a set -/
theorem nan_pc (n : Int) : PCall Try.prog 86 [.int n] (fun r => r = .bool false) := by
  (refine enterS Try.func86 Try.ntmps86 ?_)
  (repeat' (first | (refine hK _ ?_; clear hK K) | (refine aw_seq (fun K hK => ?_)) | (refine gR ?_; refine regS ?_) | (refine gT ?_; refine retS ?_)))
  (refine fin_le (Le.refl _) (rv_one (rv1_tmp (by rfl))) (by first | rfl | (simp only [go_sem, Nat.reduceAdd, Nat.reduceMul, reduceIte, Nat.reduceEqDiff, Nat.reduceLeDiff, Int.reduceToNat, Int.reducePow, Int.reduceBEq, Int.reduceBNe, Int.reduceLT, Int.reduceLE, decide_true, decide_false])) ?_)
  simp

theorem nanS_pc (n : Int) : PCall Try.prog 83 [.int n] (fun r => r = .bool false) := by
  (refine enterS Try.func83 Try.ntmps83 ?_)
  (repeat' (first | (refine hK _ ?_; clear hK K) | (refine aw_seq (fun K hK => ?_)) | (refine gR ?_; refine regS ?_) | (refine gT ?_; refine retS ?_)))
  (refine fin_le (Le.refl _) (rv_one (rv1_tmp (by rfl))) (by first | rfl | (simp only [go_sem, Nat.reduceAdd, Nat.reduceMul, reduceIte, Nat.reduceEqDiff, Nat.reduceLeDiff, Int.reduceToNat, Int.reducePow, Int.reduceBEq, Int.reduceBNe, Int.reduceLT, Int.reduceLE, decide_true, decide_false])) ?_)
  simp

theorem less_pc (n m : Int) : PCall Try.prog 82 [.int n, .int m] (fun r => r = .bool (decide (n < m))) := by
  (refine enterS Try.func82 Try.ntmps82 ?_)
  (repeat' (first | (refine hK _ ?_; clear hK K) | (refine aw_seq (fun K hK => ?_)) | (refine gR ?_; refine regS ?_) | (refine gC 86 ?_; refine callS (nan_pc _) ?_) | (refine gT ?_; refine retS ?_)))
  (refine fin_le (Le.refl _) (rv_one (rv1_tmp (by rfl))) (by first | rfl | (simp only [go_sem, Nat.reduceAdd, Nat.reduceMul, reduceIte, Nat.reduceEqDiff, Nat.reduceLeDiff, Int.reduceToNat, Int.reducePow, Int.reduceBEq, Int.reduceBNe, Int.reduceLT, Int.reduceLE, decide_true, decide_false])) ?_)
  rfl

def lbN (xs : List Int) (x : Int) : Nat := (xs.takeWhile fun y => decide (y < x)).length
theorem lbN_eq {xs : List Int} {x : Int} {k : Nat} (hk : k ≤ xs.length) (h1 : ∀ i (hi : i < xs.length), i < k → xs[i] < x) (h2 : ∀ i (hi : i < xs.length), k ≤ i → x ≤ xs[i]) : lbN xs x = k := by
  unfold lbN
  induction xs generalizing k with
  | nil => simp at hk; simp [hk]
  | cons y ys ih =>
    cases k with
    | zero =>
      have := h2 0 (by simp) (by omega)
      simp at this
      rw [List.takeWhile_cons_of_neg (by simpa using this)]
      rfl
    | succ k =>
      have := h1 0 (by simp) (by omega)
      simp at this
      rw [List.takeWhile_cons_of_pos (by simpa using this), List.length_cons]
      congr 1
      exact ih (by simpa using hk) (fun i hi hik => h1 (i + 1) (by simpa using hi) (by omega)) (fun i hi hik => h2 (i + 1) (by simpa using hi) (by omega))
@[local go_sem] theorem mid_cast (i j : Nat) : ((i : Int) + (j : Int)) / 2 = (((i + j) / 2 : Nat) : Int) := by omega
theorem search_pc (xs : List Int) (x : Int) (hs : xs.Pairwise (· < ·)) : PCall Try.prog 74 [ints xs, .int x] (fun r => r = .tup [.int (lbN xs x), .bool (hasB xs x)]) := by
  have hs' := List.pairwise_iff_getElem.1 hs
  (refine enterS Try.func74 Try.ntmps74 ?_)
  (refine aw_bound (i := 0) rfl (fun hb => ?_); (try simp only [List.length_map] at hb))
  (repeat' (first | (refine hK _ ?_; clear hK K) | (refine aw_seq (fun K hK => ?_)) | (refine gR ?_; refine regS ?_) | (refine aw_block ?_)))
  refine aw_loop_at [7, 8, 9, 13, 14, 15, 16, 17, 18, 19, 20, 21, 22, 23, 24, 25, 26, 27, 28, 29, 30] (fun (p : Nat × Nat) => p.1 ≤ p.2 ∧ p.2 ≤ xs.length ∧ (∀ i (hi : i < xs.length), i < p.1 → xs[i] < x) ∧ (∀ i (hi : i < xs.length), p.2 ≤ i → x ≤ xs[i])) (fun p => p.2 - p.1) (fun p => [(7, .int p.1), (8, .int p.2)]) (fun _ => []) (0, xs.length) ⟨by simp, by simp, by simp, by simp; omega⟩ ?_ ?_
  · (refine atS ?_)
    (exact weakS)
  · rintro ⟨i, j⟩ ⟨hij, hj, h1, h2⟩ K hK
    simp only at hij hj h1 h2
    (refine atS ?_)
    by_cases hlt : i < j
    · have hm : (i + j) / 2 < xs.length := by omega
      (repeat' (first | (refine hK _ ?_; clear hK K) | (refine aw_seq (fun K hK => ?_)) | (refine gR ?_; refine regS ?_) | (refine gC 82 ?_; refine callS (less_pc _ _) ?_) | (refine gE ?_; (first | (refine exN ?_) | (refine exS (fun _ => ?_)))) | (refine gQ ?_; refine condS (fun hc => ?_) (fun hc => ?_) <;> (try (first | contradiction | (exfalso; omega)))) | (refine aw_block ?_) | (refine gS ?_; refine skipS ?_)))
      · refine ⟨((i + j) / 2 + 1, j), ⟨by simp only; omega, hj, fun k hk hk2 => ?_, h2⟩, by simp only; omega, ?_⟩
        · rcases Nat.lt_or_ge k ((i + j) / 2) with h | h
          · have := hs' k ((i + j) / 2) hk hm h; omega
          · obtain rfl : k = (i + j) / 2 := by simp only at hk2; omega
            exact hc
        · (refine atS ?_)
          (exact weakS)
      · refine ⟨(i, (i + j) / 2), ⟨by simp only; omega, by simp only; omega, h1, fun k hk hk2 => ?_⟩, by simp only; omega, ?_⟩
        · rcases Nat.lt_or_ge ((i + j) / 2) k with h | h
          · have := hs' ((i + j) / 2) k hm hk h; omega
          · obtain rfl : k = (i + j) / 2 := by simp only at hk2; omega
            omega
        · (refine atS ?_)
          (exact weakS)
    · obtain rfl : i = j := by omega
      have e := lbN_eq hj h1 h2
      have hx : x ∈ xs ↔ ∃ h : i < xs.length, xs[i] = x := by
        constructor
        · intro hm
          obtain ⟨k, hk, rfl⟩ := List.getElem_of_mem hm
          have hk2 : ¬ k < i := fun h => by have := h1 k hk h; omega
          rcases Nat.lt_or_ge i k with h | h
          · have := hs' i k (by omega) hk h
            have := h2 i (by omega) (by omega)
            omega
          · obtain rfl : i = k := by omega
            exact ⟨hk, rfl⟩
        · rintro ⟨h, rfl⟩
          exact List.getElem_mem h
      (repeat' (first | (refine hK _ ?_; clear hK K) | (refine aw_seq (fun K hK => ?_)) | (refine gR ?_; refine regS ?_) | (refine gC 83 ?_; refine callS (nanS_pc _) ?_) | (refine gE ?_; refine exS (fun _ => ?_)) | (refine gG ?_; refine guardS (fun hc => ?_) (fun hc => ?_) <;> (try (first | contradiction | (exfalso; omega)))) | (refine gQ ?_; refine condS (fun hc => ?_) (fun hc => ?_) <;> (try (first | contradiction | (exfalso; omega)))) | (refine gX ?_; refine exitS ?_) | (refine gT ?_; refine retS ?_) | (apply_assumption (exfalso := false) (symm := false))))
      all_goals (refine fin_le (Le.refl _) (rv_two (rv1_tmp (by rfl)) (rv1_tmp (by rfl))) (by first | rfl | (simp only [go_sem, Nat.reduceAdd, Nat.reduceMul, reduceIte, Nat.reduceEqDiff, Nat.reduceLeDiff, Int.reduceToNat, Int.reducePow, Int.reduceBEq, Int.reduceBNe, Int.reduceLT, Int.reduceLE, decide_true, decide_false])) ?_)
      all_goals rw [e]
      · rw [show hasB xs x = true by rw [hasB_t]; exact hx.2 ⟨by omega, hc⟩]
      · rw [show hasB xs x = false by rw [hasB_f]; exact fun h => hc (hx.1 h).2]
      · rw [show hasB xs x = false by rw [hasB_f]; exact fun h => by have := (hx.1 h).1; omega]

def idxF {α : Type} (p : α → Bool) (xs : List α) : Int := match xs.findIdx? p with | some i => (i : Int) | none => -1
theorem idxF_hit {α : Type} {p : α → Bool} {xs : List α} {k : Nat} (hk : k < xs.length) (h : p xs[k] = true) (hn : ∀ i (hi : i < xs.length), i < k → p xs[i] = false) : idxF p xs = k := by
  have : xs.findIdx? p = some k := by
    rw [List.findIdx?_eq_some_iff_getElem]
    exact ⟨hk, h, fun j hj => by simp [hn j (by omega) hj]⟩
  simp [idxF, this]
theorem idxF_none {α : Type} {p : α → Bool} {xs : List α} (hn : ∀ i (hi : i < xs.length), p xs[i] = false) : idxF p xs = -1 := by
  have : xs.findIdx? p = none := by
    rw [List.findIdx?_eq_none_iff]
    intro x hx
    obtain ⟨i, hi, rfl⟩ := List.getElem_of_mem hx
    exact hn i hi
  simp [idxF, this]
theorem idxF_any {α : Type} (p : α → Bool) (xs : List α) : decide (0 ≤ idxF p xs) = xs.any p := by
  unfold idxF
  cases h : xs.findIdx? p with
  | none =>
    rw [List.findIdx?_eq_none_iff] at h
    have : xs.any p = false := by rw [List.any_eq_false]; intro x hx; simp [h x hx]
    simp [this]
  | some k =>
    rw [List.findIdx?_eq_some_iff_getElem] at h
    obtain ⟨hk, hp, _⟩ := h
    have : xs.any p = true := List.any_eq_true.2 ⟨_, List.getElem_mem hk, hp⟩
    simp [this]
/-- Called with an element, the function value answers p. -/
def Answers (f : FuncId) (caps : List AV) {α : Type} (e : α → AV) (p : α → Bool) (xs : List α) : Prop := ∀ x ∈ xs, PCall Try.prog f ([e x] ++ caps) (fun r => r = .bool (p x))
theorem indexFunc_pc (xs : List Int) (f : FuncId) [TyC Try.prog f] (caps : List AV) (hcap : AV.purL caps = true) (p : Int → Bool) (h : Answers f caps AV.int p xs) : PCall Try.prog 81 [ints xs, .fn f caps] (fun r => r = .int (idxF p xs)) := by
  (refine enterS Try.func81 Try.ntmps81 ?_)
  (refine aw_bound (i := 0) rfl (fun hb => ?_); (try simp only [List.length_map] at hb))
  (repeat' (first | (refine hK _ ?_; clear hK K) | (refine aw_seq (fun K hK => ?_)) | (refine gR ?_; refine regS ?_) | (refine aw_block ?_)))
  refine aw_loop_at [4, 5, 8, 9, 10, 11, 12, 13, 14, 15, 16, 17, 18] (fun k : Nat => k ≤ xs.length ∧ ∀ i (hi : i < xs.length), i < k → p xs[i] = false) (fun k => xs.length - k) (fun k => [(8, .int k)]) (fun _ => []) 0 ⟨by omega, by omega⟩ ?_ ?_
  · (refine atS ?_)
    (exact weakS)
  · rintro k ⟨hk, hn⟩ K hK
    (refine atS ?_)
    by_cases hlt : k < xs.length
    · cases hp : p xs[k]
      · (repeat' (first | (refine hK _ ?_; clear hK K) | (refine aw_seq (fun K hK => ?_)) | (refine gR ?_; refine regS ?_) | (refine stk_op (fun K hK => ?_); refine aop_callV (by rfl) (h xs[k] (List.getElem_mem hlt)) (by simp [evalL, St.eval, AV.purL, AV.pur, hcap]) (fun x hx => ?_); rw [hp] at hx; subst hx) | (refine gE ?_; (first | (refine exN ?_) | (refine exS (fun _ => ?_)))) | (refine gQ ?_; (first | (refine condF ?_) | (refine condS (fun hc => ?_) (fun hc => ?_) <;> (try (first | contradiction | (exfalso; omega)))))) | (refine aw_block ?_) | (refine gS ?_; refine skipS ?_)))
        refine ⟨k + 1, ⟨by omega, fun i hi hik => ?_⟩, by omega, ?_⟩
        · rcases Nat.lt_or_ge i k with h' | h'
          · exact hn i hi h'
          · obtain rfl : i = k := by omega
            exact hp
        · (refine atS ?_)
          (exact weakS)
      · (repeat' (first | (refine hK _ ?_; clear hK K) | (refine aw_seq (fun K hK => ?_)) | (refine gR ?_; refine regS ?_) | (refine stk_op (fun K hK => ?_); refine aop_callV (by rfl) (h xs[k] (List.getElem_mem hlt)) (by simp [evalL, St.eval, AV.purL, AV.pur, hcap]) (fun x hx => ?_); rw [hp] at hx; subst hx) | (refine gE ?_; refine exS (fun _ => ?_)) | (refine gQ ?_; (first | (refine condT ?_) | (refine condS (fun hc => ?_) (fun hc => ?_) <;> (try (first | contradiction | (exfalso; omega)))))) | (refine aw_block ?_) | (refine gT ?_; refine retS ?_) | (refine gS ?_; refine skipS ?_)))
        (refine fin_le (Le.refl _) (rv_one (rv1_tmp (by rfl))) (by first | rfl | (simp only [go_sem, Nat.reduceAdd, Nat.reduceMul, reduceIte, Nat.reduceEqDiff, Nat.reduceLeDiff, Int.reduceToNat, Int.reducePow, Int.reduceBEq, Int.reduceBNe, Int.reduceLT, Int.reduceLE, decide_true, decide_false])) ?_)
        rw [idxF_hit hlt hp hn]
    · (repeat' (first | (refine hK _ ?_; clear hK K) | (refine aw_seq (fun K hK => ?_)) | (refine gR ?_; refine regS ?_) | (refine gQ ?_; refine condS (fun hc => ?_) (fun hc => ?_) <;> (try (first | contradiction | (exfalso; omega)))) | (refine gX ?_; refine exitS ?_) | (refine gT ?_; refine retS ?_) | (apply_assumption (exfalso := false) (symm := false))))
      (refine fin_le (Le.refl _) (rv_one (rv1_tmp (by rfl))) (by first | rfl | (simp only [go_sem, Nat.reduceAdd, Nat.reduceMul, reduceIte, Nat.reduceEqDiff, Nat.reduceLeDiff, Int.reduceToNat, Int.reducePow, Int.reduceBEq, Int.reduceBNe, Int.reduceLT, Int.reduceLE, decide_true, decide_false])) ?_)
      rw [idxF_none fun i hi => hn i hi (by omega)]
theorem containsFunc_pc (xs : List Int) (f : FuncId) [TyC Try.prog f] (caps : List AV) (hcap : AV.purL caps = true) (p : Int → Bool) (h : Answers f caps AV.int p xs) : PCall Try.prog 72 [ints xs, .fn f caps] (fun r => r = .bool (xs.any p)) := by
  (refine enterS Try.func72 Try.ntmps72 ?_)
  (repeat' (first | (refine hK _ ?_; clear hK K) | (refine aw_seq (fun K hK => ?_)) | (refine gR ?_; refine regS ?_) | (refine stk_op (fun K hK => ?_); refine aop_call (indexFunc_pc xs f caps hcap p h) (by simp [evalL, St.eval, AV.purL, AV.pur, hcap]) (fun x hx => ?_); subst hx) | (refine gT ?_; refine retS ?_)))
  (refine fin_le (Le.refl _) (rv_one (rv1_tmp (by rfl))) (by first | rfl | (simp only [go_sem, Nat.reduceAdd, Nat.reduceMul, reduceIte, Nat.reduceEqDiff, Nat.reduceLeDiff, Int.reduceToNat, Int.reducePow, Int.reduceBEq, Int.reduceBNe, Int.reduceLT, Int.reduceLE, decide_true, decide_false])) ?_)
  rw [idxF_any]

theorem meetsF_pc (b : List Int) (hs : b.Pairwise (· < ·)) (a : List Int) : Answers 73 [.iptr [ints b]] AV.int (hasB b) a := by
  intro x hx
  (refine enterS Try.func73 Try.ntmps73 ?_)
  (repeat' (first | (refine hK _ ?_; clear hK K) | (refine aw_seq (fun K hK => ?_)) | (refine gR ?_; refine regS ?_) | (refine gC 74 ?_; refine callS (search_pc _ _ (by assumption)) ?_) | (refine gT ?_; refine retS ?_)))
  (refine fin_le (Le.refl _) (rv_one (rv1_tmp (by rfl))) (by first | rfl | (simp only [go_sem, Nat.reduceAdd, Nat.reduceMul, reduceIte, Nat.reduceEqDiff, Nat.reduceLeDiff, Int.reduceToNat, Int.reducePow, Int.reduceBEq, Int.reduceBNe, Int.reduceLT, Int.reduceLE, decide_true, decide_false])) ?_)
  rfl

theorem any_dis (a b : List Int) : a.any (hasB b) = !disB a b := by
  rw [Bool.eq_iff_iff]
  simp [disB]
theorem meets_pc (a b : List Int) (hs : b.Pairwise (· < ·)) : PCall Try.prog 55 [ints a, ints b] (fun r => r = .bool (!disB a b)) := by
  (refine enterS Try.func55 Try.ntmps55 ?_)
  (repeat' (first | (refine hK _ ?_; clear hK K) | (refine aw_seq (fun K hK => ?_)) | (refine gR ?_; refine regS ?_) | (refine gC 72 ?_; refine callS (containsFunc_pc _ 73 [.iptr [ints _]] rfl _ (meetsF_pc _ (by assumption) _)) ?_) | (refine stk_op (fun K hK => ?_); refine aop_le (le_sealPtr 3 rfl rfl rfl) ?_; simp only [go_sem, Nat.reduceAdd, Nat.reduceMul, reduceIte, Nat.reduceEqDiff, Nat.reduceLeDiff, Int.reduceToNat, Int.reducePow, Int.reduceBEq, Int.reduceBNe, Int.reduceLT, Int.reduceLE, decide_true, decide_false]; refine aop_pv pv_makeFunc ?_) | (refine gT ?_; refine retS ?_)))
  (refine fin_le (Le.refl _) (rv_one (rv1_tmp (by rfl))) (by first | rfl | (simp only [go_sem, Nat.reduceAdd, Nat.reduceMul, reduceIte, Nat.reduceEqDiff, Nat.reduceLeDiff, Int.reduceToNat, Int.reducePow, Int.reduceBEq, Int.reduceBNe, Int.reduceLT, Int.reduceLE, decide_true, decide_false])) ?_)
  rw [any_dis]

/-! copies -/
theorem cloneI_oc0 (xs : List Int) : OCall Try.prog 71 [ints xs] [5] (fun x hp => x = .sl 1 8 5 0 xs.length ∧ hp = [(5, ⟨3, xs.map AV.int, false⟩)]) := by
  (refine enterO Try.func71 Try.ntmps71 ?_)
  (refine aw_bound (i := 0) rfl (fun hb => ?_); (try simp only [List.length_map] at hb))
  (repeat' (first | (refine hK _ ?_; clear hK K) | (refine aw_seq (fun K hK => ?_)) | (refine gR ?_; refine regS ?_) | (refine stk_op (fun K hK => ?_); (first | (refine aop_eqNil (by rfl) (fun b hnil => ?_); cases b) | (refine appendS ?_))) | (refine gQ ?_; (first | (refine condT ?_) | (refine condF ?_))) | (refine gT ?_; refine retS ?_) | (refine gS ?_; refine skipS ?_)))
  · simp only [flat_one (f := AV.int) (fun _ => rfl)]
    refine ofin_sl rfl (by rfl) (by rfl) (purL_map AV.int xs fun _ => rfl) ⟨by simp, rfl⟩
  · have h0 : xs = [] := by simpa using hnil rfl
    subst h0
    refine ofin_le (le_virt 2 5 1 8 3 rfl rfl) (ofin_sl rfl (by rfl) (by rfl) rfl ⟨rfl, rfl⟩)
theorem cloneI_oc (m : Nat) (xs : List Int) : OCall Try.prog 71 [ints xs] [5 + m] (fun x hp => x = .sl 1 8 (5 + m) 0 xs.length ∧ hp = [(5 + m, ⟨3, xs.map AV.int, false⟩)]) :=
  (cloneI_oc0 xs).ren m fun x hp ⟨h1, h2⟩ => by subst h1; subst h2; exact ⟨rfl, by simp only [renHp, renL_pur (purL_map AV.int xs fun _ => rfl)]⟩
theorem cloneI_pc (xs : List Int) : PCall Try.prog 71 [ints xs] (fun r => r = ints xs) := by
  (refine enterS Try.func71 Try.ntmps71 ?_)
  (refine aw_bound (i := 0) rfl (fun hb => ?_); (try simp only [List.length_map] at hb))
  (repeat' (first | (refine hK _ ?_; clear hK K) | (refine aw_seq (fun K hK => ?_)) | (refine gR ?_; refine regS ?_) | (refine stk_op (fun K hK => ?_); (first | (refine aop_eqNil (by rfl) (fun b hnil => ?_); cases b) | (refine appendS ?_))) | (refine gQ ?_; (first | (refine condT ?_) | (refine condF ?_))) | (refine gT ?_; refine retS ?_) | (refine gS ?_; refine skipS ?_)))
  · simp only [flat_one (f := AV.int) (fun _ => rfl)]
    refine fin_sl1 xs rfl (by rfl) (by rfl) (by simp) (fun _ => rfl) (fun _ => rfl) rfl
  · have h0 : xs = [] := by simpa using hnil rfl
    subst h0
    refine fin_le (le_nilI 2 1 8 rfl) (rv_one (rv1_tmp (by rfl))) (by rfl) rfl
theorem copyI_oc0 (xs : List Int) : OCall Try.prog 23 [ints xs] [6] (fun x hp => x = .sl 1 8 6 0 xs.length ∧ hp = [(6, ⟨3, xs.map AV.int, false⟩)]) := by
  (refine enterO Try.func23 Try.ntmps23 ?_)
  (refine aw_bound (i := 0) rfl (fun hb => ?_); (try simp only [List.length_map] at hb))
  (repeat' (first | (refine hK _ ?_; clear hK K) | (refine aw_seq (fun K hK => ?_)) | (refine gR ?_; refine regS ?_) | (refine stk_op (fun K hK => ?_); refine virtS 4 6 1 8 3 ?_; refine appendS ?_) | (refine gT ?_; refine retS ?_)))
  simp only [flat_one (f := AV.int) (fun _ => rfl)]
  refine ofin_sl rfl (by rfl) (by rfl) (purL_map AV.int xs fun _ => rfl) ⟨by simp, rfl⟩
theorem copyI_oc (m : Nat) (xs : List Int) : OCall Try.prog 23 [ints xs] [6 + m] (fun x hp => x = .sl 1 8 (6 + m) 0 xs.length ∧ hp = [(6 + m, ⟨3, xs.map AV.int, false⟩)]) :=
  (copyI_oc0 xs).ren m fun x hp ⟨h1, h2⟩ => by subst h1; subst h2; exact ⟨rfl, by simp only [renHp, renL_pur (purL_map AV.int xs fun _ => rfl)]⟩
theorem copyI_pc (xs : List Int) : PCall Try.prog 23 [ints xs] (fun r => r = ints xs) := by
  (refine enterS Try.func23 Try.ntmps23 ?_)
  (refine aw_bound (i := 0) rfl (fun hb => ?_); (try simp only [List.length_map] at hb))
  (repeat' (first | (refine hK _ ?_; clear hK K) | (refine aw_seq (fun K hK => ?_)) | (refine gR ?_; refine regS ?_) | (refine stk_op (fun K hK => ?_); refine virtS 4 6 1 8 3 ?_; refine appendS ?_) | (refine gT ?_; refine retS ?_)))
  simp only [flat_one (f := AV.int) (fun _ => rfl)]
  refine fin_sl1 xs rfl (by rfl) (by rfl) rfl (fun _ => rfl) (fun _ => rfl) rfl
end Go.Proofs.Ythdlckclpmfidaa
