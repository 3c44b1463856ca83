import Derived.Test.YthdlckclpmfidaaCmi


namespace Go.Proofs.Ythdlckclpmfidaa
open Go.Ab
open Go
set_option linter.unusedSimpArgs false
set_option linter.unusedVariables false
set_option maxRecDepth 10000
attribute [local irreducible] PV AOp AOps AW PCall OCall MCall WCall HCall Ab.Fin OFin OFin2 MFin HFin RV RV1 Le AStk AGrd ADr ADx ADo AOpX AAny AOpsI wops wdr wgd wdt
set_option maxHeartbeats 4000000
/-! sufficient operators: the sets -/
def dueB (t : Task) (s : List Int) (i k : Nat) : Bool := if 0 ≤ missF s (t.ops[i]!).pre then hasB (t.ops[k]!).add (missF s (t.ops[i]!).pre) else !indB t.ops[i]! t.ops[k]!
inductive InS (t : Task) (s : List Int) (p : Int) : Nat → Prop
  | seed {i : Nat} (hi : i < t.ops.length) (h : hasB (t.ops[i]!).add p = true) : InS t s p i
  | step {i k : Nat} (h : InS t s p i) (hk : k < t.ops.length) (hd : dueB t s i k = true) : InS t s p k
theorem InS.lt {t : Task} {s : List Int} {p : Int} {i : Nat} (h : InS t s p i) : i < t.ops.length := by
  cases h <;> assumption
/-- The bools that mark a set of numbers. -/
def bls (l : List Int) (n : Nat) : List Bool := (List.range n).map fun i : Nat => hasB l (i : Int)
theorem bls_len (l : List Int) (n : Nat) : (bls l n).length = n := by simp [bls]
theorem bls_get {l : List Int} {n k : Nat} (h : k < (bls l n).length) : (bls l n)[k] = hasB l (k : Int) := by simp [bls]
theorem bls_set {l : List Int} {n k : Nat} : (bls l n).set k true = bls (l ++ [(k : Int)]) n := by
  apply List.ext_getElem
  · simp [bls]
  · intro i h1 h2
    rw [List.getElem_set]
    simp only [bls, List.getElem_map, List.getElem_range]
    split
    · rename_i e
      subst e
      simp [hasB]
    · rename_i e
      have : ¬ (i : Int) = k := by omega
      simp [hasB, this]
theorem bls_nil (n : Nat) : (bls [] n).map AV.bool = List.replicate n (AV.bool false) := by
  apply List.ext_getElem
  · simp [bls]
  · intro i h1 h2
    simp [bls, hasB]
/-- One round of include: the numbers below k that are wanted are put at the end, each once. -/
def incF (W : Nat → Bool) (l : List Int) : Nat → List Int
  | 0 => l
  | k + 1 => if !hasB (incF W l k) (k : Int) && W k then incF W l k ++ [(k : Int)] else incF W l k
theorem incF_mem {W : Nat → Bool} {l : List Int} : ∀ {n : Nat} {x : Int}, x ∈ incF W l n ↔ x ∈ l ∨ ∃ k : Nat, k < n ∧ W k = true ∧ x = (k : Int)
  | 0, x => by simp [incF]
  | n + 1, x => by
    have ih := incF_mem (W := W) (l := l) (n := n) (x := x)
    have key : (∃ k : Nat, k < n + 1 ∧ W k = true ∧ x = (k : Int)) ↔ (∃ k : Nat, k < n ∧ W k = true ∧ x = (k : Int)) ∨ (W n = true ∧ x = (n : Int)) := by
      constructor
      · rintro ⟨k, h1, h2, h3⟩
        rcases Nat.lt_or_ge k n with h | h
        · exact .inl ⟨k, h, h2, h3⟩
        · obtain rfl : k = n := by omega
          exact .inr ⟨h2, h3⟩
      · rintro (⟨k, h1, h2, h3⟩ | ⟨h2, h3⟩)
        · exact ⟨k, by omega, h2, h3⟩
        · exact ⟨n, by omega, h2, h3⟩
    rw [key, ← or_assoc, ← ih, incF]
    split
    · rename_i h
      rw [Bool.and_eq_true] at h
      rw [List.mem_append, List.mem_singleton]
      exact ⟨fun h' => h'.elim .inl fun e => .inr ⟨h.2, e⟩, fun h' => h'.elim .inl fun e => .inr e.2⟩
    · rename_i h
      refine ⟨.inl, fun h' => h'.elim id fun e => ?_⟩
      rw [Bool.and_eq_true, Bool.not_eq_true', hasB_f] at h
      apply Classical.byContradiction
      intro hn
      exact h ⟨by rw [← e.2]; exact hn, e.1⟩
theorem incF_nodup {W : Nat → Bool} {l : List Int} (h : l.Nodup) : ∀ n, (incF W l n).Nodup
  | 0 => h
  | n + 1 => by
    rw [incF]
    split
    · rename_i h'
      rw [Bool.and_eq_true, Bool.not_eq_true', hasB_f] at h'
      rw [List.nodup_append]
      exact ⟨incF_nodup h n, by simp, fun a ha b hb => by simp at hb; subst hb; rintro rfl; exact h'.1 ha⟩
    · exact incF_nodup h n
theorem incF_pre {W : Nat → Bool} {l : List Int} : ∀ n, ∃ r, incF W l n = l ++ r
  | 0 => ⟨[], by simp [incF]⟩
  | n + 1 => by
    obtain ⟨r, hr⟩ := incF_pre (W := W) (l := l) n
    rw [incF]
    split
    · exact ⟨r ++ [(n : Int)], by rw [hr, List.append_assoc]⟩
    · exact ⟨r, hr⟩
theorem incF_len {W : Nat → Bool} {l : List Int} : ∀ n, (incF W l n).length ≤ l.length + n
  | 0 => by simp [incF]
  | n + 1 => by
    have := incF_len (W := W) (l := l) n
    rw [incF]
    split
    · simp; omega
    · omega
def InR (l : List Int) (n : Nat) : Prop := ∀ x ∈ l, 0 ≤ x ∧ x < n
theorem incF_in {W : Nat → Bool} {l : List Int} {n m : Nat} (h : InR l n) (hm : m ≤ n) : InR (incF W l m) n := by
  intro x hx
  rw [incF_mem] at hx
  rcases hx with hx | ⟨k, h1, _, rfl⟩
  · exact h x hx
  · omega
theorem nodup_len : ∀ {n : Nat} {l : List Int}, l.Nodup → InR l n → l.length ≤ n
  | 0, l, _, h => by
    cases l with
    | nil => simp
    | cons x r => have := h x (by simp); omega
  | n + 1, l, hd, h => by
    by_cases hm : (n : Int) ∈ l
    · have h1 := nodup_len (hd.erase (n : Int)) (n := n) (fun x hx => by
        rw [hd.mem_erase_iff] at hx
        have := h x hx.2
        have := hx.1
        omega)
      rw [List.length_erase_of_mem hm] at h1
      omega
    · have := nodup_len hd (n := n) (fun x hx => by
        have := h x hx
        have : x ≠ (n : Int) := fun e => hm (e ▸ hx)
        omega)
      omega
/-- The list under way. -/
structure LI (t : Task) (s : List Int) (p : Int) (k : Nat) (l : List Int) : Prop where
  nd : l.Nodup
  rg : InR l t.ops.length
  ins : ∀ x ∈ l, InS t s p x.toNat
  seed : ∀ i : Nat, i < t.ops.length → hasB (t.ops[i]!).add p = true → (i : Int) ∈ l
  kl : k ≤ l.length
  cl : ∀ j (hj : j < l.length), j < k → ∀ i : Nat, i < t.ops.length → dueB t s (l[j]).toNat i = true → (i : Int) ∈ l
theorem LI.start {t : Task} {s : List Int} {p : Int} : LI t s p 0 (incF (fun i => hasB (t.ops[i]!).add p) [] t.ops.length) := by
  refine ⟨incF_nodup (by simp) _, incF_in (fun x hx => by simp at hx) (Nat.le_refl _), fun x hx => ?_, fun i hi h => ?_, Nat.zero_le _, fun j _ h => by omega⟩
  · rw [incF_mem] at hx
    rcases hx with hx | ⟨k, h1, h2, rfl⟩
    · simp at hx
    · exact .seed (by simpa using h1) (by simpa using h2)
  · rw [incF_mem]
    exact .inr ⟨i, hi, h, rfl⟩
theorem LI.next {t : Task} {s : List Int} {p : Int} {k : Nat} {l : List Int} (h : LI t s p k l) (hk : k < l.length) : LI t s p (k + 1) (incF (dueB t s (l[k]).toNat) l t.ops.length) := by
  obtain ⟨r, hr⟩ := incF_pre (W := dueB t s (l[k]).toNat) (l := l) t.ops.length
  have hm : ∀ x, x ∈ l → x ∈ incF (dueB t s (l[k]).toNat) l t.ops.length := fun x hx => incF_mem.2 (.inl hx)
  refine ⟨incF_nodup h.nd _, incF_in h.rg (Nat.le_refl _), fun x hx => ?_, fun i hi hs => hm _ (h.seed i hi hs), by rw [hr, List.length_append]; omega, fun j hj hjk i hi hd => ?_⟩
  · rw [incF_mem] at hx
    rcases hx with hx | ⟨i, h1, h2, rfl⟩
    · exact h.ins x hx
    · exact .step (h.ins _ (List.getElem_mem hk)) (by simpa using h1) (by simpa using h2)
  · have e : (incF (dueB t s (l[k]).toNat) l t.ops.length)[j] = l[j]'(by omega) := by
      simp only [hr]
      rw [List.getElem_append_left (by omega)]
    rw [e] at hd
    by_cases hjk' : j < k
    · exact hm _ (h.cl j (by omega) hjk' i hi hd)
    · obtain rfl : j = k := by omega
      exact incF_mem.2 (.inr ⟨i, hi, hd, rfl⟩)
theorem LI.done {t : Task} {s : List Int} {p : Int} {l : List Int} (h : LI t s p l.length l) (i : Nat) (hi : i < t.ops.length) : hasB l (i : Int) = true ↔ InS t s p i := by
  rw [hasB_t]
  constructor
  · intro hx
    have := h.ins _ hx
    simpa using this
  · intro hx
    induction hx with
    | seed hi' hs => exact h.seed _ hi' hs
    | @step i k h1 hk hd ih =>
      obtain ⟨j, hj, e⟩ := List.getElem_of_mem (ih h1.lt)
      exact h.cl j hj hj k hk (by rw [e]; simpa using hd)
open Classical in
/-- The operators that suffice. -/
noncomputable def stubT (t : Task) (s : List Int) : List Int := if missF s t.goal < 0 then [] else (upTo t.ops.length).filter fun i => decide (InS t s (missF s t.goal) i.toNat) && subB (t.ops[i.toNat]!).pre s
/-! include, adds -/
theorem idxI_pc (xs : List Int) (n : Int) : PCall Try.prog 75 [ints xs, .int n] (fun r => r = .int (idxF (fun y => decide (y = n)) xs)) := by
  (refine enterS Try.func75 Try.ntmps75 ?_)
  (refine aw_bound (i := 0) rfl (fun hb => ?_); (try simp only [List.length_map] at hb))
  (repeat' (first | (refine hK _ ?_; clear hK K) | (refine aw_seq (fun K hK => ?_)) | (refine gR ?_; refine regS ?_) | (refine aw_block ?_)))
  refine aw_loop_at [4, 5, 8, 9, 10, 11, 12, 13, 14, 15, 16, 17, 18] (fun k : Nat => k ≤ xs.length ∧ ∀ i (hi : i < xs.length), i < k → decide (xs[i] = n) = false) (fun k => xs.length - k) (fun k => [(8, .int k)]) (fun _ => []) 0 ⟨by omega, by omega⟩ ?_ ?_
  · (refine atS ?_)
    (exact weakS)
  · rintro k ⟨hk, hn⟩ K hK
    (refine atS ?_)
    by_cases hlt : k < xs.length
    · (repeat' (first | (refine hK _ ?_; clear hK K) | (refine aw_seq (fun K hK => ?_)) | (refine gR ?_; refine regS ?_) | (refine gE ?_; (first | (refine exN ?_) | (refine exS (fun _ => ?_)))) | (refine gQ ?_; refine condS (fun hc => ?_) (fun hc => ?_) <;> (try (first | contradiction | (exfalso; omega)))) | (refine aw_block ?_) | (refine gT ?_; refine retS ?_) | (refine gS ?_; refine skipS ?_)))
      · (refine fin_le (Le.refl _) (rv_one (rv1_tmp (by rfl))) (by first | rfl | (simp only [go_sem, Nat.reduceAdd, Nat.reduceMul, reduceIte, Nat.reduceEqDiff, Nat.reduceLeDiff, Int.reduceToNat, Int.reducePow, Int.reduceBEq, Int.reduceBNe, Int.reduceLT, Int.reduceLE, decide_true, decide_false])) ?_)
        rw [idxF_hit hlt (by simp; omega) hn]
      · refine ⟨k + 1, ⟨by omega, upto_step hn fun _ => by simp; omega⟩, by omega, ?_⟩
        (refine atS ?_)
        (exact weakS)
    · (repeat' (first | (refine hK _ ?_; clear hK K) | (refine aw_seq (fun K hK => ?_)) | (refine gR ?_; refine regS ?_) | (refine gQ ?_; refine condS (fun hc => ?_) (fun hc => ?_) <;> (try (first | contradiction | (exfalso; omega)))) | (refine gX ?_; refine exitS ?_) | (refine gT ?_; refine retS ?_) | (apply_assumption (exfalso := false) (symm := false))))
      (refine fin_le (Le.refl _) (rv_one (rv1_tmp (by rfl))) (by first | rfl | (simp only [go_sem, Nat.reduceAdd, Nat.reduceMul, reduceIte, Nat.reduceEqDiff, Nat.reduceLeDiff, Int.reduceToNat, Int.reducePow, Int.reduceBEq, Int.reduceBNe, Int.reduceLT, Int.reduceLE, decide_true, decide_false])) ?_)
      rw [idxF_none fun i hi => hn i hi (by omega)]

theorem idxI_has (xs : List Int) (n : Int) : decide (0 ≤ idxF (fun y => decide (y = n)) xs) = hasB xs n := by
  rw [idxF_any, Bool.eq_iff_iff, List.any_eq_true, hasB_t]
  simp
theorem hasI_pc (xs : List Int) (n : Int) : PCall Try.prog 60 [ints xs, .int n] (fun r => r = .bool (hasB xs n)) := by
  rw [← idxI_has]
  (refine enterS Try.func60 Try.ntmps60 ?_)
  (repeat' (first | (refine hK _ ?_; clear hK K) | (refine aw_seq (fun K hK => ?_)) | (refine gR ?_; refine regS ?_) | (refine gC 75 ?_; refine callS (idxI_pc _ _) ?_) | (refine gT ?_; refine retS ?_)))
  (refine fin_le (Le.refl _) (rv_one (rv1_tmp (by rfl))) (by first | rfl | (simp only [go_sem, Nat.reduceAdd, Nat.reduceMul, reduceIte, Nat.reduceEqDiff, Nat.reduceLeDiff, Int.reduceToNat, Int.reducePow, Int.reduceBEq, Int.reduceBNe, Int.reduceLT, Int.reduceLE, decide_true, decide_false])) ?_)
  rfl

theorem adds1_pc (t : Task) (q : Int) (k : Nat) (hk : k < t.ops.length) : PCall Try.prog 59 ([.int k] ++ [.iptr t.cs, .iptr [.int q]]) (fun r => r = .bool (hasB (t.ops[k]!).add q)) := by
  rw [getBang hk]
  (refine enterS Try.func59 Try.ntmps59 ?_)
  (repeat' (first | (refine hK _ ?_; clear hK K) | (refine aw_seq (fun K hK => ?_)) | (refine gR ?_; refine regS ?_) | (refine gD 1 ?_; refine drS (.it 0 0 (.it 1 0 (.it 2 0 (.it 3 0 (.it 4 0 (.it 5 0 (.it 6 0 (.it 7 1 (.it 8 0 .nil))))))))) [0, 1, 2, 3, 4, 5, 6, 8] ?_) | (refine gCd 60 ?_; refine callD (hasI_pc _ _) ?_) | (refine gE ?_; refine exS (fun _ => ?_)) | (refine gT ?_; refine retS ?_)))
  all_goals (refine fin_le (Le.refl _) (rv_one (rv1_tmp (by rfl))) (by first | rfl | (simp only [go_sem, Nat.reduceAdd, Nat.reduceMul, reduceIte, Nat.reduceEqDiff, Nat.reduceLeDiff, Int.reduceToNat, Int.reducePow, Int.reduceBEq, Int.reduceBNe, Int.reduceLT, Int.reduceLE, decide_true, decide_false])) ?_)
  all_goals rfl
theorem adds_pc (t : Task) (q : Int) : PCall Try.prog 58 [.int q, .iptr t.cs] (fun r => r = .fn 59 [.iptr t.cs, .iptr [.int q]]) := by
  (refine enterS Try.func58 Try.ntmps58 ?_)
  (repeat' (first | (refine hK _ ?_; clear hK K) | (refine aw_seq (fun K hK => ?_)) | (refine gR ?_; refine regS ?_) | (refine stk_op (fun K hK => ?_); (refine aop_le (le_sealPtr 2 rfl rfl rfl) ?_; simp only [go_sem, Nat.reduceAdd, Nat.reduceMul, reduceIte, Nat.reduceEqDiff, Nat.reduceLeDiff, Int.reduceToNat, Int.reducePow, Int.reduceBEq, Int.reduceBNe, Int.reduceLT, Int.reduceLE, decide_true, decide_false, Nat.reduceBEq, Bool.or_self, Bool.or_true, Bool.true_or, Bool.or_false, Bool.false_or, Bool.and_true, Bool.true_and, Bool.and_false, Bool.false_and, Bool.and_self, Bool.not_true, Bool.not_false, List.cons_append, List.nil_append, List.append_nil, if_true, if_false, Bool.false_eq_true, keysH]; refine aop_pv pv_makeFunc ?_)) | (refine gW ?_; refine wopsS ?_) | (refine gT ?_; refine retS ?_)))
  all_goals (refine fin_le (Le.refl _) (rv_one (rv1_tmp (by rfl))) (by first | rfl | (simp only [go_sem, Nat.reduceAdd, Nat.reduceMul, reduceIte, Nat.reduceEqDiff, Nat.reduceLeDiff, Int.reduceToNat, Int.reducePow, Int.reduceBEq, Int.reduceBNe, Int.reduceLT, Int.reduceLE, decide_true, decide_false])) ?_)
  all_goals rfl
theorem due1_pc (t : Task) (o : Op) (k : Nat) (hk : k < t.ops.length) (h1 : SetOp o) (h2 : SetOp t.ops[k]) : PCall Try.prog 61 ([.int k] ++ [.iptr (opc o), .iptr t.cs]) (fun r => r = .bool (!indB o t.ops[k]!)) := by
  have hi := independent_pc o t.ops[k] h1 h2
  rw [getBang hk]
  
  (refine enterS Try.func61 Try.ntmps61 ?_)
  (repeat' (first | (refine hK _ ?_; clear hK K) | (refine aw_seq (fun K hK => ?_)) | (refine gR ?_; refine regS ?_) | (refine gD 1 ?_; refine drS (.it 0 0 (.it 1 0 (.it 2 0 (.it 3 0 (.it 4 0 (.it 5 0 (.it 6 1 (.it 7 0 (.it 8 0 .nil))))))))) [0, 1, 2, 3, 4, 5, 7, 8] ?_) | (refine gCd 33 ?_; refine callD (hi) ?_) | (refine gE ?_; refine exS (fun _ => ?_)) | (refine gT ?_; refine retS ?_)))
  all_goals (refine fin_le (Le.refl _) (rv_one (rv1_tmp (by rfl))) (by first | rfl | (simp only [go_sem, Nat.reduceAdd, Nat.reduceMul, reduceIte, Nat.reduceEqDiff, Nat.reduceLeDiff, Int.reduceToNat, Int.reducePow, Int.reduceBEq, Int.reduceBNe, Int.reduceLT, Int.reduceLE, decide_true, decide_false])) ?_)
  all_goals rfl
theorem include_hc (t : Task) (wf : FuncId) [TyC Try.prog wf] (c1 c2 : List AV) (W : Nat → Bool) (n : Nat) (hn : t.ops.length = n) (h40 : n ≤ 40) (hW : ∀ k : Nat, k < n → PCall Try.prog wf ([.int k] ++ [.iptr c1, .iptr c2]) (fun r => r = .bool (W k))) (l : List Int) (hr : InR l n) (hd : l.Nodup) (f1 : Bool) :
    HCall Try.prog 57 ([.fn wf [.iptr c1, .iptr c2]] ++ [.iptr t.cs, .ptr 6 0, .ptr 7 0])
      [(6, ⟨64, [.sl 1 1 25 0 n], true⟩), (25, ⟨4, (bls l n).map AV.bool, f1⟩), (7, ⟨22, [.sl 1 8 200 0 l.length], true⟩), (200, ⟨3, l.map AV.int, false⟩)] [] [6, 7]
      (fun x hp => x = .tup [] ∧ hp = [(6, ⟨64, [.sl 1 1 25 0 n], true⟩), (25, ⟨4, (bls (incF W l n) n).map AV.bool, f1⟩), (7, ⟨22, [.sl 1 8 200 0 (incF W l n).length], true⟩), (200, ⟨3, (incF W l n).map AV.int, false⟩)]) := by
  (refine enterH Try.func57 Try.ntmps57 ?_)
  (repeat' (first | (refine hK _ ?_; clear hK K) | (refine aw_seq (fun K hK => ?_)) | (refine gR ?_; refine regS ?_) | (refine aw_block ?_)))
  rw [hn]
  refine aw_loop_at [5, 9, 10, 11, 12, 13, 14, 15, 16, 17, 18, 19, 20, 21, 22, 23, 24, 25, 26, 27, 28, 29] (fun k : Nat => k ≤ n) (fun k => n - k) (fun k => [(9, .int k)])
    (fun k => [(6, ⟨64, [.sl 1 1 25 0 n], true⟩), (25, ⟨4, (bls (incF W l k) n).map AV.bool, f1⟩), (7, ⟨22, [.sl 1 8 200 0 (incF W l k).length], true⟩), (1000000000, ⟨1000000000, [.ptr 6 0, .ptr 7 0], false⟩), (200, ⟨3, (incF W l k).map AV.int, false⟩)]) 0 (by omega) ?_ ?_
  · rw [show incF W l 0 = l from rfl]
    (refine atS ?_)
    (exact weakS)
  · rintro k hk K hK
    (refine atS ?_)
    have hlen := nodup_len (incF_nodup hd (W := W) k) (incF_in hr (W := W) hk)
    have hbl := bls_len (incF W l k) n
    by_cases hlt : k < n
    · have hw := hW k hlt
      have hg := bls_get (l := incF W l k) (n := n) (k := k) (by omega)
      have e : incF W l (k + 1) = if !hasB (incF W l k) (k : Int) && W k then incF W l k ++ [(k : Int)] else incF W l k := rfl
      (repeat' (first | (refine hK _ ?_; clear hK K) | (refine aw_seq (fun K hK => ?_)) | (refine gR ?_; refine regS ?_) | (refine stk_op (fun K hK => ?_); (first | ((refine aop_callV (by rfl) hw (by rfl) (fun x hx => ?_); obtain rfl := hx)) | (refine appendS ?_))) | (refine gE ?_; (first | (refine exN ?_) | (refine exS (fun _ => ?_)))) | (refine gG ?_; refine guardS (fun hc => ?_) (fun hc => ?_) <;> (try (first | contradiction | (exfalso; omega)))) | (refine gQ ?_; (first | (refine condF ?_) | (refine condS (fun hc => ?_) (fun hc => ?_) <;> (try (first | contradiction | (exfalso; omega)))))) | (refine gW ?_; refine wopsS ?_) | (refine aw_block ?_) | (refine gS ?_; refine skipS ?_)))
      · have h1 : hasB (incF W l k) (k : Int) = false := by rw [← hg]; assumption
        refine ⟨k + 1, by omega, by omega, ?_⟩
        rw [e, if_pos (by simp [h1, hc])]
        (refine atS ?_)
        (refine le_weak (by (repeat (first | exact .nil | refine .drop ?_ | refine weak_keep ?_ (by first | rfl | (rw [← List.map_set, purgeL_bools, bls_set]))))) (by (repeat refine hsub_hasE (by rfl) (by first | rfl | (rw [← List.map_set, purgeL_bools, bls_set])) ?_); exact hsub_nil _))
      · have h1 : hasB (incF W l k) (k : Int) = false := by rw [← hg]; assumption
        refine ⟨k + 1, by omega, by omega, ?_⟩
        rw [e, if_neg (by simp [h1, hc])]
        (refine atS ?_)
        (exact weakS)
      · have h1 : hasB (incF W l k) (k : Int) = true := by rw [← hg]; assumption
        refine ⟨k + 1, by omega, by omega, ?_⟩
        rw [e, if_neg (by simp [h1])]
        (refine atS ?_)
        (exact weakS)
    · obtain rfl : k = n := by omega
      (repeat' (first | (refine hK _ ?_; clear hK K) | (refine aw_seq (fun K hK => ?_)) | (refine gR ?_; refine regS ?_) | (refine gQ ?_; refine condS (fun hc => ?_) (fun hc => ?_) <;> (try (first | contradiction | (exfalso; omega)))) | (refine gX ?_; refine exitS ?_)))
      (refine hfin_eq (Le.refl _) rv_zero (by (repeat refine hsub_has (by rfl) ?_); exact hsub_nil _) (by rfl) (by first | rfl | (simp only [go_sem, Nat.reduceAdd, Nat.reduceMul, reduceIte, Nat.reduceEqDiff, Nat.reduceLeDiff, Int.reduceToNat, Int.reducePow, Int.reduceBEq, Int.reduceBNe, Int.reduceLT, Int.reduceLE, decide_true, decide_false, Nat.reduceBEq, Bool.or_self, Bool.or_true, Bool.true_or, Bool.or_false, Bool.false_or, Bool.and_true, Bool.true_and, Bool.and_false, Bool.false_and, Bool.and_self, Bool.not_true, Bool.not_false, List.cons_append, List.nil_append, List.append_nil, if_true, if_false, Bool.false_eq_true, keysH]; done)) ⟨rfl, rfl⟩)
theorem le_aleF {f : List AV} {hp : Hp} (i : Nat) {x y : AV} (hx : f[i]? = some x) (h : ALe x y) : Le ⟨f, hp⟩ ⟨f.set i y, hp⟩ := by
  unfold Le
  intro R β G a w hr
  refine ⟨β, G, hr.defers, by simpa using hr.size, fun j x' y' hj hy => ?_, hr.hp⟩
  rw [List.getElem?_set] at hj
  by_cases hij : i = j
  · subst hij
    simp only [if_true] at hj
    split at hj <;> simp at hj
    subst hj
    exact h _ _ _ (hr.fr i _ y' hx hy)
  · simp only [hij, if_false] at hj
    exact hr.fr j x' y' hj hy
/-- What the last loop puts out. -/
def outK (f : Nat → Bool) (k : Nat) : List Int := (upTo k).filter fun i => f i.toNat
theorem outK_zero (f : Nat → Bool) : outK f 0 = [] := by simp [outK, upTo]
theorem outK_yes {f : Nat → Bool} {k : Nat} (h : f k = true) : outK f (k + 1) = outK f k ++ [(k : Int)] := by
  simp [outK, upTo_succ, List.filter_append, h]
theorem outK_no {f : Nat → Bool} {k : Nat} (h : f k = false) : outK f (k + 1) = outK f k := by
  simp [outK, upTo_succ, List.filter_append, h]
theorem outK_len {f : Nat → Bool} {k : Nat} : (outK f k).length ≤ k := by
  have := List.length_filter_le (fun i : Int => f i.toNat) (upTo k)
  simpa [outK, upTo] using this
theorem outK_congr {f g : Nat → Bool} {n : Nat} (h : ∀ i, i < n → f i = g i) : outK f n = outK g n := by
  unfold outK
  apply List.filter_congr
  intro x hx
  have := upTo_mem.1 hx
  exact h _ (by omega)
open Classical in
theorem stubT_eq {t : Task} {s l : List Int} (hn : ¬ missF s t.goal < 0) (h : LI t s (missF s t.goal) l.length l) : stubT t s = outK (fun i => hasB l (i : Int) && subB (t.ops[i]!).pre s) t.ops.length := by
  unfold stubT
  rw [if_neg hn]
  refine outK_congr (f := fun i => decide (InS t s (missF s t.goal) i) && subB (t.ops[i]!).pre s) (fun i hi => ?_)
  have := h.done i hi
  congr 1
  rw [Bool.eq_iff_iff, decide_eq_true_eq]
  exact this.symm
@[local go_sem] theorem sealPL_intsS (id : Nat) (c : List AV) (xs : List Int) : AV.sealPL id c (xs.map AV.int) = xs.map AV.int := by
  rw [sealPL_eq, List.map_map]
  rfl
@[local go_sem] theorem sealPL_boolsS (id : Nat) (c : List AV) (xs : List Bool) : AV.sealPL id c (xs.map AV.bool) = xs.map AV.bool := by
  rw [sealPL_eq, List.map_map]
  rfl
theorem sealPL_repl (id : Nat) (cs : List AV) (n : Nat) (x : Value) : AV.sealPL id cs (List.replicate n (AV.v x)) = List.replicate n (AV.v x) := by
  induction n with
  | zero => rfl
  | succ n ih => rw [List.replicate_succ, AV.sealPL, ih]; rfl
theorem stubborn_pc (t : Task) (s : List Int) (hw : WfT t) (hs : isSet s t.facts = true) : PCall Try.prog 41 [t.av, ints s] (fun r => r = ints (stubT t s)) := by
  have hs2 := (isSet_iff.1 hs).2
  have hmg := missing_pc s t.goal hs2
  have h40 := hw.n40
  by_cases hneg : missF s t.goal < 0
  · 
    have e : stubT t s = [] := by unfold stubT; rw [if_pos hneg]
    rw [e]
    (refine enterS Try.func41 Try.ntmps41 ?_)
    (repeat' (first | (refine hK _ ?_; clear hK K) | (refine aw_seq (fun K hK => ?_)) | (refine gR ?_; refine regS ?_) | (refine gC 56 ?_; refine callS (hmg) ?_) | (refine gE ?_; refine exN ?_) | (refine gQ ?_; refine condS (fun hc => ?_) (fun hc => ?_) <;> (try (first | contradiction | (exfalso; omega)))) | (refine gT ?_; refine retS ?_)))
    refine fin_weak (le_aleF 4 rfl (ALe.nil 1 8)) ?_
    (refine fin_le (Le.refl _) (rv_one (rv1_tmp (by rfl))) (by first | rfl | (simp only [go_sem, Nat.reduceAdd, Nat.reduceMul, reduceIte, Nat.reduceEqDiff, Nat.reduceLeDiff, Int.reduceToNat, Int.reducePow, Int.reduceBEq, Int.reduceBNe, Int.reduceLT, Int.reduceLE, decide_true, decide_false])) ?_)
    rfl
  · have had := adds_pc t (missF s t.goal)
    obtain ⟨p, hp⟩ : ∃ p, missF s t.goal = p := ⟨_, rfl⟩
    rw [hp] at hmg had hneg
    
    
    (refine enterS Try.func41 Try.ntmps41 ?_)
    obtain ⟨n, hn⟩ : ∃ n, t.ops.length = n := ⟨_, rfl⟩
    have hst := fun l (h : LI t s p l.length l) => stubT_eq (t := t) (s := s) (l := l) (by rw [hp]; exact hneg) (by rw [hp]; exact h)
    have hi0 := include_hc t 59 t.cs [.int p] (fun i => hasB (t.ops[i]!).add p) n hn (by omega) (fun k hk => adds1_pc t p k (by omega)) [] (fun x hx => by simp at hx) (by simp) true
    have hl0 := LI.start (t := t) (s := s) (p := p)
    rw [hn] at hl0
    (repeat' (first | (refine hK _ ?_; clear hK K) | (refine aw_seq (fun K hK => ?_)) | (refine gRx 8 (by rfl) ?_; refine regS ?_) | (refine gC 56 ?_; refine callS (hmg) ?_) | (refine stk_op (fun K hK => ?_); (first | ((refine aop_le (le_sealPtr 2 rfl rfl rfl) ?_; simp only [go_sem, Nat.reduceAdd, Nat.reduceMul, reduceIte, Nat.reduceEqDiff, Nat.reduceLeDiff, Int.reduceToNat, Int.reducePow, Int.reduceBEq, Int.reduceBNe, Int.reduceLT, Int.reduceLE, decide_true, decide_false, Nat.reduceBEq, Bool.or_self, Bool.or_true, Bool.true_or, Bool.or_false, Bool.false_or, Bool.and_true, Bool.true_and, Bool.and_false, Bool.false_and, Bool.and_self, Bool.not_true, Bool.not_false, List.cons_append, List.nil_append, List.append_nil, if_true, if_false, Bool.false_eq_true, keysH]; refine aop_pv pv_makeFunc ?_)) | (refine aop_makeSlice (d := 25) (by rfl) (by rfl) (by omega) (by first | omega | (simp only [Int.toNat_natCast, List.length_map]; omega)) (by decide) (by rfl) 25 (by first | rfl | (simp only [go_sem, Nat.reduceAdd, Nat.reduceMul, reduceIte, Nat.reduceEqDiff, Nat.reduceLeDiff, Int.reduceToNat, Int.reducePow, Int.reduceBEq, Int.reduceBNe, Int.reduceLT, Int.reduceLE, decide_true, decide_false]; done) | (simp only [go_sem, Nat.reduceAdd, Nat.reduceMul, reduceIte, Nat.reduceEqDiff, Nat.reduceLeDiff, Int.reduceToNat, Int.reducePow, Int.reduceBEq, Int.reduceBNe, Int.reduceLT, Int.reduceLE, decide_true, decide_false]; rfl) | (simp [St.free, mentHp, AV.mentL, AV.ment])) ?_))) | (refine gE ?_; refine exN ?_) | (refine gQ ?_; refine condS (fun hc => ?_) (fun hc => ?_) <;> (try (first | contradiction | (exfalso; omega)))) | (refine gW ?_; refine wopsS ?_) | (refine gS ?_; refine skipS ?_)))
    rw [hn, sealPL_repl, ← bls_nil]
    (refine aw_le (le_virtH 7 0 200 1 8 3 (by rfl) (by rfl) (by first | rfl | (simp only [go_sem, Nat.reduceAdd, Nat.reduceMul, reduceIte, Nat.reduceEqDiff, Nat.reduceLeDiff, Int.reduceToNat, Int.reducePow, Int.reduceBEq, Int.reduceBNe, Int.reduceLT, Int.reduceLE, decide_true, decide_false]; done) | (simp only [go_sem, Nat.reduceAdd, Nat.reduceMul, reduceIte, Nat.reduceEqDiff, Nat.reduceLeDiff, Int.reduceToNat, Int.reducePow, Int.reduceBEq, Int.reduceBNe, Int.reduceLT, Int.reduceLE, decide_true, decide_false]; rfl) | (simp [St.free, mentHp, AV.mentL, AV.ment]))) ?_; simp only [go_sem, Nat.reduceAdd, Nat.reduceMul, reduceIte, Nat.reduceEqDiff, Nat.reduceLeDiff, Int.reduceToNat, Int.reducePow, Int.reduceBEq, Int.reduceBNe, Int.reduceLT, Int.reduceLE, decide_true, decide_false])
    (repeat' (first | (refine hK _ ?_; clear hK K) | (refine aw_seq (fun K hK => ?_)) | (refine gR ?_; refine regS ?_) | (refine stk_op (fun K hK => ?_); (first | ((refine aop_callV (by rfl) had (by rfl) (fun x hx => ?_); obtain rfl := hx)) | ((refine aop_callHv (by rfl) (hi0) (by (repeat (first | exact hin_nil | refine hin_cons (by rfl) ?_))) (fun _ h => by cases h) (by rfl) (fun x hp' hx => ?_); obtain ⟨rfl, rfl⟩ := hx <;> simp only [go_sem, Nat.reduceAdd, Nat.reduceMul, reduceIte, Nat.reduceEqDiff, Nat.reduceLeDiff, Int.reduceToNat, Int.reducePow, Int.reduceBEq, Int.reduceBNe, Int.reduceLT, Int.reduceLE, decide_true, decide_false, Nat.reduceBEq, Bool.or_self, Bool.or_true, Bool.true_or, Bool.or_false, Bool.false_or, Bool.and_true, Bool.true_and, Bool.and_false, Bool.false_and, Bool.and_self, Bool.not_true, Bool.not_false, List.cons_append, List.nil_append, List.append_nil, if_true, if_false, Bool.false_eq_true, keysH])))) | (refine gW ?_; refine wopsS ?_) | (refine aw_block ?_)))
    generalize incF (fun i => hasB (t.ops[i]!).add p) [] n = l0 at *
    refine aw_loop_at [10, 11, 12, 33, 34, 35, 36, 37, 38, 39, 40, 41, 42, 43, 44, 45, 46, 47, 48, 49, 50, 51, 52, 53, 54, 55, 56, 57, 58, 59, 60] (fun q : Nat × List Int => LI t s p q.1 q.2) (fun q => n - q.1) (fun q => [(10, .int q.1)])
      (fun q => [(6, ⟨64, [.sl 1 1 25 0 n], true⟩), (25, ⟨4, (bls q.2 n).map AV.bool, true⟩), (7, ⟨22, [.sl 1 8 200 0 q.2.length], true⟩), (200, ⟨3, q.2.map AV.int, false⟩)]) (0, l0) hl0 ?_ ?_
    · (refine atS ?_)
      (exact weakS)
    · rintro ⟨k, l⟩ hq K hK
      (refine atS ?_)
      simp only at hq
      have hnl := nodup_len hq.nd hq.rg
      by_cases hlt : k < l.length
      · obtain ⟨x0, x1⟩ := hq.rg _ (List.getElem_mem hlt)
        have hi : l[k].toNat < t.ops.length := by omega
        have hso := setOp_of hw hi
        have hmo := missing_pc s t.ops[l[k].toNat].pre hs2
        have hnx := hq.next hlt
        rw [hn] at hnx
        have hrg := hq.rg
        rw [hn] at hrg
        by_cases hq0 : 0 ≤ missF s t.ops[l[k].toNat].pre
        · have had2 := adds_pc t (missF s t.ops[l[k].toNat].pre)
          have hi1 := include_hc t 59 t.cs [.int (missF s t.ops[l[k].toNat].pre)] (dueB t s l[k].toNat) n hn (by omega) (fun j hj => by
            have := adds1_pc t (missF s t.ops[l[k].toNat].pre) j (by omega)
            rw [dueB, getBang hi, if_pos hq0]
            exact this) l hrg hq.nd true
          generalize missF s t.ops[l[k].toNat].pre = q at *
          
          
          (repeat' (first | (refine hK _ ?_; clear hK K) | (refine aw_seq (fun K hK => ?_)) | (refine gR ?_; refine regS ?_) | (refine gD 12 ?_; refine drS (.it 0 0 (.it 1 0 (.it 2 0 (.it 3 0 (.it 4 0 (.it 5 0 (.it 6 0 (.it 7 0 (.it 8 1 (.it 9 3 .nil)))))))))) [0, 1, 2, 3, 4, 5, 6, 7] ?_) | (refine gC 56 ?_; refine callS (hmo) ?_) | (refine stk_op (fun K hK => ?_); (first | ((refine aop_callV (by rfl) had2 (by rfl) (fun x hx => ?_); obtain rfl := hx)) | ((refine aop_callHv (by rfl) (hi1) (by (repeat (first | exact hin_nil | refine hin_cons (by rfl) ?_))) (fun _ h => by cases h) (by rfl) (fun x hp' hx => ?_); obtain ⟨rfl, rfl⟩ := hx <;> simp only [go_sem, Nat.reduceAdd, Nat.reduceMul, reduceIte, Nat.reduceEqDiff, Nat.reduceLeDiff, Int.reduceToNat, Int.reducePow, Int.reduceBEq, Int.reduceBNe, Int.reduceLT, Int.reduceLE, decide_true, decide_false, Nat.reduceBEq, Bool.or_self, Bool.or_true, Bool.true_or, Bool.or_false, Bool.false_or, Bool.and_true, Bool.true_and, Bool.and_false, Bool.false_and, Bool.and_self, Bool.not_true, Bool.not_false, List.cons_append, List.nil_append, List.append_nil, if_true, if_false, Bool.false_eq_true, keysH])))) | (refine adx_op (fun K hK => ?_); refine aopx_alloc (d := 11) 11 (by first | rfl | (simp only [go_sem, Nat.reduceAdd, Nat.reduceMul, reduceIte, Nat.reduceEqDiff, Nat.reduceLeDiff, Int.reduceToNat, Int.reducePow, Int.reduceBEq, Int.reduceBNe, Int.reduceLT, Int.reduceLE, decide_true, decide_false]; done) | (simp only [go_sem, Nat.reduceAdd, Nat.reduceMul, reduceIte, Nat.reduceEqDiff, Nat.reduceLeDiff, Int.reduceToNat, Int.reducePow, Int.reduceBEq, Int.reduceBNe, Int.reduceLT, Int.reduceLE, decide_true, decide_false]; rfl) | (simp [St.free, mentHp, AV.mentL, AV.ment])) ?_) | (refine gO ?_; refine adoS ?_) | (refine gE ?_; (first | (refine exN ?_) | (refine exS (fun _ => ?_)))) | (refine gQ ?_; refine condS (fun hc => ?_) (fun hc => ?_) <;> (try (first | contradiction | (exfalso; omega)))) | (refine gWd ?_; refine wdrS ?_) | (refine gW ?_; refine wopsS ?_) | (refine aw_block ?_) | (refine gS ?_; refine skipS ?_)))
          refine ⟨(k + 1, _), hnx, by simp only; omega, ?_⟩
          (refine atS ?_)
          (exact weakS)
        · have hi1 := include_hc t 61 (opc t.ops[l[k].toNat]) t.cs (dueB t s l[k].toNat) n hn (by omega) (fun j hj => by
            have := due1_pc t t.ops[l[k].toNat] j (by omega) hso (setOp_of hw (by omega))
            rw [dueB, getBang hi, if_neg hq0]
            exact this) l hrg hq.nd true
          generalize missF s t.ops[l[k].toNat].pre = q at *
          
          
          (repeat' (first | (refine hK _ ?_; clear hK K) | (refine aw_seq (fun K hK => ?_)) | (refine gR ?_; refine regS ?_) | (refine gD 12 ?_; refine drS (.it 0 0 (.it 1 0 (.it 2 0 (.it 3 0 (.it 4 0 (.it 5 0 (.it 6 0 (.it 7 0 (.it 8 1 (.it 9 3 .nil)))))))))) [0, 1, 2, 3, 4, 5, 6, 7] ?_) | (refine gC 56 ?_; refine callS (hmo) ?_) | (refine stk_op (fun K hK => ?_); (first | ((refine aop_le (le_sealPtr 11 rfl rfl rfl) ?_; simp only [go_sem, Nat.reduceAdd, Nat.reduceMul, reduceIte, Nat.reduceEqDiff, Nat.reduceLeDiff, Int.reduceToNat, Int.reducePow, Int.reduceBEq, Int.reduceBNe, Int.reduceLT, Int.reduceLE, decide_true, decide_false, Nat.reduceBEq, Bool.or_self, Bool.or_true, Bool.true_or, Bool.or_false, Bool.false_or, Bool.and_true, Bool.true_and, Bool.and_false, Bool.false_and, Bool.and_self, Bool.not_true, Bool.not_false, List.cons_append, List.nil_append, List.append_nil, if_true, if_false, Bool.false_eq_true, keysH]; refine aop_pv pv_makeFunc ?_)) | ((refine aop_callHv (by rfl) (hi1) (by (repeat (first | exact hin_nil | refine hin_cons (by rfl) ?_))) (fun _ h => by cases h) (by rfl) (fun x hp' hx => ?_); obtain ⟨rfl, rfl⟩ := hx <;> simp only [go_sem, Nat.reduceAdd, Nat.reduceMul, reduceIte, Nat.reduceEqDiff, Nat.reduceLeDiff, Int.reduceToNat, Int.reducePow, Int.reduceBEq, Int.reduceBNe, Int.reduceLT, Int.reduceLE, decide_true, decide_false, Nat.reduceBEq, Bool.or_self, Bool.or_true, Bool.true_or, Bool.or_false, Bool.false_or, Bool.and_true, Bool.true_and, Bool.and_false, Bool.false_and, Bool.and_self, Bool.not_true, Bool.not_false, List.cons_append, List.nil_append, List.append_nil, if_true, if_false, Bool.false_eq_true, keysH])))) | (refine adx_op (fun K hK => ?_); refine aopx_alloc (d := 11) 11 (by first | rfl | (simp only [go_sem, Nat.reduceAdd, Nat.reduceMul, reduceIte, Nat.reduceEqDiff, Nat.reduceLeDiff, Int.reduceToNat, Int.reducePow, Int.reduceBEq, Int.reduceBNe, Int.reduceLT, Int.reduceLE, decide_true, decide_false]; done) | (simp only [go_sem, Nat.reduceAdd, Nat.reduceMul, reduceIte, Nat.reduceEqDiff, Nat.reduceLeDiff, Int.reduceToNat, Int.reducePow, Int.reduceBEq, Int.reduceBNe, Int.reduceLT, Int.reduceLE, decide_true, decide_false]; rfl) | (simp [St.free, mentHp, AV.mentL, AV.ment])) ?_) | (refine gO ?_; refine adoS ?_) | (refine gE ?_; (first | (refine exN ?_) | (refine exS (fun _ => ?_)))) | (refine gQ ?_; refine condS (fun hc => ?_) (fun hc => ?_) <;> (try (first | contradiction | (exfalso; omega)))) | (refine gWd ?_; refine wdrS ?_) | (refine gW ?_; refine wopsS ?_) | (refine aw_block ?_) | (refine gS ?_; refine skipS ?_)))
          refine ⟨(k + 1, _), hnx, by simp only; omega, ?_⟩
          (refine atS ?_)
          (exact weakS)
      · obtain rfl : k = l.length := by have := hq.kl; omega
        have hres := hst l hq
        rw [hn] at hres
        rw [hres]
        (repeat' (first | (refine hK _ ?_; clear hK K) | (refine aw_seq (fun K hK => ?_)) | (refine gRx 12 (by rfl) ?_; refine regS ?_) | (refine gQ ?_; refine condS (fun hc => ?_) (fun hc => ?_) <;> (try (first | contradiction | (exfalso; omega)))) | (refine aw_block ?_) | (refine gX ?_; refine exitS ?_) | (apply_assumption (exfalso := false) (symm := false))))
        (refine awVirt 13 300 1 8 3 ?_)
        have hbl := bls_len l n
        refine aw_loop_at [13, 14, 15, 63, 64, 65, 66, 67, 68, 69, 70, 71, 72, 73, 74, 75, 76, 77, 78, 79] (fun k : Nat => k ≤ n) (fun k => n - k) (fun k => [(63, .int k), (13, .sl 1 8 300 0 (outK (fun i => hasB l (i : Int) && subB (t.ops[i]!).pre s) k).length)])
          (fun k => [(25, ⟨4, (bls l n).map AV.bool, true⟩), (300, ⟨3, (outK (fun i => hasB l (i : Int) && subB (t.ops[i]!).pre s) k).map AV.int, false⟩)]) 0 (by omega) ?_ ?_
        · rw [outK_zero]
          (refine atS ?_)
          (exact weakS)
        · rintro k hk K hK
          (refine atS ?_)
          have hol := outK_len (f := fun i => hasB l (i : Int) && subB (t.ops[i]!).pre s) (k := k)
          by_cases hlt : k < n
          · have hcan := can_pc t s k hw hs (by omega)
            have hg := bls_get (l := l) (n := n) (k := k) (by omega)
            rw [show ((k : Int)).toNat = k from rfl] at hcan
            
            
            (repeat' (first | (refine hK _ ?_; clear hK K) | (refine aw_seq (fun K hK => ?_)) | (refine gR ?_; refine regS ?_) | (refine gC 48 ?_; refine callS (hcan) ?_) | (refine stk_op (fun K hK => ?_); refine appendS ?_) | (refine gE ?_; (first | (refine exN ?_) | (refine exS (fun _ => ?_)))) | (refine gG ?_; refine guardS (fun hc => ?_) (fun hc => ?_) <;> (try (first | contradiction | (exfalso; omega)))) | (refine gQ ?_; (first | (refine condF ?_) | (refine condS (fun hc => ?_) (fun hc => ?_) <;> (try (first | contradiction | (exfalso; omega)))))) | (refine gW ?_; refine wopsS ?_) | (refine aw_block ?_) | (refine gS ?_; refine skipS ?_)))
            all_goals refine ⟨k + 1, by omega, by omega, ?_⟩
            · rw [outK_yes (by rw [Bool.and_eq_true]; exact ⟨by rw [← hg]; assumption, by assumption⟩)]
              (refine atS ?_)
              (exact weakS)
            · rw [outK_no (by rw [show subB (t.ops[k]!).pre s = false by assumption, Bool.and_false])]
              (refine atS ?_)
              (exact weakS)
            · rw [outK_no (by rw [show hasB l (k : Int) = false by rw [← hg]; assumption, Bool.false_and])]
              (refine atS ?_)
              (exact weakS)
          · obtain rfl : k = n := by omega
            (repeat' (first | (refine hK _ ?_; clear hK K) | (refine aw_seq (fun K hK => ?_)) | (refine gR ?_; refine regS ?_) | (refine gQ ?_; refine condS (fun hc => ?_) (fun hc => ?_) <;> (try (first | contradiction | (exfalso; omega)))) | (refine gX ?_; refine exitS ?_) | (refine gT ?_; refine retS ?_) | (apply_assumption (exfalso := false) (symm := false))))
            refine fin_sl1 (f := AV.int) (outK (fun i => hasB l (i : Int) && subB (t.ops[i]!).pre s) k) rfl (by rfl) (by rfl) rfl (fun _ => rfl) (fun _ => rfl) (by rw [hres])

end Go.Proofs.Ythdlckclpmfidaa
