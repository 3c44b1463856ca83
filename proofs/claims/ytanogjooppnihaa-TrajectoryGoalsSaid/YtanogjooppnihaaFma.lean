import Derived.Test.YtanogjooppnihaaTask
import Derived.Test.YtanogjooppnihaaAbj


namespace Go.Proofs.Ytanogjooppnihaa
open Go.Ab
open Go
set_option linter.unusedSimpArgs false
set_option linter.unusedVariables false
set_option maxRecDepth 10000
attribute [local irreducible] PV AOp AOps AW PCall OCall MCall WCall HCall Ab.Fin OFin OFin2 MFin HFin RV RV1 Le AStk AGrd ADr ADx ADo AOpX AAny
set_option maxHeartbeats 2000000
/-! formulas about lists of states -/
structure FNode where
  kind : Int
  kids : List Int
  fact : Int
  deriving Inhabited, DecidableEq
abbrev FNode.av (n : FNode) : AV := .agg [.int n.kind, ints n.kids, .int n.fact]
abbrev FNode.cs (n : FNode) : List AV := [.int n.kind, ints n.kids, .int n.fact]
abbrev nodesA (l : List FNode) : AV := .isl 3 40 (l.map FNode.av)
abbrev formA (l : List FNode) : AV := .agg [nodesA l]
@[go_sem] theorem fnc_flat (l : List FNode) : (l.map FNode.av).flatMap AV.cells = l.flatMap FNode.cs := by rw [List.flatMap_map]; rfl
@[go_sem] theorem fnc_app (a b : List FNode) : (a ++ b).flatMap FNode.cs = a.flatMap FNode.cs ++ b.flatMap FNode.cs := List.flatMap_append
@[go_sem] theorem fnc_len (l : List FNode) : (l.flatMap FNode.cs).length = l.length * 3 := by
  induction l with
  | nil => rfl
  | cons w l ih => simp [List.flatMap_cons, ih]; omega
@[go_sem] theorem fnc_purge (id : Nat) (l : List FNode) : AV.purgeL id (l.flatMap FNode.cs) = l.flatMap FNode.cs := purgeL_flat id FNode.cs l fun _ => rfl
@[go_sem] theorem fnc_ment (id : Nat) (l : List FNode) : AV.mentL id (l.flatMap FNode.cs) = false := mentL_flat id FNode.cs l fun _ => rfl
theorem fnc_pur (l : List FNode) : AV.purL (l.flatMap FNode.cs) = true := purL_flat FNode.cs l fun _ => rfl
@[go_sem] theorem fnc_sealD (id sz bw n : Nat) (es : List AV) (l : List FNode) : AV.sealDL id sz bw n es (l.flatMap FNode.cs) = l.flatMap FNode.cs := sealDL_pur (fnc_pur l)
def arityZ (k : Int) : Int := if k = 1 ∨ k = 2 then 0 else if k = 4 ∨ k = 5 ∨ k = 7 then 2 else 1
theorem arity_pc (k : Int) : PCall Try.prog 24 [.int k] (fun r => r = .int (arityZ k)) := by
  (refine enterS Try.func24 Try.ntmps24 ?_)
  (repeat' (first | (refine hK _ ?_; clear hK K) | (refine aw_seq (fun K hK => ?_)) | (refine gR ?_; refine regS ?_) | (refine stk_op (fun K hK => ?_); (first | (refine aop_pv (pv_eql (by rfl) (by rfl)) ?_) | (refine aop_pv (pv_eqlB (by rfl) (by rfl)) ?_) | (refine aop_pv (pv_eqlA (by rfl) (by rfl) (by kernel_rfl)) ?_))) | (refine gE ?_; (first | (refine exN ?_) | (refine exS (fun _ => ?_)))) | (refine gQ ?_; (first | (refine condT ?_) | (refine condF ?_) | (refine condS (fun hc => ?_) (fun hc => ?_) <;> (try (first | contradiction | (exfalso; omega)))))) | (refine gW ?_; refine wopsS ?_) | (refine aw_block ?_) | (refine gX ?_; refine exitS ?_) | (refine gT ?_; refine retS ?_) | (refine gS ?_; refine skipS ?_) | (apply_assumption (exfalso := false) (symm := false))))
  all_goals (refine fin_le (Le.refl _) (rv_one (rv1_tmp (by rfl))) (by first | rfl | (simp only [go_sem, Nat.reduceAdd, Nat.reduceMul, reduceIte, Nat.reduceEqDiff, Nat.reduceLeDiff, Int.reduceToNat, Int.reducePow, Int.reduceBEq, Int.reduceBNe, Int.reduceLT, Int.reduceLE, decide_true, decide_false])) ?_)
  all_goals (unfold arityZ; split <;> first | rfl | (split <;> first | rfl | omega) | omega)

theorem formulaChildren_pc (k : Int) : PCall Try.prog 20 [.int k] (fun r => r = .int (arityZ k)) := by
  (refine enterS Try.func20 Try.ntmps20 ?_)
  (repeat' (first | (refine hK _ ?_; clear hK K) | (refine aw_seq (fun K hK => ?_)) | (refine gR ?_; refine regS ?_) | (refine stk_op (fun K hK => ?_); (first | (refine aop_pv (pv_eql (by rfl) (by rfl)) ?_) | (refine aop_pv (pv_eqlB (by rfl) (by rfl)) ?_) | (refine aop_pv (pv_eqlA (by rfl) (by rfl) (by kernel_rfl)) ?_))) | (refine gE ?_; (first | (refine exN ?_) | (refine exS (fun _ => ?_)))) | (refine gQ ?_; (first | (refine condT ?_) | (refine condF ?_) | (refine condS (fun hc => ?_) (fun hc => ?_) <;> (try (first | contradiction | (exfalso; omega)))))) | (refine gW ?_; refine wopsS ?_) | (refine aw_block ?_) | (refine gX ?_; refine exitS ?_) | (refine gT ?_; refine retS ?_) | (refine gS ?_; refine skipS ?_) | (apply_assumption (exfalso := false) (symm := false))))
  all_goals (refine fin_le (Le.refl _) (rv_one (rv1_tmp (by rfl))) (by first | rfl | (simp only [go_sem, Nat.reduceAdd, Nat.reduceMul, reduceIte, Nat.reduceEqDiff, Nat.reduceLeDiff, Int.reduceToNat, Int.reducePow, Int.reduceBEq, Int.reduceBNe, Int.reduceLT, Int.reduceLE, decide_true, decide_false])) ?_)
  all_goals (unfold arityZ; split <;> first | rfl | (split <;> first | rfl | omega) | omega)

/-- The first node of what stands before the children, from the last child on. -/
def chainK (fs : List Int) : List Int → Int → Option Int
  | [], a => some a
  | c :: r, a => if c < 0 ∨ c ≠ a - 1 then none else chainK fs r fs[c.toNat]!
theorem chainK_app (fs : List Int) : ∀ (a b : List Int) (x : Int), chainK fs (a ++ b) x = (chainK fs a x).bind (chainK fs b)
  | [], b, x => rfl
  | c :: r, b, x => by
    simp only [List.cons_append, chainK]
    split
    · rfl
    · exact chainK_app fs r b _
theorem chainK_drop {fs kids : List Int} {k : Nat} (hk : k < kids.length) (x : Int) : chainK fs (kids.drop k).reverse x = (chainK fs (kids.drop (k + 1)).reverse x).bind fun a => if kids[k] < 0 ∨ kids[k] ≠ a - 1 then none else some fs[(kids[k]).toNat]! := by
  rw [List.drop_eq_getElem_cons hk, List.reverse_cons, chainK_app]
  rfl
/-- What a node's check yields: a fault's code, or the subtree's first node. -/
def nodeE (facts : Int) (n : FNode) (fs : List Int) : Int ⊕ Int :=
  if n.kind < 1 ∨ 9 < n.kind then .inl 4 else if (n.kids.length : Int) ≠ arityZ n.kind then .inl 9 else if n.kind = 2 ∧ (n.fact < 0 ∨ facts ≤ n.fact) then .inl 3
  else match chainK fs n.kids.reverse fs.length with | none => .inl 5 | some a => .inr a
def runF (facts : Int) (l : List FNode) : Nat → (Int × Int) ⊕ List Int
  | 0 => .inr []
  | k + 1 => match runF facts l k with
    | .inl e => .inl e
    | .inr fs => match nodeE facts l[k]! fs with
      | .inl c => .inl (c, k)
      | .inr a => .inr (fs ++ [a])
def formFault (facts : Int) (l : List FNode) : Int × Int :=
  if facts < 0 ∨ 24 < facts then (3, -1) else if l.length = 0 ∨ 60 < l.length then (2, -2) else
  match runF facts l l.length with
  | .inl e => e
  | .inr fs => if fs[l.length - 1]! ≠ 0 then (5, -2) else (0, 0)
theorem runF_len {facts : Int} {l : List FNode} : ∀ {k : Nat} {fs : List Int}, runF facts l k = .inr fs → fs.length = k
  | 0, fs, h => by simp [runF] at h; subst h; rfl
  | k + 1, fs, h => by
    rw [runF] at h
    split at h
    · cases h
    · rename_i fs' hf
      split at h
      · cases h
      · injection h with h; subst h
        rw [List.length_append, runF_len hf]; rfl
theorem runF_le {facts : Int} {l : List FNode} {k : Nat} {fs : List Int} (h : runF facts l k = .inr fs) : ∀ j, j ≤ k → runF facts l j = .inr (fs.take j) := by
  induction k generalizing fs with
  | zero =>
    intro j hj
    obtain rfl : j = 0 := by omega
    rw [h]; simp [runF] at h; subst h; rfl
  | succ k ih =>
    intro j hj
    have hlen := runF_len h
    rcases Nat.lt_or_ge j (k + 1) with hlt | hge
    · rw [runF] at h
      split at h
      · cases h
      · rename_i fs' hf
        split at h
        · cases h
        · injection h with h; subst h
          rw [ih hf j (by omega), List.take_append_of_le_length (by rw [runF_len hf]; omega)]
    · obtain rfl : j = k + 1 := by omega
      rw [h, List.take_of_length_le (by omega)]
theorem runF_err {facts : Int} {l : List FNode} {k : Nat} {e : Int × Int} (h : runF facts l k = .inl e) : ∀ j, k ≤ j → runF facts l j = .inl e := by
  intro j hj
  induction j with
  | zero => obtain rfl : k = 0 := by omega
            exact h
  | succ j ih =>
    rcases Nat.lt_or_ge k (j + 1) with hlt | hge
    · rw [runF, ih (by omega)]
    · obtain rfl : k = j + 1 := by omega
      exact h
/-- A node that passed. -/
theorem runF_node {facts : Int} {l : List FNode} {k : Nat} {fs : List Int} (h : runF facts l k = .inr fs) {i : Nat} (hi : i < k) : nodeE facts l[i]! (fs.take i) = .inr fs[i]! := by
  have h1 := runF_le h (i + 1) (by omega)
  have hl := runF_len h
  rw [runF, runF_le h i (by omega)] at h1
  split at h1
  · cases h1
  · rename_i fs' hf
    injection hf with hf; subst hf
    split at h1
    · cases h1
    · rename_i a ha
      injection h1 with h1
      rw [ha]
      have : fs[i]! = a := by
        rw [getBang (by omega)]
        have h2 : (fs.take (i + 1))[i]? = some a := by rw [← h1]; simp [List.length_take, show min i fs.length = i by omega]
        rw [List.getElem?_take_of_lt (by omega), List.getElem?_eq_getElem (by omega)] at h2
        injection h2
      rw [this]
theorem nodeE_inr {facts : Int} {n : FNode} {fs : List Int} {a : Int} (h : nodeE facts n fs = .inr a) : (1 ≤ n.kind ∧ n.kind ≤ 9) ∧ (n.kids.length : Int) = arityZ n.kind ∧ (n.kind = 2 → 0 ≤ n.fact ∧ n.fact < facts) ∧ chainK fs n.kids.reverse fs.length = some a := by
  unfold nodeE at h
  split at h
  · cases h
  · split at h
    · cases h
    · split at h
      · cases h
      · split at h
        · cases h
        · rename_i h1 h2 h3 _ _ h4
          injection h with h; subst h
          exact ⟨by omega, by omega, fun e => by omega, h4⟩
/-- The sizes of the children's subtrees. -/
def sumS (fs : List Int) (kids : List Int) : Int := (kids.map fun c => c - fs[c.toNat]! + 1).sum
theorem sumS_app (fs a b : List Int) : sumS fs (a ++ b) = sumS fs a + sumS fs b := by simp [sumS]
theorem chainK_sum {fs : List Int} : ∀ {r : List Int} {x a : Int}, chainK fs r x = some a → x - a = sumS fs r
  | [], x, a, h => by simp only [chainK, Option.some.injEq] at h; subst h; simp [sumS]
  | c :: r, x, a, h => by
    rw [chainK] at h
    split at h
    · cases h
    · rename_i hc
      have := chainK_sum h
      simp only [sumS, List.map_cons, List.sum_cons] at this ⊢
      omega
theorem chainK_mem {fs : List Int} (hf : ∀ i : Nat, i < fs.length → 0 ≤ fs[i]! ∧ fs[i]! ≤ i) : ∀ {r : List Int} {x a : Int}, x ≤ fs.length → chainK fs r x = some a → (∀ c ∈ r, 0 ≤ c ∧ c < x) ∧ a ≤ x ∧ (0 ≤ x → 0 ≤ a)
  | [], x, a, hx, h => by simp only [chainK, Option.some.injEq] at h; subst h; simp
  | c :: r, x, a, hx, h => by
    rw [chainK] at h
    split at h
    · cases h
    · rename_i hc
      have h1 := hf c.toNat (by omega)
      obtain ⟨i1, i2, i3⟩ := chainK_mem hf (by omega) h
      refine ⟨fun d hd => ?_, by omega, fun _ => i3 (by omega)⟩
      rcases List.mem_cons.1 hd with rfl | hd
      · omega
      · have := i1 d hd; omega
theorem take_bang {fs : List Int} {i j : Nat} (h : j < i) : (fs.take i)[j]! = fs[j]! := by
  rw [List.getElem!_eq_getElem?_getD, List.getElem!_eq_getElem?_getD, List.getElem?_take_of_lt h]
theorem runF_bound {facts : Int} {l : List FNode} {k : Nat} {fs : List Int} (h : runF facts l k = .inr fs) : ∀ i : Nat, i < k → 0 ≤ fs[i]! ∧ fs[i]! ≤ i := by
  have hl := runF_len h
  intro i
  induction i using Nat.strongRecOn with
  | _ i ih =>
    intro hi
    obtain ⟨_, _, _, h4⟩ := nodeE_inr (runF_node h hi)
    have hlt : (fs.take i).length = i := by rw [List.length_take]; omega
    obtain ⟨_, h5, h6⟩ := chainK_mem (fs := fs.take i) (fun j hj => by
      rw [hlt] at hj
      rw [take_bang hj]
      exact ih j hj (by omega)) (Int.le_refl _) h4
    rw [hlt] at h5 h6
    exact ⟨h6 (by omega), h5⟩
/-- Node i's children, in a formula of which nodes up to i passed. -/
theorem runF_kids {facts : Int} {l : List FNode} {k : Nat} {fs : List Int} (h : runF facts l k = .inr fs) {i : Nat} (hi : i < k) : (∀ c ∈ (l[i]!).kids, 0 ≤ c ∧ c < i) ∧ (i : Int) - fs[i]! = sumS fs (l[i]!).kids := by
  have hl := runF_len h
  obtain ⟨_, _, _, h4⟩ := nodeE_inr (runF_node h hi)
  have hlt : (fs.take i).length = i := by rw [List.length_take]; omega
  obtain ⟨h5, _, _⟩ := chainK_mem (fs := fs.take i) (fun j hj => by
    rw [hlt] at hj
    rw [take_bang hj]
    exact runF_bound h j (by omega)) (Int.le_refl _) h4
  rw [hlt] at h5
  have h6 := chainK_sum h4
  rw [hlt] at h6
  have h7 : ∀ c ∈ (l[i]!).kids, 0 ≤ c ∧ c < i := fun c hc => h5 c (List.mem_reverse.2 hc)
  refine ⟨h7, ?_⟩
  rw [h6]
  unfold sumS
  rw [List.map_reverse, List.sum_reverse]
  congr 1
  refine List.map_congr_left fun c hc => ?_
  rw [take_bang (by have := h7 c hc; omega)]
theorem sumS_take {fs kids : List Int} {i : Nat} (hf : ∀ j : Nat, j < i → fs[j]! ≤ j) (hk : ∀ c ∈ kids, 0 ≤ c ∧ c < i) : ∀ k, 0 ≤ sumS fs (kids.take k) ∧ sumS fs (kids.take k) ≤ sumS fs kids := by
  intro k
  have pos : ∀ r : List Int, (∀ c ∈ r, 0 ≤ c ∧ c < i) → 0 ≤ sumS fs r := by
    intro r
    induction r with
    | nil => intro _; simp [sumS]
    | cons c r ih =>
      intro h
      have h1 := h c (by simp)
      have h2 := hf c.toNat (by omega)
      have h3 := ih fun d hd => h d (by simp [hd])
      simp only [sumS, List.map_cons, List.sum_cons] at h3 ⊢
      omega
  refine ⟨pos _ fun c hc => hk c (List.mem_of_mem_take hc), ?_⟩
  have h1 : sumS fs kids = sumS fs (kids.take k) + sumS fs (kids.drop k) := by rw [← sumS_app, List.take_append_drop]
  have := pos (kids.drop k) fun c hc => hk c (List.mem_of_mem_drop hc)
  omega
end Go.Proofs.Ytanogjooppnihaa
