import Derived.Test.YthdlckclpmfidaaComq


namespace Go.Proofs.Ythdlckclpmfidaa
open Go.Ab
open Go
set_option linter.unusedSimpArgs false
set_option linter.unusedVariables false
set_option maxRecDepth 10000
attribute [local irreducible] PV AOp AOps AW PCall OCall MCall Ab.Fin OFin OFin2 MFin RV RV1 Le AStk AGrd ADr ADx ADo AOpX AAny
set_option maxHeartbeats 2000000
/-! valid tasks -/
structure WfT (t : Task) : Prop where
  f0 : 0 ≤ t.facts
  f1 : t.facts ≤ 24
  init : isSet t.init t.facts = true
  goal : isSet t.goal t.facts = true
  n40 : t.ops.length ≤ 40
  ops : ∀ o ∈ t.ops, opOk o t.facts = true ∧ 0 ≤ o.cost ∧ o.cost ≤ 100
theorem opE_zero {o : Op} {n : Int} : opE o n = 0 ↔ opOk o n = true ∧ 0 ≤ o.cost ∧ o.cost ≤ 100 := by
  unfold opE
  cases h : opOk o n
  · simp
  · simp only [Bool.true_eq_false, if_false, true_and]
    split <;> omega
theorem taskFault_ok {t : Task} : taskFault t = (0, 0) ↔ WfT t := by
  constructor
  · intro h
    unfold taskFault at h
    split at h
    · simp at h
    · rename_i h1
      split at h
      · simp at h
      · rename_i h2
        split at h
        · simp at h
        · rename_i h3
          split at h
          · simp at h
          · rename_i h4
            refine ⟨by omega, by omega, by simpa using h2, by simpa using h3, by omega, fun o ho => ?_⟩
            cases hq : firstSome (opAt t.facts t.ops) t.ops.length with
            | none =>
              obtain ⟨k, hk, rfl⟩ := List.getElem_of_mem ho
              have := firstSome_none.1 hq k hk
              rw [opAt_eq hk] at this
              split at this
              · rename_i h5; exact opE_zero.1 h5
              · cases this
            | some p =>
              rw [hq] at h
              obtain ⟨i, hi, hg⟩ := firstSome_of hq
              rw [opAt_eq hi] at hg
              split at hg
              · cases hg
              · rename_i h5
                injection hg with hg
                simp only [Option.getD_some] at h
                rw [← hg] at h
                simp only [Prod.mk.injEq] at h
                exact absurd h.1 h5
  · rintro ⟨h0, h1, h2, h3, h4, h5⟩
    rw [tf_e (by omega) h2 h3 (by omega)]
    have : firstSome (opAt t.facts t.ops) t.ops.length = none := firstSome_none.2 fun k hk => by
      rw [opAt_eq hk, if_pos (opE_zero.2 (h5 _ (List.getElem_mem hk)))]
    rw [this]; rfl
theorem tf_code {t : Task} (h : taskFault t ≠ (0, 0)) : (taskFault t).1 ≠ 0 := by
  unfold taskFault at h ⊢
  split
  · simp
  · split
    · simp
    · split
      · simp
      · split
        · simp
        · rename_i h1 h2 h3 h4
          rw [if_neg h1, if_neg h2, if_neg h3, if_neg h4] at h
          cases hq : firstSome (opAt t.facts t.ops) t.ops.length with
          | none => rw [hq] at h; simp at h
          | some p =>
            obtain ⟨i, hi, hg⟩ := firstSome_of hq
            rw [opAt_eq hi] at hg
            split at hg
            · cases hg
            · rename_i h5
              injection hg with hg
              subst hg
              simpa using h5
theorem set_bd {xs : List Int} {n : Int} (h : isSet xs n = true) (hn : n ≤ 1000) : ∀ x ∈ xs, 0 ≤ x ∧ x < 1000 := fun x hx => by
  have := (isSet_iff.1 h).1 x hx; omega
theorem opOk_sets {o : Op} {n : Int} (h : opOk o n = true) : isSet o.pre n = true ∧ isSet o.add n = true ∧ isSet o.del n = true ∧ disB o.add o.del = true := by
  simpa [opOk, and_assoc] using h
theorem len_asc : ∀ (xs : List Int) (lo n : Int), (∀ x ∈ xs, lo ≤ x ∧ x < n) → xs.Pairwise (· < ·) → lo ≤ n → (xs.length : Int) ≤ n - lo
  | [], _, _, _, _, h => by simp; omega
  | x :: r, lo, n, h, hp, hl => by
    have hx := h x (by simp)
    have ⟨h1, h2⟩ := List.pairwise_cons.1 hp
    have := len_asc r (x + 1) n (fun y hy => ⟨by have := h1 y hy; omega, (h y (by simp [hy])).2⟩) h2 (by omega)
    simp only [List.length_cons]; omega
theorem isSet_len {xs : List Int} {n : Int} (h : isSet xs n = true) (hn : 0 ≤ n) : (xs.length : Int) ≤ n := by
  have ⟨h1, h2⟩ := isSet_iff.1 h
  have := len_asc xs 0 n h1 h2 hn
  omega
/-! cells of operators -/
theorem opc_get? (l : List Op) (k i : Nat) (hi : i < 4) : (l.flatMap opc)[k * 4 + i]? = l[k]?.bind fun o => (opc o)[i]? := by
  induction l generalizing k with
  | nil => simp
  | cons w l ih =>
    cases k with
    | zero =>
      simp only [List.flatMap_cons, Nat.zero_mul, Nat.zero_add, List.getElem?_cons_zero, Option.bind_some]
      rw [List.getElem?_append_left (by simp; omega)]
    | succ k =>
      have := ih k
      simp only [List.flatMap_cons, List.getElem?_cons_succ]
      rw [List.getElem?_append_right (by simp; omega), ← this]
      congr 1
      simp; omega
theorem opc_getE {l : List Op} {k i : Nat} (hi : i < 4) (h : k * 4 + i < (l.flatMap opc).length) (hk : k < l.length) : (l.flatMap opc)[k * 4 + i] = (opc l[k])[i]'(by simpa using hi) := by
  have e := opc_get? l k i hi
  rw [List.getElem?_eq_getElem h, List.getElem?_eq_getElem hk, Option.bind_some, List.getElem?_eq_getElem (by simpa using hi)] at e
  exact Option.some.inj e
theorem opc_lt {l : List Op} {k i : Nat} (h : k * 4 + i < (l.flatMap opc).length) : k < l.length := by rw [opc_len] at h; omega
@[go_sem] theorem opc_g0 (l : List Op) (k : Nat) (h : k * 4 < (l.flatMap opc).length) : (l.flatMap opc)[k * 4]'h = ints (l[k]'(opc_lt (i := 0) h)).pre := opc_getE (i := 0) (by omega) h _
@[go_sem] theorem opc_g1 (l : List Op) (k : Nat) (h : k * 4 + 1 < (l.flatMap opc).length) : (l.flatMap opc)[k * 4 + 1]'h = ints (l[k]'(opc_lt h)).add := opc_getE (i := 1) (by omega) h _
@[go_sem] theorem opc_g2 (l : List Op) (k : Nat) (h : k * 4 + 2 < (l.flatMap opc).length) : (l.flatMap opc)[k * 4 + 2]'h = ints (l[k]'(opc_lt h)).del := opc_getE (i := 2) (by omega) h _
@[go_sem] theorem opc_g3 (l : List Op) (k : Nat) (h : k * 4 + 3 < (l.flatMap opc).length) : (l.flatMap opc)[k * 4 + 3]'h = .int (l[k]'(opc_lt h)).cost := opc_getE (i := 3) (by omega) h _
theorem opc_set (l : List Op) (k i : Nat) (hi : i < 4) (x : AV) (f : Op → Op) (hf : ∀ o, opc (f o) = (opc o).set i x) : (l.flatMap opc).set (k * 4 + i) x = (l.modify k f).flatMap opc := by
  induction l generalizing k with
  | nil => simp
  | cons w l ih =>
    cases k with
    | zero =>
      simp only [List.flatMap_cons, Nat.zero_mul, Nat.zero_add, List.modify_zero_cons]
      rw [List.set_append_left _ _ (by simp; omega), hf]
    | succ k =>
      have := ih k
      simp only [List.flatMap_cons, List.modify_succ_cons]
      rw [List.set_append_right _ _ (by simp; omega), ← this]
      congr 2
      simp; omega
def setAdd (l : List Op) (k : Nat) (xs : List Int) : List Op := l.modify k fun o => { o with add := xs }
def setDel (l : List Op) (k : Nat) (xs : List Int) : List Op := l.modify k fun o => { o with del := xs }
def setCost (l : List Op) (k : Nat) (c : Int) : List Op := l.modify k fun o => { o with cost := c }
@[go_sem] theorem opc_s1 (l : List Op) (k : Nat) (xs : List Int) : (l.flatMap opc).set (k * 4 + 1) (.isl 1 8 (xs.map AV.int)) = (setAdd l k xs).flatMap opc := opc_set l k 1 (by omega) _ _ fun _ => rfl
@[go_sem] theorem opc_s2 (l : List Op) (k : Nat) (xs : List Int) : (l.flatMap opc).set (k * 4 + 2) (.isl 1 8 (xs.map AV.int)) = (setDel l k xs).flatMap opc := opc_set l k 2 (by omega) _ _ fun _ => rfl
@[go_sem] theorem opc_s3 (l : List Op) (k : Nat) (c : Int) : (l.flatMap opc).set (k * 4 + 3) (.int c) = (setCost l k c).flatMap opc := opc_set l k 3 (by omega) _ _ fun _ => rfl
@[go_sem] theorem setAdd_len (l : List Op) (k : Nat) (xs : List Int) : (setAdd l k xs).length = l.length := by simp [setAdd]
@[go_sem] theorem setDel_len (l : List Op) (k : Nat) (xs : List Int) : (setDel l k xs).length = l.length := by simp [setDel]
@[go_sem] theorem setCost_len (l : List Op) (k : Nat) (c : Int) : (setCost l k c).length = l.length := by simp [setCost]
theorem modify_at {α : Type} (f : α → α) (l : List α) (k : Nat) (h : k < l.length) : ((l.take k).map f ++ l.drop k).modify k f = (l.take (k + 1)).map f ++ l.drop (k + 1) := by
  induction l generalizing k with
  | nil => simp at h
  | cons a l ih =>
    cases k with
    | zero => simp
    | succ k =>
      have := ih k (by simpa using h)
      simp only [List.take_succ_cons, List.map_cons, List.drop_succ_cons, List.cons_append, List.modify_succ_cons, this]
def zeroT : Task := ⟨0, [], [], []⟩
theorem zeroLe : ALeL [.int 0, .nilS, .nilS, .nilS] zeroT.cs := ⟨ALe.rfl' _, ALe.nil 1 8, ALe.nil 1 8, ALe.nil 4 80, trivial⟩
end Go.Proofs.Ythdlckclpmfidaa
