import Derived.Test.YtpnpnbbanfgpgaaCow



namespace Go.Proofs.Ytpnpnbbanfgpgaa
open Go.Ab
open Go
set_option linter.unusedSimpArgs false
set_option linter.unusedVariables false
set_option maxRecDepth 10000
attribute [local irreducible] PV AOp AOps AW PCall OCall MCall WCall HCall Ab.Fin OFin OFin2 MFin HFin RV RV1 Le AStk AGrd ADr ADx ADo AOpX AAny
set_option maxHeartbeats 4000000
/-! values of classes -/
@[local go_sem] theorem purge_appV (id : Nat) (a b : List AV) : AV.purgeL id (a ++ b) = AV.purgeL id a ++ AV.purgeL id b := purgeL_append id a b
@[local go_sem] theorem cells_intsV (xs : List Int) : (xs.map AV.int).flatMap AV.cells = xs.map AV.int := flat_ints xs
/-- The last position of an element that is in the set, or the length. -/
def valK (c s : List Int) : Nat → Int
  | 0 => c.length
  | k + 1 => if hasB s c[k]! then k else valK c s k
def cntK (c s : List Int) (k : Nat) : Int := cntIn (c.take k) s
theorem cntK_step {c s : List Int} {k : Nat} (h : k < c.length) : cntK c s (k + 1) = cntK c s k + if hasB s c[k] then 1 else 0 := by
  unfold cntK cntIn
  cases hb : hasB s c[k] with
  | true => rw [capB_yes h hb]; simp
  | false => rw [capB_no h hb]; simp
theorem cntK_bd {c s : List Int} {k : Nat} : 0 ≤ cntK c s k ∧ cntK c s k ≤ k := by
  unfold cntK cntIn
  have := capB_len (a := c) (b := s) (k := k)
  omega
theorem value_pc (c s : List Int) (hs : s.Pairwise (· < ·)) : PCall Try.prog 37 [ints c, ints s] (fun r => r = .tup [.int (valK c s c.length), .int (cntIn c s)]) := by
  
  
  (refine enterS Try.func37 Try.ntmps37 ?_)
  (refine aw_bound (i := 0) rfl (fun hb => ?_); (try simp only [List.length_map] at hb))
  (repeat' (first | (refine hK _ ?_; clear hK K) | (refine aw_seq (fun K hK => ?_)) | (refine gR ?_; refine regS ?_) | (refine aw_block ?_)))
  refine aw_loop_at [6, 7, 8, 9, 10, 11, 16, 17, 18, 19, 20, 21, 22, 23, 24, 25, 26, 27, 28, 29, 30, 31] (fun k : Nat => k ≤ c.length) (fun k => c.length - k) (fun k => [(16, .int k), (6, .int (valK c s k)), (7, .int (cntK c s k))]) (fun _ => []) 0 (by omega) ?_ ?_
  · (refine atS ?_)
    (exact weakS)
  · rintro k hk K hK
    (refine atS ?_)
    have hcb := cntK_bd (c := c) (s := s) (k := k)
    by_cases hlt : k < c.length
    · have hst := cntK_step (s := s) hlt
      have hg : c[k]! = c[k] := getBang hlt
      (repeat' (first | (refine hK _ ?_; clear hK K) | (refine aw_seq (fun K hK => ?_)) | (refine gR ?_; refine regS ?_) | (refine gC 61 ?_; refine callS (search_pc s _ hs) ?_) | (refine gE ?_; (first | (refine exN ?_) | (refine exS (fun _ => ?_)))) | (refine gQ ?_; refine condS (fun hc => ?_) (fun hc => ?_) <;> (try (first | contradiction | (exfalso; omega)))) | (refine aw_block ?_) | (refine gS ?_; refine skipS ?_)))
      · have hx : hasB s c[k] = true := by assumption
        refine ⟨k + 1, by omega, by omega, ?_⟩
        rw [hst, if_pos hx, show valK c s (k + 1) = k by rw [valK, hg, if_pos hx]]
        (refine atS ?_)
        (exact weakS)
      · have hx : hasB s c[k] = false := by assumption
        refine ⟨k + 1, by omega, by omega, ?_⟩
        rw [hst, if_neg (by simp [hx]), Int.add_zero, show valK c s (k + 1) = valK c s k by rw [valK, hg, if_neg (by simp [hx])]]
        (refine atS ?_)
        (exact weakS)
    · obtain rfl : k = c.length := by omega
      (repeat' (first | (refine hK _ ?_; clear hK K) | (refine aw_seq (fun K hK => ?_)) | (refine gR ?_; refine regS ?_) | (refine gQ ?_; refine condS (fun hc => ?_) (fun hc => ?_) <;> (try (first | contradiction | (exfalso; omega)))) | (refine gX ?_; refine exitS ?_) | (refine gT ?_; refine retS ?_) | (apply_assumption (exfalso := false) (symm := false))))
      (refine fin_le (Le.refl _) (rv_two (rv1_tmp (by rfl)) (rv1_tmp (by rfl))) (by first | rfl | (simp only [go_sem, Nat.reduceAdd, Nat.reduceMul, reduceIte, Nat.reduceEqDiff, Nat.reduceLeDiff, Int.reduceToNat, Int.reducePow, Int.reduceBEq, Int.reduceBNe, Int.reduceLT, Int.reduceLE, decide_true, decide_false])) ?_)
      rw [show cntK c s c.length = cntIn c s by rw [cntK, List.take_length]]


def valF (c s : List Int) : Nat := c.findIdx (hasB s)
theorem valK_none {c s : List Int} : ∀ k, k ≤ c.length → (∀ i (hi : i < c.length), i < k → hasB s c[i] = false) → valK c s k = c.length
  | 0, _, _ => rfl
  | k + 1, hk, h => by
    have hg : c[k]! = c[k] := getBang (by omega)
    rw [valK, hg, if_neg (by rw [h k (by omega) (by omega)]; simp)]
    exact valK_none k (by omega) fun i hi hik => h i hi (by omega)
theorem cntK_pos {c s : List Int} : ∀ k, k ≤ c.length → (∃ i, ∃ hi : i < c.length, i < k ∧ hasB s c[i] = true) → 1 ≤ cntK c s k
  | 0, _, ⟨i, hi, hik, _⟩ => by omega
  | k + 1, hk, ⟨i, hi, hik, hb⟩ => by
    have hst := cntK_step (c := c) (s := s) (k := k) (by omega)
    have := cntK_bd (c := c) (s := s) (k := k)
    by_cases h : i = k
    · subst h; rw [hst, if_pos hb]; omega
    · have := cntK_pos k (by omega) ⟨i, hi, by omega, hb⟩
      rw [hst]; split <;> omega
theorem val_eqK {c s : List Int} : ∀ k, k ≤ c.length → cntK c s k ≤ 1 → valK c s k = if c.findIdx (hasB s) < k then (c.findIdx (hasB s) : Int) else c.length
  | 0, _, _ => by rw [if_neg (by omega)]; rfl
  | k + 1, hk, h => by
    have hst := cntK_step (c := c) (s := s) (k := k) (by omega)
    have hg : c[k]! = c[k] := getBang (by omega)
    cases hb : hasB s c[k] with
    | true =>
      rw [hst, if_pos hb] at h
      have hno : ∀ i (hi : i < c.length), i < k → hasB s c[i] = false := fun i hi hik => by
        cases hq : hasB s c[i] with
        | false => rfl
        | true =>
          have := cntK_pos k (by omega) ⟨i, hi, hik, hq⟩
          omega
      rw [valK, hg, if_pos hb, show c.findIdx (hasB s) = k from (List.findIdx_eq (by omega)).2 ⟨hb, fun j hj => hno j (by omega) hj⟩, if_pos (by omega)]
    | false =>
      rw [hst, if_neg (by simp [hb])] at h
      have hne : c.findIdx (hasB s) ≠ k := fun e => by
        have := List.findIdx_getElem (xs := c) (p := hasB s) (w := by omega)
        simp only [e] at this
        rw [hb] at this; cases this
      rw [valK, hg, if_neg (by simp [hb]), val_eqK k (by omega) (by omega)]
      split
      · rw [if_pos (by omega)]
      · rw [if_neg (by omega)]
theorem val_eq {c s : List Int} (h : cntIn c s ≤ 1) : valK c s c.length = valF c s := by
  have := val_eqK (c := c) (s := s) c.length (Nat.le_refl _) (by rw [cntK, List.take_length]; exact h)
  rw [this]
  unfold valF
  split
  · rfl
  · have := List.findIdx_le_length (xs := c) (p := hasB s); omega
/-! all classes -/
def crowdB (cs : List (List Int)) (s : List Int) : Bool := cs.any fun c => decide (1 < cntIn c s)
theorem crowd_f {cs : List (List Int)} {s : List Int} : crowdB cs s = false ↔ ∀ c ∈ cs, cntIn c s ≤ 1 := by
  unfold crowdB
  rw [List.any_eq_false]
  constructor
  · intro h c hc
    have := h c hc
    simp at this; omega
  · intro h c hc
    have := h c hc
    simp; omega
def valsF (cs : List (List Int)) (s : List Int) : List Int := cs.map fun c => (valF c s : Int)
theorem valsF_take {cs : List (List Int)} {s : List Int} {k : Nat} (h : k < cs.length) : valsF (cs.take (k + 1)) s = valsF (cs.take k) s ++ [(valF cs[k] s : Int)] := by
  unfold valsF; rw [List.take_succ_eq_append_getElem h, List.map_append]; rfl
end Go.Proofs.Ytpnpnbbanfgpgaa
