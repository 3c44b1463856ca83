import Derived.Test.YthdlckclpmfidaaCmz
import Derived.Test.YthdlckclpmfidaaCmr



namespace Go.Proofs.Ythdlckclpmfidaa
open Go.Ab
open Go
set_option linter.unusedSimpArgs false
set_option linter.unusedVariables false
set_option maxRecDepth 10000
attribute [local irreducible] PV AOp AOps AW PCall OCall MCall WCall HCall Ab.Fin OFin OFin2 MFin HFin RV RV1 Le AStk AGrd ADr ADx ADo AOpX AAny AOpsI wops wdr wgd wdt
set_option maxHeartbeats 16000000
/-! the way to a node -/
def revK (xs : List Int) (i : Nat) : List Int := (List.range xs.length).map fun k => if k < i ∨ xs.length - i ≤ k then xs[xs.length - 1 - k]! else xs[k]!
theorem revK_len (xs : List Int) (i : Nat) : (revK xs i).length = xs.length := by simp [revK]
theorem revK_get {xs : List Int} {i k : Nat} (h : k < (revK xs i).length) : (revK xs i)[k] = if k < i ∨ xs.length - i ≤ k then xs[xs.length - 1 - k]! else xs[k]! := by simp [revK]
theorem revK_zero (xs : List Int) : revK xs 0 = xs := by
  apply List.ext_getElem
  · simp [revK]
  · intro k h1 h2
    rw [revK_get h1, if_neg (by omega), getBang h2]
theorem revK_step {xs : List Int} {i j : Nat} (hi : i < j) (hj : i + j + 1 = xs.length) (h1 : i < (revK xs i).length) (h2 : j < (revK xs i).length) : ((revK xs i).set i (revK xs i)[j]).set j (revK xs i)[i] = revK xs (i + 1) := by
  have q1 := revK_get h1
  have q2 := revK_get h2
  generalize (revK xs i)[i] = a at *
  generalize (revK xs i)[j] = b at *
  subst q1 q2
  apply List.ext_getElem
  · simp [revK]
  · intro k g1 g2
    have hk : k < xs.length := by rw [revK_len] at g2; exact g2
    rw [List.getElem_set, List.getElem_set, revK_get g2]
    by_cases e1 : j = k
    · subst e1
      rw [if_pos rfl, if_neg (by omega), if_pos (by omega)]
      congr 1
      omega
    · rw [if_neg e1]
      by_cases e2 : i = k
      · subst e2
        rw [if_pos rfl, if_neg (by omega), if_pos (by omega)]
        congr 1
        omega
      · rw [if_neg e2, revK_get]
        by_cases e3 : k < i ∨ xs.length - i ≤ k
        · rw [if_pos e3, if_pos (by omega)]
        · rw [if_neg e3, if_neg (by omega)]
theorem revK_done {xs : List Int} {i : Nat} (h : xs.length ≤ 2 * i + 1) : revK xs i = xs.reverse := by
  apply List.ext_getElem
  · simp [revK]
  · intro k h1 h2
    have hk : k < xs.length := by rw [revK_len] at h1; exact h1
    rw [revK_get h1, List.getElem_reverse]
    split
    · rw [getBang (by omega)]
    · rw [getBang hk]
      congr 1
      omega
theorem reverse_wc (xs : List Int) (id : Nat) (fl : Bool) (hid : id = 300) (hn : xs.length ≤ 1000000) : WCall Try.prog 77 [.sl 1 8 300 0 xs.length] 300 ⟨3, xs.map AV.int, fl⟩ (fun r bk => r = .tup [] ∧ bk = ⟨3, xs.reverse.map AV.int, fl⟩) := by
  (refine enterW Try.func77 Try.ntmps77 ?_)
  (repeat' (first | (refine hK _ ?_; clear hK K) | (refine aw_seq (fun K hK => ?_)) | (refine gR ?_; refine regS ?_) | (refine gD 3 ?_; refine drE (s1 := ?_) (.it 0 0 (.it 1 0 (.it 4 0 (.it 5 0 (.it 6 0 (.it 7 0 (.it 8 0 (.it 9 0 (.it 10 0 (.it 11 0 (.it 12 0 (.fkt 2 1 3 1 13 3 (.fkm 3 1 13 3 (.it 13 3 (.it 14 1 (.it 15 3 .nil))) (.it 3 1 (.it 14 1 (.it 15 3 .nil)))) (.fkm 2 1 13 3 (.it 13 3 (.it 14 1 (.it 15 3 .nil))) (.it 2 1 (.it 14 1 (.it 15 3 .nil)))) (.fk 2 3 (.it 3 1 (.it 14 1 (.it 15 3 .nil))) (.it 2 1 (.it 14 1 (.it 15 3 .nil)))))))))))))))) [0, 1, 4, 5, 6, 7, 8, 9, 10, 11, 12] ?_ ?_; rotate_left) | (refine And.intro ?_ ?_) | (refine gDx ?_; refine adxS ?_) | (refine gO ?_; refine adoS ?_) | (refine gL ?_; (first | exact Le.refl _ | exact weakS)) | (refine gE ?_; (first | (refine exN ?_) | (refine exS (fun _ => ?_)))) | (refine gQ ?_; (first | (refine condT ?_) | (refine condF ?_) | (refine condS (fun hc => ?_) (fun hc => ?_) <;> (try (first | contradiction | (exfalso; omega)))))) | (refine gWd ?_; refine wdrS ?_) | (refine gW ?_; refine wopsS ?_) | (refine aw_block ?_) | (refine gX ?_; refine exitS ?_) | (refine gT ?_; refine retS ?_) | (refine gS ?_; refine skipS ?_) | (apply_assumption (exfalso := false) (symm := false))))
  refine aw_loop_set [2, 3, 7, 8, 9, 10, 11, 12, 13, 14, 15, 16, 17, 18, 19, 20, 21, 22, 23, 24, 25, 26, 27] (fun i : Nat => i ≤ xs.length) (fun i => xs.length - i) (fun i => [(2, .int i), (3, .int ((xs.length : Int) - 1 - i))]) (fun i => [(300, ⟨3, (revK xs i).map AV.int, fl⟩)]) 0 (by omega) ?_ ?_
  · rw [revK_zero, show (xs.length : Int) - 1 - (0 : Nat) = (xs.length : Int) - 1 by omega]
    (refine atS ?_)
    (exact weakS)
  · rintro i hi K hK
    (refine atS ?_)
    have hl := revK_len xs i
    by_cases hlt : 2 * i + 1 < xs.length
    · obtain ⟨j, hj⟩ : ∃ j, j = xs.length - 1 - i := ⟨_, rfl⟩
      have hji : (xs.length : Int) - 1 - i = (j : Int) := by omega
      have hst := revK_step (xs := xs) (i := i) (j := j) (by omega) (by omega) (by omega) (by omega)
      rw [hji]
      have hi2 : i < (revK xs i).length := by omega
      have hj2 : j < (revK xs i).length := by omega
      
      (repeat' (first | (refine hK _ ?_; clear hK K) | (refine aw_seq (fun K hK => ?_)) | (refine gR ?_; refine regS ?_) | (refine gD 3 ?_; refine drE (s1 := ?_) (.it 0 0 (.it 1 0 (.it 4 0 (.it 5 0 (.it 6 0 (.it 7 0 (.it 8 0 (.it 9 0 (.it 10 0 (.it 11 0 (.it 12 0 (.fkt 2 1 3 1 13 3 (.fkm 3 1 13 3 (.it 13 3 (.it 14 1 (.it 15 3 .nil))) (.it 3 1 (.it 14 1 (.it 15 3 .nil)))) (.fkm 2 1 13 3 (.it 13 3 (.it 14 1 (.it 15 3 .nil))) (.it 2 1 (.it 14 1 (.it 15 3 .nil)))) (.fk 2 3 (.it 3 1 (.it 14 1 (.it 15 3 .nil))) (.it 2 1 (.it 14 1 (.it 15 3 .nil)))))))))))))))) [0, 1, 4, 5, 6, 7, 8, 9, 10, 11, 12] ?_ ?_; rotate_left) | (refine And.intro ?_ ?_) | (refine gDx ?_; refine adxS ?_) | (refine gO ?_; refine adoS ?_) | (refine gL ?_; (first | exact Le.refl _ | exact weakS)) | (refine gE ?_; (first | (refine Exists.intro hi2 ?_) | (refine Exists.intro hj2 ?_) | (refine exN ?_) | (refine exS (fun _ => ?_)))) | (refine gQ ?_; (first | (refine condT ?_) | (refine condF ?_) | (refine condS (fun hc => ?_) (fun hc => ?_) <;> (try (first | contradiction | (exfalso; omega)))))) | (refine gWd ?_; refine wdrS ?_) | (refine gW ?_; refine wopsS ?_) | (refine aw_block ?_) | (refine gX ?_; refine exitS ?_) | (refine gT ?_; refine retS ?_) | (refine gS ?_; refine skipS ?_) | (apply_assumption (exfalso := false) (symm := false))))
      
      refine ⟨i + 1, by omega, by omega, ?_⟩
      rw [← hst, show (xs.length : Int) - 1 - ((i + 1 : Nat) : Int) = (j : Int) - 1 by omega]
      (refine atS ?_)
      (refine le_weak (by (repeat (first | exact .nil | refine .drop ?_ | refine weak_keep ?_ (by first | rfl | (simp only [List.map_set]))))) (by (repeat refine hsub_hasE (by rfl) (by first | rfl | (simp only [List.map_set])) ?_); exact hsub_nil _))
    · have hd := revK_done (xs := xs) (i := i) (by omega)
      rw [hd]
      (repeat' (first | (refine hK _ ?_; clear hK K) | (refine aw_seq (fun K hK => ?_)) | (refine gR ?_; refine regS ?_) | (refine gD 3 ?_; refine drE (s1 := ?_) (.it 0 0 (.it 1 0 (.it 4 0 (.it 5 0 (.it 6 0 (.it 7 0 (.it 8 0 (.it 9 0 (.it 10 0 (.it 11 0 (.it 12 0 (.fkt 2 1 3 1 13 3 (.fkm 3 1 13 3 (.it 13 3 (.it 14 1 (.it 15 3 .nil))) (.it 3 1 (.it 14 1 (.it 15 3 .nil)))) (.fkm 2 1 13 3 (.it 13 3 (.it 14 1 (.it 15 3 .nil))) (.it 2 1 (.it 14 1 (.it 15 3 .nil)))) (.fk 2 3 (.it 3 1 (.it 14 1 (.it 15 3 .nil))) (.it 2 1 (.it 14 1 (.it 15 3 .nil)))))))))))))))) [0, 1, 4, 5, 6, 7, 8, 9, 10, 11, 12] ?_ ?_; rotate_left) | (refine And.intro ?_ ?_) | (refine gDx ?_; refine adxS ?_) | (refine gO ?_; refine adoS ?_) | (refine gL ?_; (first | exact Le.refl _ | exact weakS)) | (refine gE ?_; (first | (refine exN ?_) | (refine exS (fun _ => ?_)))) | (refine gQ ?_; (first | (refine condT ?_) | (refine condF ?_) | (refine condS (fun hc => ?_) (fun hc => ?_) <;> (try (first | contradiction | (exfalso; omega)))))) | (refine gWd ?_; refine wdrS ?_) | (refine gW ?_; refine wopsS ?_) | (refine aw_block ?_) | (refine gX ?_; refine exitS ?_) | (refine gT ?_; refine retS ?_) | (refine gS ?_; refine skipS ?_) | (apply_assumption (exfalso := false) (symm := false))))
      (refine wfin_eq (Le.refl _) rv_zero (by rfl) (by first | rfl | (simp only [go_sem, Nat.reduceAdd, Nat.reduceMul, reduceIte, Nat.reduceEqDiff, Nat.reduceLeDiff, Int.reduceToNat, Int.reducePow, Int.reduceBEq, Int.reduceBNe, Int.reduceLT, Int.reduceLE, decide_true, decide_false, Nat.reduceBEq, Bool.or_self, Bool.or_true, Bool.true_or, Bool.or_false, Bool.false_or, Bool.and_true, Bool.true_and, Bool.and_false, Bool.false_and, Bool.and_self, Bool.not_true, Bool.not_false, List.cons_append, List.nil_append, List.append_nil, if_true, if_false, Bool.false_eq_true, keysH]; done)) (fun j hj => rfl) (by first | rfl | exact purL_map _ _ (fun _ => rfl) | (simp only [go_sem, Nat.reduceAdd, Nat.reduceMul, reduceIte, Nat.reduceEqDiff, Nat.reduceLeDiff, Int.reduceToNat, Int.reducePow, Int.reduceBEq, Int.reduceBNe, Int.reduceLT, Int.reduceLE, decide_true, decide_false, Nat.reduceBEq, Bool.or_self, Bool.or_true, Bool.true_or, Bool.or_false, Bool.false_or, Bool.and_true, Bool.true_and, Bool.and_false, Bool.false_and, Bool.and_self, Bool.not_true, Bool.not_false, List.cons_append, List.nil_append, List.append_nil, if_true, if_false, Bool.false_eq_true, keysH]; done)) ⟨rfl, rfl⟩)
theorem nd_cells (N : List Nd) : (N.map Nd.av).flatMap AV.cells = ndsC N := by
  rw [List.flatMap_map]; rfl
theorem path_pc {t : Task} {N : List Nd} (h : NdI t N) (k : Nat) (hk : k < N.length) (hN : N.length ≤ 1000000) : PCall Try.prog 66 [.isl 4 48 (N.map Nd.av), .int k] (fun r => r = ints (pathN N k)) := by
  have hbl := h.bkLen hk
  (refine enterS Try.func66 Try.ntmps66 ?_)
  (repeat' (first | (refine hK _ ?_; clear hK K) | (refine aw_seq (fun K hK => ?_)) | (refine gRx 2 (by rfl) ?_; refine regS ?_) | (refine stk_op (fun K hK => ?_); (first | (refine aop_pv (pv_fieldAddrF (by rfl) (by rfl) (by first | decide | (simp; done) | (simp; omega))) ?_) | (refine aop_pv (pv_fieldAddrIF (by rfl) (by rfl) (by first | decide | (simp; done) | (simp; omega))) ?_) | (refine appendS ?_) | (refine virtS 17 24 1 8 3 ?_; refine appendS ?_))) | (refine gE ?_; (first | (refine exN ?_) | (refine exS (fun _ => ?_)))) | (refine gQ ?_; (first | (refine condT ?_) | (refine condF ?_) | (refine condS (fun hc => ?_) (fun hc => ?_) <;> (try (first | contradiction | (exfalso; omega)))))) | (refine gW ?_; refine wopsS ?_) | (refine aw_block ?_) | (refine gX ?_; refine exitS ?_) | (refine gT ?_; refine retS ?_) | (refine gS ?_; refine skipS ?_) | (apply_assumption (exfalso := false) (symm := false))))
  (refine awVirt 5 300 1 8 3 ?_)
  refine aw_loop_at [1, 5, 6, 7, 8, 9, 10, 11, 12, 13, 14, 15, 16, 17, 18, 19, 20, 21, 22, 23, 24] (fun q : Nat × List Int => q.1 < N.length ∧ q.2 ++ bkL N (q.1 + 1) q.1 = bkL N (k + 1) k) (fun q => q.1) (fun q => [(1, .int q.1), (5, .sl 1 8 300 0 q.2.length)])
    (fun q => [(300, ⟨3, q.2.map AV.int, false⟩)]) (k, []) ⟨hk, rfl⟩ ?_ ?_
  · (refine atS ?_)
    (exact weakS)
  · rintro ⟨j, l⟩ ⟨hj, hb⟩ K hK
    simp only at hj hb
    (refine atS ?_)
    have hlb : l.length ≤ k := by
      rw [← hb, List.length_append] at hbl
      omega
    rcases Nat.eq_zero_or_pos j with rfl | h0
    · have hp := h.z3
      rw [getBang hj] at hp
      have hrv := reverse_wc l 300 false rfl (by omega)
      
      rw [h.bk0, List.append_nil] at hb
      (repeat' (first | (refine hK _ ?_; clear hK K) | (refine aw_seq (fun K hK => ?_)) | (refine gR ?_; refine regS ?_) | (refine stk_op (fun K hK => ?_); (first | (refine aop_pv (pv_fieldAddrF (by rfl) (by rfl) (by first | decide | (simp; done) | (simp; omega))) ?_) | (refine aop_pv (pv_fieldAddrIF (by rfl) (by rfl) (by first | decide | (simp; done) | (simp; omega))) ?_) | (refine appendS ?_) | (refine virtS 17 24 1 8 3 ?_; refine appendS ?_) | (refine aop_callW (hT := by exact of_decide_eq_true rfl) (d := some 26) (hrv) (by rfl) (fun x bk hx => ?_); obtain ⟨rfl, rfl⟩ := hx; simp only [Nat.reduceBEq, Bool.or_true, Bool.or_false, Bool.false_or, Bool.true_or, go_sem, Nat.reduceAdd, Nat.reduceMul, reduceIte, Nat.reduceEqDiff, Nat.reduceLeDiff, Int.reduceToNat, Int.reducePow, Int.reduceBEq, Int.reduceBNe, Int.reduceLT, Int.reduceLE, decide_true, decide_false]))) | (refine gE ?_; (first | (refine exN ?_) | (refine exS (fun _ => ?_)))) | (refine gQ ?_; (first | (refine condT ?_) | (refine condF ?_) | (refine condS (fun hc => ?_) (fun hc => ?_) <;> (try (first | contradiction | (exfalso; omega)))))) | (refine gW ?_; refine wopsS ?_) | (refine aw_block ?_) | (refine gX ?_; refine exitS ?_) | (refine gT ?_; refine retS ?_) | (refine gS ?_; refine skipS ?_) | (apply_assumption (exfalso := false) (symm := false))))
      refine fin_sl1 (f := AV.int) l.reverse rfl (by rfl) (by rfl) (by simp) (fun _ => rfl) (fun _ => rfl) (by rw [hb]; rfl)
    · obtain ⟨p, q, hp, h1, h2, _⟩ := h.step j h0 hj
      have hs := h.bkS h0 hj
      rw [h1, h2, Int.toNat_natCast] at hs
      rw [hs] at hb
      rw [getBang hj] at h1 h2
      (repeat' (first | (refine hK _ ?_; clear hK K) | (refine aw_seq (fun K hK => ?_)) | (refine gR ?_; refine regS ?_) | (refine stk_op (fun K hK => ?_); (first | (refine aop_pv (pv_fieldAddrF (by rfl) (by rfl) (by first | decide | (simp; done) | (simp; omega))) ?_) | (refine aop_pv (pv_fieldAddrIF (by rfl) (by rfl) (by first | decide | (simp; done) | (simp; omega))) ?_) | (refine appendS ?_) | (refine virtS 17 24 1 8 3 ?_; refine appendS ?_) | (refine aop_callW (hT := by exact of_decide_eq_true rfl) (d := some 26) (hrv) (by rfl) (fun x bk hx => ?_); obtain ⟨rfl, rfl⟩ := hx; simp only [Nat.reduceBEq, Bool.or_true, Bool.or_false, Bool.false_or, Bool.true_or, go_sem, Nat.reduceAdd, Nat.reduceMul, reduceIte, Nat.reduceEqDiff, Nat.reduceLeDiff, Int.reduceToNat, Int.reducePow, Int.reduceBEq, Int.reduceBNe, Int.reduceLT, Int.reduceLE, decide_true, decide_false]))) | (refine gE ?_; (first | (refine exN ?_) | (refine exS (fun _ => ?_)))) | (refine gQ ?_; (first | (refine condT ?_) | (refine condF ?_) | (refine condS (fun hc => ?_) (fun hc => ?_) <;> (try (first | contradiction | (exfalso; omega)))))) | (refine gW ?_; refine wopsS ?_) | (refine aw_block ?_) | (refine gX ?_; refine exitS ?_) | (refine gT ?_; refine retS ?_) | (refine gS ?_; refine skipS ?_) | (apply_assumption (exfalso := false) (symm := false))))
      refine ⟨(p, l ++ [(q : Int)]), ⟨by simp only; omega, by simp only [List.append_assoc]; exact hb⟩, by simp only; omega, ?_⟩
      simp only [h1, h2]
      (refine atS ?_)
      (exact weakS)
end Go.Proofs.Ythdlckclpmfidaa
