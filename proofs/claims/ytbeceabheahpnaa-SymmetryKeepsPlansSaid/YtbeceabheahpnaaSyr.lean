import Derived.Test.YtbeceabheahpnaaSyp


namespace Go.Proofs.Ytbeceabheahpnaa
open Go.Ab
open Go
set_option linter.unusedSimpArgs false
set_option linter.unusedVariables false
set_option maxRecDepth 10000
attribute [local irreducible] PV AOp AOps AW PCall OCall MCall WCall HCall Ab.Fin OFin OFin2 MFin HFin RV RV1 Le AStk AGrd ADr ADx ADo AOpX AAny AOpsI wops wdr wgd wdt
set_option maxHeartbeats 4000000
/-! the reference: images and permutations -/
@[local go_sem] theorem purge_appR (id : Nat) (a b : List AV) : AV.purgeL id (a ++ b) = AV.purgeL id a ++ AV.purgeL id b := purgeL_append id a b
abbrev rows (ls : List (List Int)) : AV := .isl 1 24 (ls.map ints)
def imgQ (perm s : List Int) (q k : Nat) : List Int := ((List.range k).filter fun (p : Nat) => decide (perm[p]! = (q : Int)) && hasB s (p : Int)).map fun _ => (q : Int)
def imgR (perm s : List Int) (q : Nat) : List Int := (List.range q).flatMap fun q => imgQ perm s q perm.length
theorem imgQ_zero (perm s : List Int) (q : Nat) : imgQ perm s q 0 = [] := rfl
theorem imgQ_yes {perm s : List Int} {q k : Nat} (h1 : perm[k]! = (q : Int)) (h2 : hasB s (k : Int) = true) : imgQ perm s q (k + 1) = imgQ perm s q k ++ [(q : Int)] := by
  unfold imgQ
  rw [List.range_succ, List.filter_append, List.map_append]
  simp [h2, ← h1]
theorem imgQ_no {perm s : List Int} {q k : Nat} (h : ¬ (perm[k]! = (q : Int) ∧ hasB s (k : Int) = true)) : imgQ perm s q (k + 1) = imgQ perm s q k := by
  unfold imgQ
  rw [List.range_succ, List.filter_append, List.map_append, List.filter_cons_of_neg (by rw [Bool.and_eq_true, decide_eq_true_eq]; exact h)]
  simp
theorem imgQ_len {perm s : List Int} {q k : Nat} : (imgQ perm s q k).length ≤ k := by
  unfold imgQ
  rw [List.length_map]
  have := List.length_filter_le (fun p : Nat => decide (perm[p]! = (q : Int)) && hasB s (p : Int)) (List.range k)
  rw [List.length_range] at this
  exact this
theorem imgR_zero (perm s : List Int) : imgR perm s 0 = [] := rfl
theorem imgR_succ (perm s : List Int) (q : Nat) : imgR perm s (q + 1) = imgR perm s q ++ imgQ perm s q perm.length := by simp [imgR, List.range_succ, List.flatMap_append]
theorem imgR_len {perm s : List Int} (h : perm.length ≤ 24) : ∀ q, (imgR perm s q).length ≤ 24 * q
  | 0 => by simp [imgR]
  | q + 1 => by
    have := imgR_len (s := s) h q
    have := imgQ_len (perm := perm) (s := s) (q := q) (k := perm.length)
    rw [imgR_succ, List.length_append]; omega
theorem filter_eq_one {n p0 : Nat} (h : p0 < n) : (List.range n).filter (fun p => p == p0) = [p0] := by
  rw [List.filter_beq]
  have h1 := count_le_one (List.nodup_range (n := n)) p0
  have h2 := List.count_pos_iff.2 (List.mem_range.2 h)
  rw [show (List.range n).count p0 = 1 by omega]
  rfl
theorem imgQ_eq {n : Nat} {perm s : List Int} (hp : PermP n perm) (hs : isSet s n = true) {q : Nat} (hq : q < n) : imgQ perm s q n = if hasB (imgF perm s) (q : Int) then [(q : Int)] else [] := by
  obtain ⟨p0, h0, he⟩ := hp.onto (q := (q : Int)) (by omega) (by omega)
  have hm : ((q : Int) ∈ imgF perm s) ↔ (p0 : Int) ∈ s := by rw [← he]; exact imgF_at hp hs (p := p0) (by omega) (by omega)
  unfold imgQ
  rw [show (List.range n).filter (fun (p : Nat) => decide (perm[p]! = (q : Int)) && hasB s (p : Int)) = ((List.range n).filter (fun (p : Nat) => p == p0)).filter (fun (p : Nat) => hasB s (p : Int)) by
    rw [List.filter_filter]
    refine List.filter_congr fun p hpn => ?_
    rw [List.mem_range] at hpn
    rw [Bool.eq_iff_iff, Bool.and_eq_true, Bool.and_eq_true, decide_eq_true_eq, beq_iff_eq, and_comm]
    refine and_congr Iff.rfl ⟨fun h => hp.inj hpn h0 (by rw [h, he]), fun h => by rw [h, he]⟩]
  rw [filter_eq_one h0]
  by_cases hs0 : (p0 : Int) ∈ s
  · rw [List.filter_cons_of_pos (by simpa [hasB] using hs0), if_pos (by simpa [hasB] using hm.2 hs0)]; rfl
  · rw [List.filter_cons_of_neg (by simpa [hasB] using hs0), if_neg (by simpa [hasB] using fun h => hs0 (hm.1 h))]; rfl
theorem imgR_eq {n : Nat} {perm s : List Int} (hp : PermP n perm) (hs : isSet s n = true) : imgR perm s n = imgF perm s := by
  have h1 : ∀ k, k ≤ n → imgR perm s k = (upTo k).filter (hasB (imgF perm s)) := by
    intro k
    induction k with
    | zero => intro _; rfl
    | succ k ih =>
      intro hk
      rw [imgR_succ, ih (by omega), hp.len, imgQ_eq hp hs (by omega), upTo_succ, List.filter_append]
      congr 1
      by_cases h : hasB (imgF perm s) (k : Int) = true
      · rw [if_pos h, List.filter_cons_of_pos h]; rfl
      · rw [if_neg h, List.filter_cons_of_neg h]; rfl
  rw [h1 n (Nat.le_refl _)]
  refine set_ext (filter_set _) (imgF_set hp hs) fun q => ?_
  rw [List.mem_filter, upTo_mem]
  constructor
  · intro h; simpa [hasB] using h.2
  · intro h; exact ⟨(isSet_iff.1 (imgF_set hp hs)).1 q h, by simpa [hasB] using h⟩
theorem imgR_pc (perm s : List Int) (hl : perm.length ≤ 24) : PCall Try.prog 20 [ints perm, ints s] (fun r => r = ints (imgR perm s perm.length)) := by
  (refine enterS Try.func20 Try.ntmps20 ?_)
  (repeat' (first | (refine hK _ ?_; clear hK K) | (refine aw_seq (fun K hK => ?_)) | (refine gR ?_; refine regS ?_) | (refine gC 31 ?_; refine callS (has_pc _ _) ?_) | (refine stk_op (fun K hK => ?_); (first | (refine aop_pv (pv_eql (by rfl) (by rfl)) ?_) | (refine aop_pv (pv_eqlB (by rfl) (by rfl)) ?_) | (refine aop_pv (pv_eqlA (by rfl) (by rfl) (by kernel_rfl)) ?_) | (refine appendS ?_) | (refine virtS 31 34 1 8 3 ?_; refine appendS ?_))) | (refine gE ?_; (first | (refine exN ?_) | (refine exS (fun _ => ?_)))) | (refine gG ?_; refine guardS (fun hc => ?_) (fun hc => ?_) <;> (try (first | contradiction | (exfalso; omega)))) | (refine gQ ?_; (first | (refine condT ?_) | (refine condF ?_) | (refine condS (fun hc => ?_) (fun hc => ?_) <;> (try (first | contradiction | (exfalso; omega)))))) | (refine gW ?_; refine wopsS ?_) | (refine aw_block ?_) | (refine gX ?_; refine exitS ?_) | (refine gT ?_; refine retS ?_) | (refine gS ?_; refine skipS ?_) | (apply_assumption (exfalso := false) (symm := false))))
  (refine awVirt 5 100 1 8 3 ?_)
  refine aw_loop_at [5, 6, 7, 8, 9, 10, 11, 12, 13, 14, 15, 16, 17, 18, 19, 20, 21, 22, 23, 24, 25, 26, 27, 28, 29, 30, 31, 32, 33, 34] (fun q : Nat => q ≤ perm.length) (fun q => perm.length - q) (fun q => [(6, .int q), (5, .sl 1 8 100 0 (imgR perm s q).length)]) (fun q => [(100, ⟨3, (imgR perm s q).map AV.int, false⟩)]) 0 (by omega) ?_ ?_
  · (refine atS ?_)
    (exact weakS)
  · rintro q hq K hK
    (refine atS ?_)
    have hrl := imgR_len (s := s) hl q
    by_cases hlt : q < perm.length
    · (repeat' (first | (refine hK _ ?_; clear hK K) | (refine aw_seq (fun K hK => ?_)) | (refine gR ?_; refine regS ?_) | (refine gC 31 ?_; refine callS (has_pc _ _) ?_) | (refine stk_op (fun K hK => ?_); (first | (refine aop_pv (pv_eql (by rfl) (by rfl)) ?_) | (refine aop_pv (pv_eqlB (by rfl) (by rfl)) ?_) | (refine aop_pv (pv_eqlA (by rfl) (by rfl) (by kernel_rfl)) ?_) | (refine appendS ?_) | (refine virtS 31 34 1 8 3 ?_; refine appendS ?_))) | (refine gE ?_; (first | (refine exN ?_) | (refine exS (fun _ => ?_)))) | (refine gG ?_; refine guardS (fun hc => ?_) (fun hc => ?_) <;> (try (first | contradiction | (exfalso; omega)))) | (refine gQ ?_; (first | (refine condT ?_) | (refine condF ?_) | (refine condS (fun hc => ?_) (fun hc => ?_) <;> (try (first | contradiction | (exfalso; omega)))))) | (refine gW ?_; refine wopsS ?_) | (refine aw_block ?_) | (refine gX ?_; refine exitS ?_) | (refine gT ?_; refine retS ?_) | (refine gS ?_; refine skipS ?_) | (apply_assumption (exfalso := false) (symm := false))))
      refine aw_loop_at [5, 7, 14, 15, 16, 17, 18, 19, 20, 21, 22, 23, 24, 25, 26, 27, 28, 29, 30, 31, 32, 33, 34] (fun p : Nat => p ≤ perm.length) (fun p => perm.length - p) (fun p => [(7, .int p), (5, .sl 1 8 100 0 (imgR perm s q ++ imgQ perm s q p).length)]) (fun p => [(100, ⟨3, (imgR perm s q ++ imgQ perm s q p).map AV.int, false⟩)]) 0 (by omega) ?_ ?_
      · rw [imgQ_zero, List.append_nil]
        (refine atS ?_)
        (exact weakS)
      · rintro p hp K hK
        (refine atS ?_)
        have hql := imgQ_len (perm := perm) (s := s) (q := q) (k := p)
        have hal : (imgR perm s q ++ imgQ perm s q p).length = (imgR perm s q).length + (imgQ perm s q p).length := List.length_append
        by_cases hpl : p < perm.length
        · have hg := getBang hpl
          by_cases hc1 : perm[p]! = (q : Int) ∧ hasB s (p : Int) = true
          · have hy := imgQ_yes hc1.1 hc1.2
            have hg1 : perm[p] = (q : Int) := by rw [← hg]; exact hc1.1
            have hb := hc1.2
            (repeat' (first | (refine hK _ ?_; clear hK K) | (refine aw_seq (fun K hK => ?_)) | (refine gR ?_; refine regS ?_) | (refine gC 31 ?_; refine callS (has_pc _ _) ?_) | (refine stk_op (fun K hK => ?_); (first | (refine aop_pv (pv_eql (by rfl) (by rfl)) ?_) | (refine aop_pv (pv_eqlB (by rfl) (by rfl)) ?_) | (refine aop_pv (pv_eqlA (by rfl) (by rfl) (by kernel_rfl)) ?_) | (refine appendS ?_) | (refine virtS 31 34 1 8 3 ?_; refine appendS ?_))) | (refine gE ?_; (first | (refine exN ?_) | (refine exS (fun _ => ?_)))) | (refine gG ?_; refine guardS (fun hc => ?_) (fun hc => ?_) <;> (try (first | contradiction | (exfalso; omega)))) | (refine gQ ?_; (first | (refine condT ?_) | (refine condF ?_) | (refine condS (fun hc => ?_) (fun hc => ?_) <;> (try (first | contradiction | (exfalso; omega)))))) | (refine gW ?_; refine wopsS ?_) | (refine aw_block ?_) | (refine gX ?_; refine exitS ?_) | (refine gT ?_; refine retS ?_) | (refine gS ?_; refine skipS ?_) | (apply_assumption (exfalso := false) (symm := false))))
            all_goals first
              | (exfalso; simp_all; done)
              | skip
            refine ⟨p + 1, by omega, by omega, ?_⟩
            rw [hy, ← List.append_assoc]
            (refine atS ?_)
            (exact weakS)
          · have hn := imgQ_no hc1
            rw [hg] at hc1
            (repeat' (first | (refine hK _ ?_; clear hK K) | (refine aw_seq (fun K hK => ?_)) | (refine gR ?_; refine regS ?_) | (refine gC 31 ?_; refine callS (has_pc _ _) ?_) | (refine stk_op (fun K hK => ?_); (first | (refine aop_pv (pv_eql (by rfl) (by rfl)) ?_) | (refine aop_pv (pv_eqlB (by rfl) (by rfl)) ?_) | (refine aop_pv (pv_eqlA (by rfl) (by rfl) (by kernel_rfl)) ?_) | (refine appendS ?_) | (refine virtS 31 34 1 8 3 ?_; refine appendS ?_))) | (refine gE ?_; (first | (refine exN ?_) | (refine exS (fun _ => ?_)))) | (refine gG ?_; refine guardS (fun hc => ?_) (fun hc => ?_) <;> (try (first | contradiction | (exfalso; omega)))) | (refine gQ ?_; (first | (refine condT ?_) | (refine condF ?_) | (refine condS (fun hc => ?_) (fun hc => ?_) <;> (try (first | contradiction | (exfalso; omega)))))) | (refine gW ?_; refine wopsS ?_) | (refine aw_block ?_) | (refine gX ?_; refine exitS ?_) | (refine gT ?_; refine retS ?_) | (refine gS ?_; refine skipS ?_) | (apply_assumption (exfalso := false) (symm := false))))
            all_goals first
              | (exfalso; simp_all; done)
              | (refine ⟨p + 1, by omega, by omega, ?_⟩; rw [hn]; (refine atS ?_); (exact weakS); done)
        · obtain rfl : p = perm.length := by omega
          (repeat' (first | (refine hK _ ?_; clear hK K) | (refine aw_seq (fun K hK => ?_)) | (refine gR ?_; refine regS ?_) | (refine gC 31 ?_; refine callS (has_pc _ _) ?_) | (refine stk_op (fun K hK => ?_); (first | (refine aop_pv (pv_eql (by rfl) (by rfl)) ?_) | (refine aop_pv (pv_eqlB (by rfl) (by rfl)) ?_) | (refine aop_pv (pv_eqlA (by rfl) (by rfl) (by kernel_rfl)) ?_) | (refine appendS ?_) | (refine virtS 31 34 1 8 3 ?_; refine appendS ?_))) | (refine gE ?_; (first | (refine exN ?_) | (refine exS (fun _ => ?_)))) | (refine gG ?_; refine guardS (fun hc => ?_) (fun hc => ?_) <;> (try (first | contradiction | (exfalso; omega)))) | (refine gQ ?_; (first | (refine condT ?_) | (refine condF ?_) | (refine condS (fun hc => ?_) (fun hc => ?_) <;> (try (first | contradiction | (exfalso; omega)))))) | (refine gW ?_; refine wopsS ?_) | (refine aw_block ?_) | (refine gX ?_; refine exitS ?_) | (refine gT ?_; refine retS ?_) | (refine gS ?_; refine skipS ?_) | (apply_assumption (exfalso := false) (symm := false))))
          refine ⟨q + 1, by omega, by omega, ?_⟩
          rw [imgR_succ]
          (refine atS ?_)
          (exact weakS)
    · obtain rfl : q = perm.length := by omega
      (repeat' (first | (refine hK _ ?_; clear hK K) | (refine aw_seq (fun K hK => ?_)) | (refine gR ?_; refine regS ?_) | (refine gC 31 ?_; refine callS (has_pc _ _) ?_) | (refine stk_op (fun K hK => ?_); (first | (refine aop_pv (pv_eql (by rfl) (by rfl)) ?_) | (refine aop_pv (pv_eqlB (by rfl) (by rfl)) ?_) | (refine aop_pv (pv_eqlA (by rfl) (by rfl) (by kernel_rfl)) ?_) | (refine appendS ?_) | (refine virtS 31 34 1 8 3 ?_; refine appendS ?_))) | (refine gE ?_; (first | (refine exN ?_) | (refine exS (fun _ => ?_)))) | (refine gG ?_; refine guardS (fun hc => ?_) (fun hc => ?_) <;> (try (first | contradiction | (exfalso; omega)))) | (refine gQ ?_; (first | (refine condT ?_) | (refine condF ?_) | (refine condS (fun hc => ?_) (fun hc => ?_) <;> (try (first | contradiction | (exfalso; omega)))))) | (refine gW ?_; refine wopsS ?_) | (refine aw_block ?_) | (refine gX ?_; refine exitS ?_) | (refine gT ?_; refine retS ?_) | (refine gS ?_; refine skipS ?_) | (apply_assumption (exfalso := false) (symm := false))))
      refine fin_sl1 (imgR perm s perm.length) rfl (by rfl) (by rfl) rfl (fun _ => rfl) (fun _ => rfl) rfl
def permB (n : Int) (l : List Int) : Bool := decide (∀ p, p < n.toNat → hasB l (p : Int) = true) && decide ((l.length : Int) = n)
theorem permB_iff {n : Nat} {l : List Int} : permB n l = true ↔ PermP n l := by
  unfold permB
  rw [Bool.and_eq_true, decide_eq_true_eq, decide_eq_true_eq, Int.toNat_natCast]
  constructor
  · rintro ⟨h1, h2⟩
    refine PermP.of_all (fun p h0 hp => ?_) (by omega)
    have := h1 p.toNat (by omega)
    rw [show ((p.toNat : Nat) : Int) = p by omega] at this
    simpa [hasB] using this
  · intro h
    exact ⟨fun p hp => by simpa [hasB] using h.mem.2 ⟨by omega, by omega⟩, by rw [h.len]⟩
theorem perm_pc (n : Int) (l : List Int) (h0 : 0 ≤ n) (h1 : n ≤ 1000) : PCall Try.prog 9 [.int n, ints l] (fun r => r = .bool (permB n l)) := by
  (refine enterS Try.func9 Try.ntmps9 ?_)
  (refine aw_bound (i := 1) rfl (fun hb => ?_); (try simp only [List.length_map] at hb))
  (repeat' (first | (refine hK _ ?_; clear hK K) | (refine aw_seq (fun K hK => ?_)) | (refine gR ?_; refine regS ?_) | (refine gC 31 ?_; refine callS (has_pc _ _) ?_) | (refine stk_op (fun K hK => ?_); (first | (refine aop_pv (pv_eql (by rfl) (by rfl)) ?_) | (refine aop_pv (pv_eqlB (by rfl) (by rfl)) ?_) | (refine aop_pv (pv_eqlA (by rfl) (by rfl) (by kernel_rfl)) ?_))) | (refine gE ?_; (first | (refine exN ?_) | (refine exS (fun _ => ?_)))) | (refine gQ ?_; (first | (refine condT ?_) | (refine condF ?_) | (refine condS (fun hc => ?_) (fun hc => ?_) <;> (try (first | contradiction | (exfalso; omega)))))) | (refine gW ?_; refine wopsS ?_) | (refine aw_block ?_) | (refine gX ?_; refine exitS ?_) | (refine gT ?_; refine retS ?_) | (refine gS ?_; refine skipS ?_) | (apply_assumption (exfalso := false) (symm := false))))
  refine aw_loop_at [4, 5, 6, 7, 8, 9, 10, 11, 12, 13, 14] (fun k : Nat => k ≤ n.toNat ∧ ∀ i : Nat, i < k → hasB l (i : Int) = true) (fun k => n.toNat - k) (fun k => [(5, .int k)]) (fun _ => []) 0 ⟨by omega, by omega⟩ ?_ ?_
  · (refine atS ?_)
    (exact weakS)
  · rintro k ⟨hk, hn⟩ K hK
    (refine atS ?_)
    by_cases hlt : (k : Int) < n
    · (repeat' (first | (refine hK _ ?_; clear hK K) | (refine aw_seq (fun K hK => ?_)) | (refine gR ?_; refine regS ?_) | (refine gC 31 ?_; refine callS (has_pc _ _) ?_) | (refine stk_op (fun K hK => ?_); (first | (refine aop_pv (pv_eql (by rfl) (by rfl)) ?_) | (refine aop_pv (pv_eqlB (by rfl) (by rfl)) ?_) | (refine aop_pv (pv_eqlA (by rfl) (by rfl) (by kernel_rfl)) ?_))) | (refine gE ?_; (first | (refine exN ?_) | (refine exS (fun _ => ?_)))) | (refine gQ ?_; (first | (refine condT ?_) | (refine condF ?_) | (refine condS (fun hc => ?_) (fun hc => ?_) <;> (try (first | contradiction | (exfalso; omega)))))) | (refine gW ?_; refine wopsS ?_) | (refine aw_block ?_) | (refine gX ?_; refine exitS ?_) | (refine gT ?_; refine retS ?_) | (refine gS ?_; refine skipS ?_) | (apply_assumption (exfalso := false) (symm := false))))
      · (refine fin_le (Le.refl _) (rv_one (rv1_tmp (by rfl))) (by first | rfl | (simp only [go_sem, Nat.reduceAdd, Nat.reduceMul, reduceIte, Nat.reduceEqDiff, Nat.reduceLeDiff, Int.reduceToNat, Int.reducePow, Int.reduceBEq, Int.reduceBNe, Int.reduceLT, Int.reduceLE, decide_true, decide_false])) ?_)
        have hx : hasB l (k : Int) = false := by assumption
        rw [show permB n l = false by unfold permB; rw [Bool.and_eq_false_iff]; exact .inl (decide_eq_false fun h => by have := h k (by omega); rw [hx] at this; cases this)]
      · have hx : hasB l (k : Int) = true := by assumption
        (refine ⟨k + 1, ⟨by omega, fun i hi => by
          rcases Nat.lt_or_ge i k with h' | h'
          · exact hn i h'
          · obtain rfl : i = k := by omega
            exact hx⟩, by omega, ?_⟩; (refine atS ?_); (exact weakS))
    · (repeat' (first | (refine hK _ ?_; clear hK K) | (refine aw_seq (fun K hK => ?_)) | (refine gR ?_; refine regS ?_) | (refine gC 31 ?_; refine callS (has_pc _ _) ?_) | (refine stk_op (fun K hK => ?_); (first | (refine aop_pv (pv_eql (by rfl) (by rfl)) ?_) | (refine aop_pv (pv_eqlB (by rfl) (by rfl)) ?_) | (refine aop_pv (pv_eqlA (by rfl) (by rfl) (by kernel_rfl)) ?_))) | (refine gE ?_; (first | (refine exN ?_) | (refine exS (fun _ => ?_)))) | (refine gQ ?_; (first | (refine condT ?_) | (refine condF ?_) | (refine condS (fun hc => ?_) (fun hc => ?_) <;> (try (first | contradiction | (exfalso; omega)))))) | (refine gW ?_; refine wopsS ?_) | (refine aw_block ?_) | (refine gX ?_; refine exitS ?_) | (refine gT ?_; refine retS ?_) | (refine gS ?_; refine skipS ?_) | (apply_assumption (exfalso := false) (symm := false))))
      (refine fin_le (Le.refl _) (rv_one (rv1_tmp (by rfl))) (by first | rfl | (simp only [go_sem, Nat.reduceAdd, Nat.reduceMul, reduceIte, Nat.reduceEqDiff, Nat.reduceLeDiff, Int.reduceToNat, Int.reducePow, Int.reduceBEq, Int.reduceBNe, Int.reduceLT, Int.reduceLE, decide_true, decide_false])) ?_)
      unfold permB
      rw [decide_eq_true (show ∀ p, p < n.toNat → hasB l (p : Int) = true from fun p hp => hn p (by omega)), Bool.true_and]
      rfl
/-! lists of lists -/
theorem lessL_pc (a b : List Int) : PCall Try.prog 21 [ints a, ints b] (fun r => r = .bool (lessB a b)) := by
  have key : ∀ (a b : List Int) (k : Nat), k ≤ a.length → k ≤ b.length → a.take k = b.take k → lessB a b = lessB (a.drop k) (b.drop k) := by
    intro a
    induction a with
    | nil => intro b k h1 h2 h; simp at h1; subst h1; rfl
    | cons x a ih =>
      intro b k h1 h2 h
      cases k with
      | zero => rfl
      | succ k =>
        cases b with
        | nil => simp at h2
        | cons y b =>
          simp only [List.take_succ_cons, List.cons.injEq] at h
          obtain ⟨rfl, h⟩ := h
          rw [lessB, if_pos rfl]
          exact ih b k (by simpa using h1) (by simpa using h2) h
  (refine enterS Try.func21 Try.ntmps21 ?_)
  (refine aw_bound (i := 0) rfl (fun hb0 => ?_); (try simp only [List.length_map] at hb0))
  (refine aw_bound (i := 1) rfl (fun hb1 => ?_); (try simp only [List.length_map] at hb1))
  (repeat' (first | (refine hK _ ?_; clear hK K) | (refine aw_seq (fun K hK => ?_)) | (refine gR ?_; refine regS ?_) | (refine gD 4 ?_; refine drS (.it 0 0 (.it 1 0 (.it 2 0 (.it 3 0 (.it 4 0 (.it 5 0 (.it 6 0 (.it 7 0 (.it 8 0 .nil))))))))) [0, 1, 2, 3, 4, 5, 6, 7, 8] ?_) | (refine gD 5 ?_; refine drS (.it 0 0 (.it 1 0 (.it 2 0 (.it 3 0 (.it 4 0 (.it 5 0 (.it 6 0 (.it 7 0 (.it 8 0 (.it 9 0 .nil)))))))))) [0, 1, 2, 3, 4, 5, 6, 7, 8, 9] ?_) | (refine adx_op (fun K hK => ?_); (first | (refine aopx_pv (pv_neq (by rfl) (by rfl)) ?_) | (refine aopx_pv (pv_neqB (by rfl) (by rfl)) ?_) | (refine aopx_pv (pv_neqA (by rfl) (by rfl) (by kernel_rfl)) ?_))) | (refine And.intro ?_ ?_) | (refine gDx ?_; refine adxS ?_) | (refine gE ?_; (first | (refine exN ?_) | (refine exS (fun _ => ?_)))) | (refine gG ?_; refine guardS (fun hc => ?_) (fun hc => ?_) <;> (try (first | contradiction | (exfalso; omega)))) | (refine gQ ?_; (first | (refine condT ?_) | (refine condF ?_) | (refine condS (fun hc => ?_) (fun hc => ?_) <;> (try (first | contradiction | (exfalso; omega)))))) | (refine gWd ?_; refine wdrS ?_) | (refine gW ?_; refine wopsS ?_) | (refine aw_block ?_) | (refine gX ?_; refine exitS ?_) | (refine gT ?_; refine retS ?_) | (refine gS ?_; refine skipS ?_) | (apply_assumption (exfalso := false) (symm := false))))
  refine aw_loop_at [4, 5, 6, 7, 8, 9, 10, 11, 12, 13, 14, 15, 16, 17, 18, 19, 20, 21, 22, 23, 24, 25, 26, 27, 28, 29, 30, 31, 32, 33, 34, 35] (fun k : Nat => k ≤ a.length ∧ k ≤ b.length ∧ a.take k = b.take k) (fun k => a.length - k) (fun k => [(5, .int k)]) (fun _ => []) 0 (by simp) ?_ ?_
  · (refine atS ?_)
    (exact weakS)
  · rintro k ⟨hk1, hk2, he⟩ K hK
    have hkey := key a b k hk1 hk2 he
    (refine atS ?_)
    by_cases hl1 : k < a.length
    · by_cases hl2 : k < b.length
      · rw [List.drop_eq_getElem_cons hl1, List.drop_eq_getElem_cons hl2, lessB] at hkey
        by_cases hab : a[k] = b[k]
        · (repeat' (first | (refine hK _ ?_; clear hK K) | (refine aw_seq (fun K hK => ?_)) | (refine gR ?_; refine regS ?_) | (refine gD 4 ?_; refine drS (.it 0 0 (.it 1 0 (.it 2 0 (.it 3 0 (.it 4 0 (.it 5 0 (.it 6 0 (.it 7 0 (.it 8 0 .nil))))))))) [0, 1, 2, 3, 4, 5, 6, 7, 8] ?_) | (refine gD 5 ?_; refine drS (.it 0 0 (.it 1 0 (.it 2 0 (.it 3 0 (.it 4 0 (.it 5 0 (.it 6 0 (.it 7 0 (.it 8 0 (.it 9 0 .nil)))))))))) [0, 1, 2, 3, 4, 5, 6, 7, 8, 9] ?_) | (refine adx_op (fun K hK => ?_); (first | (refine aopx_pv (pv_neq (by rfl) (by rfl)) ?_) | (refine aopx_pv (pv_neqB (by rfl) (by rfl)) ?_) | (refine aopx_pv (pv_neqA (by rfl) (by rfl) (by kernel_rfl)) ?_))) | (refine And.intro ?_ ?_) | (refine gDx ?_; refine adxS ?_) | (refine gE ?_; (first | (refine exN ?_) | (refine exS (fun _ => ?_)))) | (refine gG ?_; refine guardS (fun hc => ?_) (fun hc => ?_) <;> (try (first | contradiction | (exfalso; omega)))) | (refine gQ ?_; (first | (refine condT ?_) | (refine condF ?_) | (refine condS (fun hc => ?_) (fun hc => ?_) <;> (try (first | contradiction | (exfalso; omega)))))) | (refine gWd ?_; refine wdrS ?_) | (refine gW ?_; refine wopsS ?_) | (refine aw_block ?_) | (refine gX ?_; refine exitS ?_) | (refine gT ?_; refine retS ?_) | (refine gS ?_; refine skipS ?_) | (apply_assumption (exfalso := false) (symm := false))))
          refine ⟨k + 1, ⟨by omega, by omega, ?_⟩, by omega, ?_⟩
          · rw [List.take_succ_eq_append_getElem hl1, List.take_succ_eq_append_getElem hl2, he, hab]
          · (refine atS ?_)
            (exact weakS)
        · rw [if_neg hab] at hkey
          (repeat' (first | (refine hK _ ?_; clear hK K) | (refine aw_seq (fun K hK => ?_)) | (refine gR ?_; refine regS ?_) | (refine gD 4 ?_; refine drS (.it 0 0 (.it 1 0 (.it 2 0 (.it 3 0 (.it 4 0 (.it 5 0 (.it 6 0 (.it 7 0 (.it 8 0 .nil))))))))) [0, 1, 2, 3, 4, 5, 6, 7, 8] ?_) | (refine gD 5 ?_; refine drS (.it 0 0 (.it 1 0 (.it 2 0 (.it 3 0 (.it 4 0 (.it 5 0 (.it 6 0 (.it 7 0 (.it 8 0 (.it 9 0 .nil)))))))))) [0, 1, 2, 3, 4, 5, 6, 7, 8, 9] ?_) | (refine adx_op (fun K hK => ?_); (first | (refine aopx_pv (pv_neq (by rfl) (by rfl)) ?_) | (refine aopx_pv (pv_neqB (by rfl) (by rfl)) ?_) | (refine aopx_pv (pv_neqA (by rfl) (by rfl) (by kernel_rfl)) ?_))) | (refine And.intro ?_ ?_) | (refine gDx ?_; refine adxS ?_) | (refine gE ?_; (first | (refine exN ?_) | (refine exS (fun _ => ?_)))) | (refine gG ?_; refine guardS (fun hc => ?_) (fun hc => ?_) <;> (try (first | contradiction | (exfalso; omega)))) | (refine gQ ?_; (first | (refine condT ?_) | (refine condF ?_) | (refine condS (fun hc => ?_) (fun hc => ?_) <;> (try (first | contradiction | (exfalso; omega)))))) | (refine gWd ?_; refine wdrS ?_) | (refine gW ?_; refine wopsS ?_) | (refine aw_block ?_) | (refine gX ?_; refine exitS ?_) | (refine gT ?_; refine retS ?_) | (refine gS ?_; refine skipS ?_) | (apply_assumption (exfalso := false) (symm := false))))
          (refine fin_le (Le.refl _) (rv_one (rv1_tmp (by rfl))) (by first | rfl | (simp only [go_sem, Nat.reduceAdd, Nat.reduceMul, reduceIte, Nat.reduceEqDiff, Nat.reduceLeDiff, Int.reduceToNat, Int.reducePow, Int.reduceBEq, Int.reduceBNe, Int.reduceLT, Int.reduceLE, decide_true, decide_false])) ?_)
          rw [hkey]
      · rw [List.drop_eq_getElem_cons hl1, List.drop_of_length_le (show b.length ≤ k by omega)] at hkey
        (repeat' (first | (refine hK _ ?_; clear hK K) | (refine aw_seq (fun K hK => ?_)) | (refine gR ?_; refine regS ?_) | (refine gD 4 ?_; refine drS (.it 0 0 (.it 1 0 (.it 2 0 (.it 3 0 (.it 4 0 (.it 5 0 (.it 6 0 (.it 7 0 (.it 8 0 .nil))))))))) [0, 1, 2, 3, 4, 5, 6, 7, 8] ?_) | (refine gD 5 ?_; refine drS (.it 0 0 (.it 1 0 (.it 2 0 (.it 3 0 (.it 4 0 (.it 5 0 (.it 6 0 (.it 7 0 (.it 8 0 (.it 9 0 .nil)))))))))) [0, 1, 2, 3, 4, 5, 6, 7, 8, 9] ?_) | (refine adx_op (fun K hK => ?_); (first | (refine aopx_pv (pv_neq (by rfl) (by rfl)) ?_) | (refine aopx_pv (pv_neqB (by rfl) (by rfl)) ?_) | (refine aopx_pv (pv_neqA (by rfl) (by rfl) (by kernel_rfl)) ?_))) | (refine And.intro ?_ ?_) | (refine gDx ?_; refine adxS ?_) | (refine gE ?_; (first | (refine exN ?_) | (refine exS (fun _ => ?_)))) | (refine gG ?_; refine guardS (fun hc => ?_) (fun hc => ?_) <;> (try (first | contradiction | (exfalso; omega)))) | (refine gQ ?_; (first | (refine condT ?_) | (refine condF ?_) | (refine condS (fun hc => ?_) (fun hc => ?_) <;> (try (first | contradiction | (exfalso; omega)))))) | (refine gWd ?_; refine wdrS ?_) | (refine gW ?_; refine wopsS ?_) | (refine aw_block ?_) | (refine gX ?_; refine exitS ?_) | (refine gT ?_; refine retS ?_) | (refine gS ?_; refine skipS ?_) | (apply_assumption (exfalso := false) (symm := false))))
        (refine fin_le (Le.refl _) (rv_one (rv1_tmp (by rfl))) (by first | rfl | (simp only [go_sem, Nat.reduceAdd, Nat.reduceMul, reduceIte, Nat.reduceEqDiff, Nat.reduceLeDiff, Int.reduceToNat, Int.reducePow, Int.reduceBEq, Int.reduceBNe, Int.reduceLT, Int.reduceLE, decide_true, decide_false])) ?_)
        rw [hkey, decide_eq_false (by omega)]
        rfl
    · rw [List.drop_of_length_le (show a.length ≤ k by omega)] at hkey
      (repeat' (first | (refine hK _ ?_; clear hK K) | (refine aw_seq (fun K hK => ?_)) | (refine gR ?_; refine regS ?_) | (refine gD 4 ?_; refine drS (.it 0 0 (.it 1 0 (.it 2 0 (.it 3 0 (.it 4 0 (.it 5 0 (.it 6 0 (.it 7 0 (.it 8 0 .nil))))))))) [0, 1, 2, 3, 4, 5, 6, 7, 8] ?_) | (refine gD 5 ?_; refine drS (.it 0 0 (.it 1 0 (.it 2 0 (.it 3 0 (.it 4 0 (.it 5 0 (.it 6 0 (.it 7 0 (.it 8 0 (.it 9 0 .nil)))))))))) [0, 1, 2, 3, 4, 5, 6, 7, 8, 9] ?_) | (refine adx_op (fun K hK => ?_); (first | (refine aopx_pv (pv_neq (by rfl) (by rfl)) ?_) | (refine aopx_pv (pv_neqB (by rfl) (by rfl)) ?_) | (refine aopx_pv (pv_neqA (by rfl) (by rfl) (by kernel_rfl)) ?_))) | (refine And.intro ?_ ?_) | (refine gDx ?_; refine adxS ?_) | (refine gE ?_; (first | (refine exN ?_) | (refine exS (fun _ => ?_)))) | (refine gG ?_; refine guardS (fun hc => ?_) (fun hc => ?_) <;> (try (first | contradiction | (exfalso; omega)))) | (refine gQ ?_; (first | (refine condT ?_) | (refine condF ?_) | (refine condS (fun hc => ?_) (fun hc => ?_) <;> (try (first | contradiction | (exfalso; omega)))))) | (refine gWd ?_; refine wdrS ?_) | (refine gW ?_; refine wopsS ?_) | (refine aw_block ?_) | (refine gX ?_; refine exitS ?_) | (refine gT ?_; refine retS ?_) | (refine gS ?_; refine skipS ?_) | (apply_assumption (exfalso := false) (symm := false))))
      (refine fin_le (Le.refl _) (rv_one (rv1_tmp (by rfl))) (by first | rfl | (simp only [go_sem, Nat.reduceAdd, Nat.reduceMul, reduceIte, Nat.reduceEqDiff, Nat.reduceLeDiff, Int.reduceToNat, Int.reducePow, Int.reduceBEq, Int.reduceBNe, Int.reduceLT, Int.reduceLE, decide_true, decide_false])) ?_)
      rw [hkey]
      by_cases hl2 : k < b.length
      · rw [List.drop_eq_getElem_cons hl2, decide_eq_true (by omega)]
        rfl
      · rw [List.drop_of_length_le (show b.length ≤ k by omega), decide_eq_false (by omega)]
        rfl
theorem lists_pc (a b : List (List Int)) : PCall Try.prog 19 [rows a, rows b] (fun r => r = .bool (decide (a = b))) := by
  (refine enterS Try.func19 Try.ntmps19 ?_)
  (refine aw_bound (i := 0) rfl (fun hb0 => ?_); (try simp only [List.length_map] at hb0))
  (refine aw_bound (i := 1) rfl (fun hb1 => ?_); (try simp only [List.length_map] at hb1))
  (repeat' (first | (refine hK _ ?_; clear hK K) | (refine aw_seq (fun K hK => ?_)) | (refine gR ?_; refine regS ?_) | (refine gD 6 ?_; refine drS (.it 0 0 (.it 1 0 (.it 2 0 (.it 3 0 (.it 4 0 (.it 5 0 (.it 6 0 (.it 7 0 (.it 8 1 (.it 9 0 .nil)))))))))) [0, 1, 2, 3, 4, 5, 6, 7, 9] ?_) | (refine gCd 14 ?_; refine callD (ints_pc _ _) ?_) | (refine stk_op (fun K hK => ?_); (first | (refine aop_pv (pv_neq (by rfl) (by rfl)) ?_) | (refine aop_pv (pv_neqB (by rfl) (by rfl)) ?_) | (refine aop_pv (pv_neqA (by rfl) (by rfl) (by kernel_rfl)) ?_))) | (refine And.intro ?_ ?_) | (refine gDx ?_; refine adxS ?_) | (refine gE ?_; (first | (refine exN ?_) | (refine exS (fun _ => ?_)))) | (refine gQ ?_; (first | (refine condT ?_) | (refine condF ?_) | (refine condS (fun hc => ?_) (fun hc => ?_) <;> (try (first | contradiction | (exfalso; omega)))))) | (refine gWd ?_; refine wdrS ?_) | (refine gW ?_; refine wopsS ?_) | (refine aw_block ?_) | (refine gX ?_; refine exitS ?_) | (refine gT ?_; refine retS ?_) | (refine gS ?_; refine skipS ?_) | (apply_assumption (exfalso := false) (symm := false))))
  · (refine fin_le (Le.refl _) (rv_one (rv1_tmp (by rfl))) (by first | rfl | (simp only [go_sem, Nat.reduceAdd, Nat.reduceMul, reduceIte, Nat.reduceEqDiff, Nat.reduceLeDiff, Int.reduceToNat, Int.reducePow, Int.reduceBEq, Int.reduceBNe, Int.reduceLT, Int.reduceLE, decide_true, decide_false])) ?_)
    rw [decide_eq_false (by rintro rfl; omega)]
  refine aw_loop_at [4, 5, 11, 12, 13, 14, 15, 16, 17, 18, 19, 20, 21, 22, 23, 24, 25, 26] (fun k : Nat => k ≤ a.length ∧ a.take k = b.take k) (fun k => a.length - k) (fun k => [(5, .int k)]) (fun _ => []) 0 ⟨by omega, by simp⟩ ?_ ?_
  · (refine atS ?_)
    (exact weakS)
  · rintro k ⟨hk, hn⟩ K hK
    (refine atS ?_)
    by_cases hlt : k < a.length
    · have hlb : k < b.length := by omega
      (repeat' (first | (refine hK _ ?_; clear hK K) | (refine aw_seq (fun K hK => ?_)) | (refine gR ?_; refine regS ?_) | (refine gD 6 ?_; refine drS (.it 0 0 (.it 1 0 (.it 2 0 (.it 3 0 (.it 4 0 (.it 5 0 (.it 6 0 (.it 7 0 (.it 8 1 (.it 9 0 .nil)))))))))) [0, 1, 2, 3, 4, 5, 6, 7, 9] ?_) | (refine gCd 14 ?_; refine callD (ints_pc _ _) ?_) | (refine stk_op (fun K hK => ?_); (first | (refine aop_pv (pv_neq (by rfl) (by rfl)) ?_) | (refine aop_pv (pv_neqB (by rfl) (by rfl)) ?_) | (refine aop_pv (pv_neqA (by rfl) (by rfl) (by kernel_rfl)) ?_))) | (refine And.intro ?_ ?_) | (refine gDx ?_; refine adxS ?_) | (refine gE ?_; (first | (refine exN ?_) | (refine exS (fun _ => ?_)))) | (refine gQ ?_; (first | (refine condT ?_) | (refine condF ?_) | (refine condS (fun hc => ?_) (fun hc => ?_) <;> (try (first | contradiction | (exfalso; omega)))))) | (refine gWd ?_; refine wdrS ?_) | (refine gW ?_; refine wopsS ?_) | (refine aw_block ?_) | (refine gX ?_; refine exitS ?_) | (refine gT ?_; refine retS ?_) | (refine gS ?_; refine skipS ?_) | (apply_assumption (exfalso := false) (symm := false))))
      · (refine fin_le (Le.refl _) (rv_one (rv1_tmp (by rfl))) (by first | rfl | (simp only [go_sem, Nat.reduceAdd, Nat.reduceMul, reduceIte, Nat.reduceEqDiff, Nat.reduceLeDiff, Int.reduceToNat, Int.reducePow, Int.reduceBEq, Int.reduceBNe, Int.reduceLT, Int.reduceLE, decide_true, decide_false])) ?_)
        rw [decide_eq_false]
        rintro rfl
        simp_all
      · have hc2 : a[k] = b[k] := by simp_all
        (refine ⟨k + 1, ⟨by omega, by rw [List.take_succ_eq_append_getElem hlt, List.take_succ_eq_append_getElem hlb, hn, hc2]⟩, by omega, ?_⟩; (refine atS ?_); (exact weakS))
    · (repeat' (first | (refine hK _ ?_; clear hK K) | (refine aw_seq (fun K hK => ?_)) | (refine gR ?_; refine regS ?_) | (refine gD 6 ?_; refine drS (.it 0 0 (.it 1 0 (.it 2 0 (.it 3 0 (.it 4 0 (.it 5 0 (.it 6 0 (.it 7 0 (.it 8 1 (.it 9 0 .nil)))))))))) [0, 1, 2, 3, 4, 5, 6, 7, 9] ?_) | (refine gCd 14 ?_; refine callD (ints_pc _ _) ?_) | (refine stk_op (fun K hK => ?_); (first | (refine aop_pv (pv_neq (by rfl) (by rfl)) ?_) | (refine aop_pv (pv_neqB (by rfl) (by rfl)) ?_) | (refine aop_pv (pv_neqA (by rfl) (by rfl) (by kernel_rfl)) ?_))) | (refine And.intro ?_ ?_) | (refine gDx ?_; refine adxS ?_) | (refine gE ?_; (first | (refine exN ?_) | (refine exS (fun _ => ?_)))) | (refine gQ ?_; (first | (refine condT ?_) | (refine condF ?_) | (refine condS (fun hc => ?_) (fun hc => ?_) <;> (try (first | contradiction | (exfalso; omega)))))) | (refine gWd ?_; refine wdrS ?_) | (refine gW ?_; refine wopsS ?_) | (refine aw_block ?_) | (refine gX ?_; refine exitS ?_) | (refine gT ?_; refine retS ?_) | (refine gS ?_; refine skipS ?_) | (apply_assumption (exfalso := false) (symm := false))))
      (refine fin_le (Le.refl _) (rv_one (rv1_tmp (by rfl))) (by first | rfl | (simp only [go_sem, Nat.reduceAdd, Nat.reduceMul, reduceIte, Nat.reduceEqDiff, Nat.reduceLeDiff, Int.reduceToNat, Int.reducePow, Int.reduceBEq, Int.reduceBNe, Int.reduceLT, Int.reduceLE, decide_true, decide_false])) ?_)
      rw [List.take_of_length_le (by omega), List.take_of_length_le (by omega)] at hn
      rw [hn]; simp
theorem place_pc (l : List (List Int)) (s : List Int) : PCall Try.prog 24 [rows l, ints s] (fun r => ∃ z, r = .int z ∧ (0 ≤ z ↔ s ∈ l)) := by
  (refine enterS Try.func24 Try.ntmps24 ?_)
  (refine aw_bound (i := 0) rfl (fun hb0 => ?_); (try simp only [List.length_map] at hb0))
  (repeat' (first | (refine hK _ ?_; clear hK K) | (refine aw_seq (fun K hK => ?_)) | (refine gR ?_; refine regS ?_) | (refine gC 14 ?_; refine callS (ints_pc _ _) ?_) | (refine gE ?_; (first | (refine exN ?_) | (refine exS (fun _ => ?_)))) | (refine gQ ?_; (first | (refine condT ?_) | (refine condF ?_) | (refine condS (fun hc => ?_) (fun hc => ?_) <;> (try (first | contradiction | (exfalso; omega)))))) | (refine gW ?_; refine wopsS ?_) | (refine aw_block ?_) | (refine gX ?_; refine exitS ?_) | (refine gT ?_; refine retS ?_) | (refine gS ?_; refine skipS ?_) | (apply_assumption (exfalso := false) (symm := false))))
  refine aw_loop_at [4, 5, 6, 7, 8, 9, 10, 11, 12, 13, 14, 15, 16, 17, 18] (fun k : Nat => k ≤ l.length ∧ ∀ i (hi : i < l.length), i < k → l[i] ≠ s) (fun k => l.length - k) (fun k => [(5, .int k)]) (fun _ => []) 0 ⟨by omega, by omega⟩ ?_ ?_
  · (refine atS ?_)
    (exact weakS)
  · rintro k ⟨hk, hn⟩ K hK
    (refine atS ?_)
    by_cases hlt : k < l.length
    · (repeat' (first | (refine hK _ ?_; clear hK K) | (refine aw_seq (fun K hK => ?_)) | (refine gR ?_; refine regS ?_) | (refine gC 14 ?_; refine callS (ints_pc _ _) ?_) | (refine gE ?_; (first | (refine exN ?_) | (refine exS (fun _ => ?_)))) | (refine gQ ?_; (first | (refine condT ?_) | (refine condF ?_) | (refine condS (fun hc => ?_) (fun hc => ?_) <;> (try (first | contradiction | (exfalso; omega)))))) | (refine gW ?_; refine wopsS ?_) | (refine aw_block ?_) | (refine gX ?_; refine exitS ?_) | (refine gT ?_; refine retS ?_) | (refine gS ?_; refine skipS ?_) | (apply_assumption (exfalso := false) (symm := false))))
      · (refine fin_le (Le.refl _) (rv_one (rv1_tmp (by rfl))) (by first | rfl | (simp only [go_sem, Nat.reduceAdd, Nat.reduceMul, reduceIte, Nat.reduceEqDiff, Nat.reduceLeDiff, Int.reduceToNat, Int.reducePow, Int.reduceBEq, Int.reduceBNe, Int.reduceLT, Int.reduceLE, decide_true, decide_false])) ?_)
        refine ⟨k, rfl, fun _ => ?_, fun _ => by omega⟩
        rw [← show l[k] = s by assumption]
        exact List.getElem_mem _
      · refine ⟨k + 1, ⟨by omega, fun i hi hik => ?_⟩, by omega, ?_⟩
        · rcases Nat.lt_or_ge i k with h' | h'
          · exact hn i hi h'
          · obtain rfl : i = k := by omega
            assumption
        · (refine atS ?_)
          (exact weakS)
    · obtain rfl : k = l.length := by omega
      (repeat' (first | (refine hK _ ?_; clear hK K) | (refine aw_seq (fun K hK => ?_)) | (refine gR ?_; refine regS ?_) | (refine gC 14 ?_; refine callS (ints_pc _ _) ?_) | (refine gE ?_; (first | (refine exN ?_) | (refine exS (fun _ => ?_)))) | (refine gQ ?_; (first | (refine condT ?_) | (refine condF ?_) | (refine condS (fun hc => ?_) (fun hc => ?_) <;> (try (first | contradiction | (exfalso; omega)))))) | (refine gW ?_; refine wopsS ?_) | (refine aw_block ?_) | (refine gX ?_; refine exitS ?_) | (refine gT ?_; refine retS ?_) | (refine gS ?_; refine skipS ?_) | (apply_assumption (exfalso := false) (symm := false))))
      (refine fin_le (Le.refl _) (rv_one (rv1_tmp (by rfl))) (by first | rfl | (simp only [go_sem, Nat.reduceAdd, Nat.reduceMul, reduceIte, Nat.reduceEqDiff, Nat.reduceLeDiff, Int.reduceToNat, Int.reducePow, Int.reduceBEq, Int.reduceBNe, Int.reduceLT, Int.reduceLE, decide_true, decide_false])) ?_)
      refine ⟨-1, rfl, fun h => by omega, fun h => ?_⟩
      obtain ⟨i, hi, he⟩ := List.getElem_of_mem h
      exact absurd he (hn i hi hi)
theorem dedupU_pc (l : List Int) (n : Nat) (h : n ≤ 1000) : PCall Try.prog 22 [ints l, .int (n : Int)] (fun r => r = ints ((upTo n).filter (hasB l))) := by
  have hlen : ∀ k, ((upTo k).filter (hasB l)).length ≤ k := fun k => by
    have := List.length_filter_le (hasB l) (upTo k)
    rw [upTo_length] at this
    exact this
  have hy : ∀ k : Nat, hasB l (k : Int) = true → (upTo (k + 1)).filter (hasB l) = (upTo k).filter (hasB l) ++ [(k : Int)] := fun k h => by
    rw [upTo_succ, List.filter_append, List.filter_cons_of_pos h]; rfl
  have hn : ∀ k : Nat, hasB l (k : Int) = false → (upTo (k + 1)).filter (hasB l) = (upTo k).filter (hasB l) := fun k h => by
    rw [upTo_succ, List.filter_append, List.filter_cons_of_neg (by simp [h])]; simp
  have hz : (upTo 0).filter (hasB l) = [] := rfl
  generalize hfdef : (fun k => (upTo k).filter (hasB l)) = f at *
  have hfe : ∀ k, (upTo k).filter (hasB l) = f k := fun k => by rw [← hfdef]
  simp only [hfe] at *
  (refine enterS Try.func22 Try.ntmps22 ?_)
  (repeat' (first | (refine hK _ ?_; clear hK K) | (refine aw_seq (fun K hK => ?_)) | (refine gR ?_; refine regS ?_) | (refine gC 31 ?_; refine callS (has_pc _ _) ?_) | (refine stk_op (fun K hK => ?_); (first | (refine appendS ?_) | (refine virtS 15 18 1 8 3 ?_; refine appendS ?_))) | (refine gE ?_; (first | (refine exN ?_) | (refine exS (fun _ => ?_)))) | (refine gQ ?_; (first | (refine condT ?_) | (refine condF ?_) | (refine condS (fun hc => ?_) (fun hc => ?_) <;> (try (first | contradiction | (exfalso; omega)))))) | (refine gW ?_; refine wopsS ?_) | (refine aw_block ?_) | (refine gX ?_; refine exitS ?_) | (refine gT ?_; refine retS ?_) | (refine gS ?_; refine skipS ?_) | (apply_assumption (exfalso := false) (symm := false))))
  (refine awVirt 5 100 1 8 3 ?_)
  refine aw_loop_at [5, 6, 7, 8, 9, 10, 11, 12, 13, 14, 15, 16, 17, 18] (fun k : Nat => k ≤ n) (fun k => n - k) (fun k => [(6, .int k), (5, .sl 1 8 100 0 (f k).length)]) (fun k => [(100, ⟨3, (f k).map AV.int, false⟩)]) 0 (by omega) ?_ ?_
  · rw [hz]
    (refine atS ?_)
    (exact weakS)
  · rintro k hk K hK
    (refine atS ?_)
    have hlk := hlen k
    by_cases hlt : k < n
    · have hyk := hy k
      have hnk := hn k
      (repeat' (first | (refine hK _ ?_; clear hK K) | (refine aw_seq (fun K hK => ?_)) | (refine gR ?_; refine regS ?_) | (refine gC 31 ?_; refine callS (has_pc _ _) ?_) | (refine stk_op (fun K hK => ?_); (first | (refine appendS ?_) | (refine virtS 15 18 1 8 3 ?_; refine appendS ?_))) | (refine gE ?_; (first | (refine exN ?_) | (refine exS (fun _ => ?_)))) | (refine gQ ?_; (first | (refine condT ?_) | (refine condF ?_) | (refine condS (fun hc => ?_) (fun hc => ?_) <;> (try (first | contradiction | (exfalso; omega)))))) | (refine gW ?_; refine wopsS ?_) | (refine aw_block ?_) | (refine gX ?_; refine exitS ?_) | (refine gT ?_; refine retS ?_) | (refine gS ?_; refine skipS ?_) | (apply_assumption (exfalso := false) (symm := false))))
      · refine ⟨k + 1, by omega, by omega, ?_⟩
        rw [hyk (by simpa [hasB] using hc)]
        (refine atS ?_)
        (exact weakS)
      · refine ⟨k + 1, by omega, by omega, ?_⟩
        rw [hnk (by simpa [hasB] using hc)]
        (refine atS ?_)
        (exact weakS)
    · obtain rfl : k = n := by omega
      (repeat' (first | (refine hK _ ?_; clear hK K) | (refine aw_seq (fun K hK => ?_)) | (refine gR ?_; refine regS ?_) | (refine gC 31 ?_; refine callS (has_pc _ _) ?_) | (refine stk_op (fun K hK => ?_); (first | (refine appendS ?_) | (refine virtS 15 18 1 8 3 ?_; refine appendS ?_))) | (refine gE ?_; (first | (refine exN ?_) | (refine exS (fun _ => ?_)))) | (refine gQ ?_; (first | (refine condT ?_) | (refine condF ?_) | (refine condS (fun hc => ?_) (fun hc => ?_) <;> (try (first | contradiction | (exfalso; omega)))))) | (refine gW ?_; refine wopsS ?_) | (refine aw_block ?_) | (refine gX ?_; refine exitS ?_) | (refine gT ?_; refine retS ?_) | (refine gS ?_; refine skipS ?_) | (apply_assumption (exfalso := false) (symm := false))))
      refine fin_sl1 (f k) rfl (by rfl) (by rfl) rfl (fun _ => rfl) (fun _ => rfl) rfl
end Go.Proofs.Ytbeceabheahpnaa
