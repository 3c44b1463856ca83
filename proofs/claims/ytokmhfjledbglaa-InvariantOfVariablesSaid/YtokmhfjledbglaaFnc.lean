import Derived.Test.YtokmhfjledbglaaFnb
import Derived.Test.YtokmhfjledbglaaSrt



namespace Go.Proofs.Ytokmhfjledbglaa
open Go.Ab
open Go
set_option linter.unusedSimpArgs false
set_option linter.unusedVariables false
set_option maxRecDepth 10000
attribute [local irreducible] PV AOp AOps AW PCall OCall MCall WCall Ab.Fin OFin OFin2 MFin RV RV1 Le AStk AGrd ADr ADx ADo AOpX AAny
set_option maxHeartbeats 4000000
@[local go_sem] theorem purge_appF (id : Nat) (a b : List AV) : AV.purgeL id (a ++ b) = AV.purgeL id a ++ AV.purgeL id b := purgeL_append id a b
@[local go_sem] theorem cells_intsF (xs : List Int) : (xs.map AV.int).flatMap AV.cells = xs.map AV.int := flat_ints xs
@[local go_sem] theorem sealPL_intsF (id : Nat) (c : List AV) (xs : List Int) : AV.sealPL id c (xs.map AV.int) = xs.map AV.int := by
  induction xs with
  | nil => rfl
  | cons x r ih => rw [List.map_cons, AV.sealPL, ih]; rfl
@[local go_sem] theorem flat_rowsF (l : List (List Int)) : (l.map fun x => AV.isl 1 8 (x.map AV.int)).flatMap AV.cells = l.map fun x => AV.isl 1 8 (x.map AV.int) := by
  induction l with
  | nil => rfl
  | cons x r ih => rw [List.map_cons, List.flatMap_cons, ih]; rfl
def wordsL (l : List Nat) : List Int := l.map fun (w : Nat) => (w : Int)
theorem wordsL_len (l : List Nat) : (wordsL l).length = l.length := by simp [wordsL]
theorem wordsL_app (l : List Nat) (w : Nat) : wordsL (l ++ [w]) = wordsL l ++ [(w : Int)] := by simp [wordsL]
theorem wordsL_any (l : List Nat) (w : Nat) : (wordsL l).any (inW w) = l.any fun v => decide (v &&& w = w) := by
  unfold wordsL inW
  rw [List.any_map]
  congr 1
def setsL (n : Nat) (l : List Nat) : List (List Int) := l.map (setW n)
theorem setsL_len (n : Nat) (l : List Nat) : (setsL n l).length = l.length := by simp [setsL]
theorem setsL_app (n : Nat) (l : List Nat) (w : Nat) : setsL n (l ++ [w]) = setsL n l ++ [setW n w] := by simp [setsL]
abbrev fkT (t : Task) (k : Nat) : List Nat := foundK (goodW (groupB t) t.facts.toNat) t.facts.toNat k
/-- The word of a round. -/
def wdT (t : Task) (k : Nat) : Nat := 2 ^ t.facts.toNat - 1 - k
theorem fk_step {t : Task} {k : Nat} : fkT t (k + 1) = if goodW (groupB t) t.facts.toNat (wdT t k) && !(wordsL (fkT t k)).any (inW (wdT t k)) then fkT t k ++ [wdT t k] else fkT t k := by
  rw [wordsL_any]; rfl
theorem find_ok (t : Task) (hw : WfT t) (h10 : t.facts ≤ 10) : PCall Try.prog 13 [t.av] (fun r => ∃ ls : List (List Int), ls.Perm (foundL (groupB t) t.facts.toNat) ∧ ls.Pairwise (fun a b => ¬ cmpL b a < 0) ∧ r = .tup [rows ls, fault 0 0]) := by
  have h0 := hw.f0
  have hn : 2 ^ t.facts.toNat ≤ 1024 := Nat.pow_le_pow_right (i := t.facts.toNat) (j := 10) (by omega) (by omega)
  have hp : 0 < 2 ^ t.facts.toNat := Nat.pow_pos (by omega)
  have e2 : (1 * 2 ^ t.facts.toNat : Int) = ((2 ^ t.facts.toNat : Nat) : Int) := by rw [Int.one_mul, Int.natCast_pow]; rfl
  have hf : ((t.facts.toNat : Nat) : Int) = t.facts := by omega
  have hw0 : ((2 ^ t.facts.toNat : Nat) : Int) - 1 = (wdT t 0 : Nat) := by unfold wdT; omega
  have hws : ∀ k, k < 2 ^ t.facts.toNat - 1 → ((wdT t k : Nat) : Int) - 1 = (wdT t (k + 1) : Nat) ∧ 0 < wdT t k ∧ wdT t k < 1024 := fun k hk => by unfold wdT; omega
  have hwz : wdT t (2 ^ t.facts.toNat - 1) = 0 := by unfold wdT; omega
  have hset := fun w (h : w < 1000000000) => set_pc w t.facts.toNat h (by omega)
  rw [hf] at hset
  obtain ⟨N, hN⟩ : ∃ N, 2 ^ t.facts.toNat = N := ⟨_, rfl⟩
  rw [hN] at hn hp e2 hw0 hws hwz
  
  (refine enterS Try.func13 Try.ntmps13 ?_)
  
  (repeat' (first | (refine hK _ ?_; clear hK K) | (refine aw_seq (fun K hK => ?_)) | (refine gR ?_; refine regS ?_) | (refine gD 3 ?_; refine drS (.it 0 0 (.it 1 0 (.it 2 3 .nil))) [0, 1] ?_) | (refine gC 24 ?_; refine callS (val_at (taskFault_ok.2 hw)) ?_) | (refine stk_op (fun K hK => ?_); (first | (refine aop_pv (pv_neq (by rfl) (by rfl)) ?_) | (refine aop_pv (pv_neqB (by rfl) (by rfl)) ?_) | (refine aop_pv (pv_neqA (by rfl) (by rfl) (by kernel_rfl)) ?_) | (refine aop_pv (pv_fieldAddrF (by rfl) (by rfl) (by first | decide | (simp; done) | (simp; omega))) ?_) | (refine aop_pv (pv_fieldAddrIF (by rfl) (by rfl) (by first | decide | (simp; done) | (simp; omega))) ?_))) | (refine And.intro ?_ ?_) | (refine gDx ?_; refine adxS ?_) | (refine gO ?_; refine adoS ?_) | (refine gE ?_; (first | (refine exN ?_) | (refine exS (fun _ => ?_)))) | (refine gQ ?_; (first | (refine condT ?_) | (refine condF ?_) | (refine condS (fun hc => ?_) (fun hc => ?_) <;> (try (first | contradiction | (exfalso; omega)))))) | (refine gWd ?_; refine wdrS ?_) | (refine gW ?_; refine wopsS ?_) | (refine aw_block ?_) | (refine gX ?_; refine exitS ?_) | (refine gT ?_; refine retS ?_) | (refine gS ?_; refine skipS ?_) | (apply_assumption (exfalso := false) (symm := false))))
  rw [e2, hw0]
  have hone : ∀ k, foundK (goodW (groupB t) t.facts.toNat) t.facts.toNat k = fkT t k := fun _ => rfl
  (refine awVirt 5 100 1 8 3 ?_)
  refine aw_loop_at (6 :: [5, 6, 7, 8, 26, 27, 28, 29, 30, 31, 32, 33, 34, 35, 36, 37, 38, 39, 40, 41, 42, 43, 44, 45, 46, 47, 48, 49, 50, 51, 52, 53]) (fun k : Nat => k ≤ N - 1) (fun k => N - 1 - k) (fun k => [(5, .sl 1 8 100 0 (wordsL (fkT t k)).length), (6, .ptr 6 0)]) (fun k => [(1, ⟨25, t.cs, true⟩), (3, ⟨27, [.int 0, .int 0], true⟩), (4, ⟨27, [.int 0, .int 0], true⟩), (6, ⟨3, [.int (wdT t k : Nat)], true⟩), (100, ⟨3, (wordsL (fkT t k)).map AV.int, false⟩)]) 0 (by omega) ?_ ?_
  · (refine atS ?_)
    (exact weakS)
  · rintro k hk K hK
    (refine atS ?_)
    have hlen : (wordsL (fkT t k)).length ≤ k := by rw [wordsL_len]; exact foundK_len
    by_cases hlt : k < N - 1
    · obtain ⟨hw1, hw2, hw3⟩ := hws k hlt
      have hst := fk_step (t := t) (k := k)
      generalize wdT t k = w at *
      have hgs : isSet (setW t.facts.toNat w) t.facts = true := isSet_iff.2 ⟨fun x hx => by have := mem_setW.1 hx; omega, setW_sorted⟩
      have hin : ∀ x ∈ wordsL (fkT t k), 0 ≤ x ∧ x < 1000000000 := fun x hx => by
        obtain ⟨v, hv, rfl⟩ := List.mem_map.1 hx
        have := ((mem_foundK (by rw [hN]; omega)).1 hv).2.1
        rw [hN] at this
        omega
      have hsl := setW_len (n := t.facts.toNat) (w := w)
      have hgd : goodW (groupB t) t.facts.toNat w = (decide (2 ≤ ((setW t.facts.toNat w).length : Int)) && groupB t (setW t.facts.toNat w)) := by
        unfold goodW; congr 1; rw [Bool.eq_iff_iff, decide_eq_true_eq, decide_eq_true_eq]; omega
      have hh := holdsG_pc t (setW t.facts.toNat w) hw hgs
      have hcf := containsFunc_pc (wordsL (fkT t k)) 30 [.iptr [.int (w : Int)]] rfl (inW w) (inside_pc w (by omega) _ hin)
      obtain ⟨gb, hgb⟩ : ∃ gb, groupB t (setW t.facts.toNat w) = gb := ⟨_, rfl⟩
      obtain ⟨an, han⟩ : ∃ an, (wordsL (fkT t k)).any (inW w) = an := ⟨_, rfl⟩
      rw [hgb] at hh hgd
      rw [han] at hcf hst
      clear hgb han
      
      
      
      
      (repeat' (first | (refine hK _ ?_; clear hK K) | (refine aw_seq (fun K hK => ?_)) | (refine gR ?_; refine regS ?_) | (refine gC 29 ?_; refine callS (hset w (by omega)) ?_) | (refine gC 26 ?_; refine callS (hh) ?_) | (refine gC 31 ?_; refine callS (containsFunc_pc _ 76 [.iptr [ints _]] rfl _ (meetsF_pc _ (by assumption) _)) ?_) | (refine stk_op (fun K hK => ?_); (first | ((refine aop_callB (le_sealMap (f := AV.int) 100 8 (wordsL (fkT t k)).length (wordsL (fkT t k)) (by rfl) (by first | rfl | assumption | simp) (fun _ => rfl) (fun _ => rfl)) (by first | (simp only [go_sem, Nat.reduceAdd, Nat.reduceMul, reduceIte, Nat.reduceEqDiff, Nat.reduceLeDiff, Int.reduceToNat, Int.reducePow, Int.reduceBEq, Int.reduceBNe, Int.reduceLT, Int.reduceLE, decide_true, decide_false, AV.sealSL, sealS_any, sealS_v, sealS_isl, sealS_iptr, sealS_ptr, sealS_sl, sealS_agg, sealS_tup, sealS_fn, purge_agg, purge_tup, purge_fn, and_self, AV.mentL, AV.ment, Bool.or_self]; done) | (simp only [go_sem, Nat.reduceAdd, Nat.reduceMul, reduceIte, Nat.reduceEqDiff, Nat.reduceLeDiff, Int.reduceToNat, Int.reducePow, Int.reduceBEq, Int.reduceBNe, Int.reduceLT, Int.reduceLE, decide_true, decide_false, AV.sealSL, sealS_any, sealS_v, sealS_isl, sealS_iptr, sealS_ptr, sealS_sl, sealS_agg, sealS_tup, sealS_fn, purge_agg, purge_tup, purge_fn, and_self, AV.mentL, AV.ment, Bool.or_self]; rfl)) hcf (by rfl) (fun x hx => ?_); obtain rfl := hx; refine ⟨rfl, ?_⟩)) | (refine aop_pv (pv_fieldAddrF (by rfl) (by rfl) (by first | decide | (simp; done) | (simp; omega))) ?_) | (refine aop_pv (pv_fieldAddrIF (by rfl) (by rfl) (by first | decide | (simp; done) | (simp; omega))) ?_) | (refine aop_le (le_sealPtr 6 rfl rfl rfl) ?_; simp only [go_sem, Nat.reduceAdd, Nat.reduceMul, reduceIte, Nat.reduceEqDiff, Nat.reduceLeDiff, Int.reduceToNat, Int.reducePow, Int.reduceBEq, Int.reduceBNe, Int.reduceLT, Int.reduceLE, decide_true, decide_false]; refine aop_pv pv_makeFunc ?_) | (refine appendS ?_) | (refine virtS 49 52 1 8 3 ?_; refine appendS ?_))) | (refine gE ?_; (first | (refine exN ?_) | (refine exS (fun _ => ?_)))) | (refine gG ?_; refine guardS (fun hc => ?_) (fun hc => ?_) <;> (try (first | contradiction | (exfalso; omega)))) | (refine gQ ?_; (first | (refine condT ?_) | (refine condF ?_) | (refine condS (fun hc => ?_) (fun hc => ?_) <;> (try (first | contradiction | (exfalso; omega)))))) | (refine gW ?_; refine wopsS ?_) | (refine aw_block ?_) | (refine gX ?_; refine exitS ?_) | (refine gT ?_; refine retS ?_) | (refine gS ?_; refine skipS ?_) | (apply_assumption (exfalso := false) (symm := false))))
      all_goals (refine ⟨k + 1, by omega, by omega, ?_⟩; rw [← hw1])
      all_goals first
        | (rw [show fkT t (k + 1) = fkT t k ++ [w] by rw [hst, hgd, if_pos (by simp [*])], wordsL_app]; (refine atS ?_); (exact weakS))
        | (rw [show fkT t (k + 1) = fkT t k by rw [hst, hgd, if_neg (by simp [*] <;> omega)]]; (refine atS ?_); (exact weakS))
    · 
      obtain rfl : k = N - 1 := by omega
      rw [hwz]
      have hF : foundL (groupB t) t.facts.toNat = setsL t.facts.toNat (fkT t (N - 1)) := by unfold foundL; rw [hN]; rfl
      have hWb : ∀ v ∈ fkT t (N - 1), v < N := fun v hv => by
        have := ((mem_foundK (by rw [hN]; omega)).1 hv).2.1
        omega
      rw [hF]
      have hWl : (fkT t (N - 1)).length ≤ N - 1 := foundK_len
      clear hone hws hwz hw0
      generalize fkT t (N - 1) = W at *
      
      
      (repeat' (first | (refine hK _ ?_; clear hK K) | (refine aw_seq (fun K hK => ?_)) | (refine gR ?_; refine regS ?_) | (refine gE ?_; (first | (refine exN ?_) | (refine exS (fun _ => ?_)))) | (refine gQ ?_; (first | (refine condT ?_) | (refine condF ?_) | (refine condS (fun hc => ?_) (fun hc => ?_) <;> (try (first | contradiction | (exfalso; omega)))))) | (refine gW ?_; refine wopsS ?_) | (refine aw_block ?_) | (refine gX ?_; refine exitS ?_) | (refine gT ?_; refine retS ?_) | (refine gS ?_; refine skipS ?_) | (apply_assumption (exfalso := false) (symm := false))))
      (refine awVirt 9 200 1 24 22 ?_)
      have hwl := wordsL_len W
      refine aw_loop_at [9, 11, 56, 57, 58, 59, 60, 61, 62, 63, 64, 65, 66, 67] (fun k : Nat => k ≤ W.length) (fun k => W.length - k) (fun k => [(56, .int k), (9, .sl 1 24 200 0 (setsL t.facts.toNat (W.take k)).length)]) (fun k => [(1, ⟨25, t.cs, true⟩), (3, ⟨27, [.int 0, .int 0], true⟩), (4, ⟨27, [.int 0, .int 0], true⟩), (6, ⟨3, [.int 0], true⟩), (100, ⟨3, (wordsL W).map AV.int, false⟩), (200, ⟨22, (setsL t.facts.toNat (W.take k)).map (fun l => AV.isl 1 8 (l.map AV.int)), false⟩)]) 0 (by omega) ?_ ?_
      · (refine atS ?_)
        (exact weakS)
      · rintro k hk K hK
        (refine atS ?_)
        have hml : (setsL t.facts.toNat (W.take k)).length ≤ k := by rw [setsL_len, List.length_take]; omega
        by_cases hkt : k < W.length
        · have hwk : (wordsL W)[k]'(by omega) = (W[k] : Int) := by simp [wordsL]
          have hsk := hset W[k] (by have := hWb _ (List.getElem_mem hkt); omega)
          rw [← hwk] at hsk
          have hst : setsL t.facts.toNat (W.take (k + 1)) = setsL t.facts.toNat (W.take k) ++ [setW t.facts.toNat W[k]] := by rw [List.take_succ_eq_append_getElem hkt, setsL_app]
          
          
          (repeat' (first | (refine hK _ ?_; clear hK K) | (refine aw_seq (fun K hK => ?_)) | (refine gR ?_; refine regS ?_) | (refine gC 29 ?_; refine callS (hsk) ?_) | (refine stk_op (fun K hK => ?_); (first | (refine aop_pv (pv_fieldAddrF (by rfl) (by rfl) (by first | decide | (simp; done) | (simp; omega))) ?_) | (refine aop_pv (pv_fieldAddrIF (by rfl) (by rfl) (by first | decide | (simp; done) | (simp; omega))) ?_) | (refine appendS ?_) | (refine virtS 60 66 1 24 22 ?_; refine appendS ?_))) | (refine gE ?_; (first | (refine exN ?_) | (refine exS (fun _ => ?_)))) | (refine gQ ?_; (first | (refine condT ?_) | (refine condF ?_) | (refine condS (fun hc => ?_) (fun hc => ?_) <;> (try (first | contradiction | (exfalso; omega)))))) | (refine gW ?_; refine wopsS ?_) | (refine aw_block ?_) | (refine gX ?_; refine exitS ?_) | (refine gT ?_; refine retS ?_) | (refine gS ?_; refine skipS ?_) | (apply_assumption (exfalso := false) (symm := false))))
          refine ⟨k + 1, by omega, by omega, ?_⟩
          rw [hst]
          (refine atS ?_)
          (exact weakS)
        · obtain rfl : k = W.length := by omega
          rw [List.take_length]
          
          
          (repeat' (first | (refine hK _ ?_; clear hK K) | (refine aw_seq (fun K hK => ?_)) | (refine gRx 23 (by rfl) ?_; refine regS ?_) | (refine stk_op (fun K hK => ?_); refine aop_callW (d := some 69) (sortRows_wc (setsL t.facts.toNat W) 200 24 _ _ (by rw [setsL_len]; omega)) (by rfl) (fun x bk hx => ?_); obtain ⟨rfl, ls, hperm, hsort, rfl⟩ := hx; simp only [Nat.reduceBEq, Bool.or_true, Bool.or_false, Bool.false_or, Bool.true_or, go_sem, Nat.reduceAdd, Nat.reduceMul, reduceIte, Nat.reduceEqDiff, Nat.reduceLeDiff, Int.reduceToNat, Int.reducePow, Int.reduceBEq, Int.reduceBNe, Int.reduceLT, Int.reduceLE, decide_true, decide_false]) | (refine gE ?_; (first | (refine exN ?_) | (refine exS (fun _ => ?_)))) | (refine gQ ?_; (first | (refine condT ?_) | (refine condF ?_) | (refine condS (fun hc => ?_) (fun hc => ?_) <;> (try (first | contradiction | (exfalso; omega)))))) | (refine gW ?_; refine wopsS ?_) | (refine aw_block ?_) | (refine gX ?_; refine exitS ?_) | (refine gT ?_; refine retS ?_) | (refine gS ?_; refine skipS ?_) | (apply_assumption (exfalso := false) (symm := false))))
          (refine aw_le (le_sealDM (f := fun l : List Int => AV.isl 1 8 (l.map AV.int)) 200 1 24 (setsL t.facts.toNat W).length ls (by rfl) (flat_rowsF ls) (by exact hperm.length_eq) (fun _ => rfl) (fun _ => rfl) (by omega)) ?_; try simp only [go_sem, Nat.reduceAdd, Nat.reduceMul, reduceIte, Nat.reduceEqDiff, Nat.reduceLeDiff, Int.reduceToNat, Int.reducePow, Int.reduceBEq, Int.reduceBNe, Int.reduceLT, Int.reduceLE, decide_true, decide_false])
          
          (repeat' (first | (refine hK _ ?_; clear hK K) | (refine aw_seq (fun K hK => ?_)) | (refine gR ?_; refine regS ?_) | (refine stk_op (fun K hK => ?_); refine aop_callW (d := some 69) (sortRows_wc (setsL t.facts.toNat W) 200 24 _ _ (by rw [setsL_len]; omega)) (by rfl) (fun x bk hx => ?_); obtain ⟨rfl, ls, hperm, hsort, rfl⟩ := hx; simp only [Nat.reduceBEq, Bool.or_true, Bool.or_false, Bool.false_or, Bool.true_or, go_sem, Nat.reduceAdd, Nat.reduceMul, reduceIte, Nat.reduceEqDiff, Nat.reduceLeDiff, Int.reduceToNat, Int.reducePow, Int.reduceBEq, Int.reduceBNe, Int.reduceLT, Int.reduceLE, decide_true, decide_false]) | (refine gE ?_; (first | (refine exN ?_) | (refine exS (fun _ => ?_)))) | (refine gQ ?_; (first | (refine condT ?_) | (refine condF ?_) | (refine condS (fun hc => ?_) (fun hc => ?_) <;> (try (first | contradiction | (exfalso; omega)))))) | (refine gW ?_; refine wopsS ?_) | (refine aw_block ?_) | (refine gX ?_; refine exitS ?_) | (refine gT ?_; refine retS ?_) | (refine gS ?_; refine skipS ?_) | (apply_assumption (exfalso := false) (symm := false))))
          (refine fin_le (Le.refl _) (rv_two (rv1_tmp (by rfl)) (rv1_cell (by first | exact pv_load (by rfl) (by rfl) (by rfl) (by rfl) | exact pv_loadA (by rfl) (by rfl) (by rfl) (by first | decide | simp)))) (by first | rfl | (simp only [go_sem, Nat.reduceAdd, Nat.reduceMul, reduceIte, Nat.reduceEqDiff, Nat.reduceLeDiff, Int.reduceToNat, Int.reducePow, Int.reduceBEq, Int.reduceBNe, Int.reduceLT, Int.reduceLE, decide_true, decide_false])) ?_)
          exact ⟨ls, by rw [hF]; exact hperm, hsort, rfl⟩

theorem find_many (t : Task) (hw : WfT t) (h10 : 10 < t.facts) : PCall Try.prog 13 [t.av] (fun r => r = .tup [.nilS, fault 10 (-8)]) := by
  
  (refine enterS Try.func13 Try.ntmps13 ?_)
  
  (repeat' (first | (refine hK _ ?_; clear hK K) | (refine aw_seq (fun K hK => ?_)) | (refine gR ?_; refine regS ?_) | (refine gD 3 ?_; refine drS (.it 0 0 (.it 1 0 (.it 2 3 .nil))) [0, 1] ?_) | (refine gC 24 ?_; refine callS (val_at (taskFault_ok.2 hw)) ?_) | (refine stk_op (fun K hK => ?_); (first | (refine aop_pv (pv_neq (by rfl) (by rfl)) ?_) | (refine aop_pv (pv_neqB (by rfl) (by rfl)) ?_) | (refine aop_pv (pv_neqA (by rfl) (by rfl) (by kernel_rfl)) ?_) | (refine aop_pv (pv_fieldAddrF (by rfl) (by rfl) (by first | decide | (simp; done) | (simp; omega))) ?_) | (refine aop_pv (pv_fieldAddrIF (by rfl) (by rfl) (by first | decide | (simp; done) | (simp; omega))) ?_))) | (refine And.intro ?_ ?_) | (refine gDx ?_; refine adxS ?_) | (refine gO ?_; refine adoS ?_) | (refine gE ?_; (first | (refine exN ?_) | (refine exS (fun _ => ?_)))) | (refine gQ ?_; (first | (refine condT ?_) | (refine condF ?_) | (refine condS (fun hc => ?_) (fun hc => ?_) <;> (try (first | contradiction | (exfalso; omega)))))) | (refine gWd ?_; refine wdrS ?_) | (refine gW ?_; refine wopsS ?_) | (refine aw_block ?_) | (refine gX ?_; refine exitS ?_) | (refine gT ?_; refine retS ?_) | (refine gS ?_; refine skipS ?_) | (apply_assumption (exfalso := false) (symm := false))))
  (refine fin_le (Le.refl _) (rv_two (rv1_tmp (by rfl)) (rv1_cell (by first | exact pv_load (by rfl) (by rfl) (by rfl) (by rfl) | exact pv_loadA (by rfl) (by rfl) (by rfl) (by first | decide | simp)))) (by first | rfl | (simp only [go_sem, Nat.reduceAdd, Nat.reduceMul, reduceIte, Nat.reduceEqDiff, Nat.reduceLeDiff, Int.reduceToNat, Int.reducePow, Int.reduceBEq, Int.reduceBNe, Int.reduceLT, Int.reduceLE, decide_true, decide_false])) ?_)
  rfl

theorem find_no (t : Task) (h : taskFault t ≠ (0, 0)) : PCall Try.prog 13 [t.av] (fun r => r = .tup [.nilS, faultP (taskFault t)]) := by
  have hc := tf_code h
  have hv := validate_pc t
  
  generalize taskFault t = p at *
  (refine enterS Try.func13 Try.ntmps13 ?_)
  
  (repeat' (first | (refine hK _ ?_; clear hK K) | (refine aw_seq (fun K hK => ?_)) | (refine gR ?_; refine regS ?_) | (refine gD 3 ?_; refine drS (.it 0 0 (.it 1 0 (.it 2 3 .nil))) [0, 1] ?_) | (refine gC 24 ?_; refine callS (hv) ?_) | (refine stk_op (fun K hK => ?_); (first | (refine aop_pv (pv_neq (by rfl) (by rfl)) ?_) | (refine aop_pv (pv_neqB (by rfl) (by rfl)) ?_) | (refine aop_pv (pv_neqA (by rfl) (by rfl) (by kernel_rfl)) ?_) | (refine aop_pv (pv_fieldAddrF (by rfl) (by rfl) (by first | decide | (simp; done) | (simp; omega))) ?_) | (refine aop_pv (pv_fieldAddrIF (by rfl) (by rfl) (by first | decide | (simp; done) | (simp; omega))) ?_))) | (refine And.intro ?_ ?_) | (refine gDx ?_; refine adxS ?_) | (refine gO ?_; refine adoS ?_) | (refine gE ?_; (first | (refine exN ?_) | (refine exS (fun _ => ?_)))) | (refine gQ ?_; (first | (refine condT ?_) | (refine condF ?_) | (refine condS (fun hc => ?_) (fun hc => ?_) <;> (try (first | contradiction | (exfalso; omega)))))) | (refine gWd ?_; refine wdrS ?_) | (refine gW ?_; refine wopsS ?_) | (refine aw_block ?_) | (refine gX ?_; refine exitS ?_) | (refine gT ?_; refine retS ?_) | (refine gS ?_; refine skipS ?_) | (apply_assumption (exfalso := false) (symm := false))))
  all_goals (refine fin_le (Le.refl _) (rv_two (rv1_tmp (by rfl)) (rv1_cell (by first | exact pv_load (by rfl) (by rfl) (by rfl) (by rfl) | exact pv_loadA (by rfl) (by rfl) (by rfl) (by first | decide | simp)))) (by first | rfl | (simp only [go_sem, Nat.reduceAdd, Nat.reduceMul, reduceIte, Nat.reduceEqDiff, Nat.reduceLeDiff, Int.reduceToNat, Int.reducePow, Int.reduceBEq, Int.reduceBNe, Int.reduceLT, Int.reduceLE, decide_true, decide_false])) ?_)
  all_goals rfl


end Go.Proofs.Ytokmhfjledbglaa
