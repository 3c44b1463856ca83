import Derived.Test.YtpnpnbbanfgpgaaVev



namespace Go.Proofs.Ytpnpnbbanfgpgaa
open Go.Ab
open Go
set_option linter.unusedSimpArgs false
set_option linter.unusedVariables false
set_option maxRecDepth 10000
attribute [local irreducible] PV AOp AOps AW PCall OCall MCall WCall HCall Ab.Fin OFin OFin2 MFin HFin RV RV1 Le AStk AGrd ADr ADx ADo AOpX AAny
set_option maxHeartbeats 4000000
attribute [local go_sem] purge_appV cells_intsV cast_0 sealDL_app
/-! rows searched by a function -/
theorem indexFuncR_pc (xs : List (List Int)) (f : FuncId) [TyC Try.prog f] (caps : List AV) (hcap : AV.purL caps = true) (p : List Int → Bool) (h : Answers f caps (fun x => ints x) p xs) : PCall Try.prog 60 [rows xs, .fn f caps] (fun r => r = .int (idxF p xs)) := by
  (refine enterS Try.func60 Try.ntmps60 ?_)
  (refine aw_bound (i := 0) rfl (fun hb => ?_); (try simp only [List.length_map] at hb))
  (repeat' (first | (refine hK _ ?_; clear hK K) | (refine aw_seq (fun K hK => ?_)) | (refine gR ?_; refine regS ?_) | (refine aw_block ?_)))
  refine aw_loop_at [4, 5, 8, 9, 10, 11, 12, 13, 14, 15, 16, 17, 18] (fun k : Nat => k ≤ xs.length ∧ ∀ i (hi : i < xs.length), i < k → p xs[i] = false) (fun k => xs.length - k) (fun k => [(8, .int k)]) (fun _ => []) 0 ⟨by omega, by omega⟩ ?_ ?_
  · (refine atS ?_)
    (exact weakS)
  · rintro k ⟨hk, hn⟩ K hK
    (refine atS ?_)
    by_cases hlt : k < xs.length
    · cases hp : p xs[k]
      · (repeat' (first | (refine hK _ ?_; clear hK K) | (refine aw_seq (fun K hK => ?_)) | (refine gR ?_; refine regS ?_) | (refine stk_op (fun K hK => ?_); refine aop_callV (by rfl) (h xs[k] (List.getElem_mem hlt)) (by simp [evalL, St.eval, AV.purL, AV.pur, hcap]) (fun x hx => ?_); rw [hp] at hx; subst hx) | (refine gE ?_; (first | (refine exN ?_) | (refine exS (fun _ => ?_)))) | (refine gQ ?_; (first | (refine condF ?_) | (refine condS (fun hc => ?_) (fun hc => ?_) <;> (try (first | contradiction | (exfalso; omega)))))) | (refine aw_block ?_) | (refine gS ?_; refine skipS ?_)))
        refine ⟨k + 1, ⟨by omega, fun i hi hik => ?_⟩, by omega, ?_⟩
        · rcases Nat.lt_or_ge i k with h' | h'
          · exact hn i hi h'
          · obtain rfl : i = k := by omega
            exact hp
        · (refine atS ?_)
          (exact weakS)
      · (repeat' (first | (refine hK _ ?_; clear hK K) | (refine aw_seq (fun K hK => ?_)) | (refine gR ?_; refine regS ?_) | (refine stk_op (fun K hK => ?_); refine aop_callV (by rfl) (h xs[k] (List.getElem_mem hlt)) (by simp [evalL, St.eval, AV.purL, AV.pur, hcap]) (fun x hx => ?_); rw [hp] at hx; subst hx) | (refine gE ?_; refine exS (fun _ => ?_)) | (refine gQ ?_; (first | (refine condT ?_) | (refine condS (fun hc => ?_) (fun hc => ?_) <;> (try (first | contradiction | (exfalso; omega)))))) | (refine aw_block ?_) | (refine gT ?_; refine retS ?_) | (refine gS ?_; refine skipS ?_)))
        (refine fin_le (Le.refl _) (rv_one (rv1_tmp (by rfl))) (by first | rfl | (simp only [go_sem, Nat.reduceAdd, Nat.reduceMul, reduceIte, Nat.reduceEqDiff, Nat.reduceLeDiff, Int.reduceToNat, Int.reducePow, Int.reduceBEq, Int.reduceBNe, Int.reduceLT, Int.reduceLE, decide_true, decide_false])) ?_)
        rw [idxF_hit hlt hp hn]
    · (repeat' (first | (refine hK _ ?_; clear hK K) | (refine aw_seq (fun K hK => ?_)) | (refine gR ?_; refine regS ?_) | (refine gQ ?_; refine condS (fun hc => ?_) (fun hc => ?_) <;> (try (first | contradiction | (exfalso; omega)))) | (refine gX ?_; refine exitS ?_) | (refine gT ?_; refine retS ?_) | (apply_assumption (exfalso := false) (symm := false))))
      (refine fin_le (Le.refl _) (rv_one (rv1_tmp (by rfl))) (by first | rfl | (simp only [go_sem, Nat.reduceAdd, Nat.reduceMul, reduceIte, Nat.reduceEqDiff, Nat.reduceLeDiff, Int.reduceToNat, Int.reducePow, Int.reduceBEq, Int.reduceBNe, Int.reduceLT, Int.reduceLE, decide_true, decide_false])) ?_)
      rw [idxF_none fun i hi => hn i hi (by omega)]
theorem containsFuncR_pc (xs : List (List Int)) (f : FuncId) [TyC Try.prog f] (caps : List AV) (hcap : AV.purL caps = true) (p : List Int → Bool) (h : Answers f caps (fun x => ints x) p xs) : PCall Try.prog 35 [rows xs, .fn f caps] (fun r => r = .bool (xs.any p)) := by
  (refine enterS Try.func35 Try.ntmps35 ?_)
  (repeat' (first | (refine hK _ ?_; clear hK K) | (refine aw_seq (fun K hK => ?_)) | (refine gR ?_; refine regS ?_) | (refine stk_op (fun K hK => ?_); refine aop_call (indexFuncR_pc xs f caps hcap p h) (by simp [evalL, St.eval, AV.purL, AV.pur, hcap]) (fun x hx => ?_); subst hx) | (refine gT ?_; refine retS ?_)))
  (refine fin_le (Le.refl _) (rv_one (rv1_tmp (by rfl))) (by first | rfl | (simp only [go_sem, Nat.reduceAdd, Nat.reduceMul, reduceIte, Nat.reduceEqDiff, Nat.reduceLeDiff, Int.reduceToNat, Int.reducePow, Int.reduceBEq, Int.reduceBNe, Int.reduceLT, Int.reduceLE, decide_true, decide_false])) ?_)
  rw [idxF_any]
def wideB (c : List Int) : Bool := decide (6 < (c.length : Int) + 1)
theorem wide_pc (cs : List (List Int)) : Answers 34 [] (fun x => ints x) wideB cs := by
  intro c hc
  (refine enterS Try.func34 Try.ntmps34 ?_)
  (refine aw_bound (i := 0) rfl (fun hb => ?_); (try simp only [List.length_map] at hb))
  (repeat' (first | (refine hK _ ?_; clear hK K) | (refine aw_seq (fun K hK => ?_)) | (refine gR ?_; refine regS ?_) | (refine gE ?_; refine exN ?_) | (refine gT ?_; refine retS ?_)))
  (refine fin_le (Le.refl _) (rv_one (rv1_tmp (by rfl))) (by first | rfl | (simp only [go_sem, Nat.reduceAdd, Nat.reduceMul, reduceIte, Nat.reduceEqDiff, Nat.reduceLeDiff, Int.reduceToNat, Int.reducePow, Int.reduceBEq, Int.reduceBNe, Int.reduceLT, Int.reduceLE, decide_true, decide_false])) ?_)
  rfl

/-! assignments of a set -/
def goalK (cs : List (List Int)) (s : List Int) : Nat → List (Int × Int)
  | 0 => []
  | k + 1 => goalK cs s k ++ if 0 < cntIn cs[k]! s then [((k : Int), (valF cs[k]! s : Int))] else []
theorem goalK_len (cs : List (List Int)) (s : List Int) : ∀ k, (goalK cs s k).length ≤ k
  | 0 => by simp [goalK]
  | k + 1 => by
    have := goalK_len cs s k
    rw [goalK, List.length_append]; split <;> simp <;> omega
theorem goalK_yes {cs : List (List Int)} {s : List Int} {k : Nat} (hk : k < cs.length) (h : 0 < cntIn cs[k] s) : goalK cs s (k + 1) = goalK cs s k ++ [((k : Int), (valF cs[k] s : Int))] := by rw [goalK, getElem!_pos cs k hk, if_pos h]
theorem goalK_no {cs : List (List Int)} {s : List Int} {k : Nat} (hk : k < cs.length) (h : ¬ 0 < cntIn cs[k] s) : goalK cs s (k + 1) = goalK cs s k := by rw [goalK, getElem!_pos cs k hk, if_neg h, List.append_nil]
theorem valueC_pc (c s : List Int) (hs : s.Pairwise (· < ·)) (h1 : cntIn c s ≤ 1) : PCall Try.prog 37 [ints c, ints s] (fun r => r = .tup [.int (valF c s), .int (cntIn c s)]) := (value_pc c s hs).mono fun r hr => by rw [hr, val_eq h1]
theorem crowd_t {cs : List (List Int)} {s : List Int} (h : crowdB cs s = true) : ∃ c ∈ cs, 1 < cntIn c s := by
  unfold crowdB at h
  rw [List.any_eq_true] at h
  obtain ⟨c, hc, h⟩ := h
  exact ⟨c, hc, by simpa using h⟩
theorem assigned_ok (cs : List (List Int)) (s : List Int) (h8 : cs.length ≤ 8) (hs : s.Pairwise (· < ·)) (h : crowdB cs s = false) : PCall Try.prog 38 [rows cs, ints s] (fun r => r = .tup [asgs (goalK cs s cs.length), .bool true]) := by
  (refine enterS Try.func38 Try.ntmps38 ?_)
  (repeat' (first | (refine hK _ ?_; clear hK K) | (refine aw_seq (fun K hK => ?_)) | (refine gR ?_; refine regS ?_) | (refine aw_block ?_)))
  (refine awVirt 6 100 2 16 61 ?_)
  refine aw_loop_at [4, 5, 6, 7, 8, 9, 10, 13, 14, 15, 16, 17, 18, 19, 20, 21, 22, 23, 24, 25, 26, 27, 28, 29, 30, 31, 32, 33, 34] (fun k : Nat => k ≤ cs.length) (fun k => cs.length - k) (fun k => [(13, .int k), (6, .sl 2 16 100 0 (goalK cs s k).length)]) (fun k => [(100, ⟨61, (goalK cs s k).flatMap asc, false⟩)]) 0 (by omega) ?_ ?_
  · (refine atS ?_)
    (exact weakS)
  · rintro k hk K hK
    (refine atS ?_)
    have hgl := goalK_len cs s k
    by_cases hlt : k < cs.length
    · have hc1 := crowd_f.1 h _ (List.getElem_mem hlt)
      have hc0 := cntIn_nn cs[k] s
      have hyes := goalK_yes (s := s) hlt
      have hno := goalK_no (s := s) hlt
      
      (repeat' (first | (refine hK _ ?_; clear hK K) | (refine aw_seq (fun K hK => ?_)) | (refine gR ?_; refine regS ?_) | (refine gC 37 ?_; refine callS (valueC_pc cs[k] s hs (crowd_f.1 h _ (List.getElem_mem hlt))) ?_) | (refine stk_op (fun K hK => ?_); (refine appendS ?_; simp only [go_sem, Nat.reduceAdd, Nat.reduceMul, reduceIte, Nat.reduceEqDiff, Nat.reduceLeDiff, Int.reduceToNat, Int.reducePow, Int.reduceBEq, Int.reduceBNe, Int.reduceLT, Int.reduceLE, decide_true, decide_false, Nat.reduceBEq, Bool.or_self, Bool.or_true, Bool.true_or, Bool.or_false, Bool.false_or, Bool.and_true, Bool.true_and, Bool.and_false, Bool.false_and, Bool.and_self, Bool.not_true, Bool.not_false, List.cons_append, List.nil_append, List.append_nil, if_true, if_false, Bool.false_eq_true, keysH])) | (refine gE ?_; (first | (refine exN ?_) | (refine exS (fun _ => ?_)))) | (refine gQ ?_; refine condS (fun hc => ?_) (fun hc => ?_) <;> (try (first | contradiction | (exfalso; omega)))) | (refine aw_block ?_) | (refine gS ?_; refine skipS ?_)))
      · refine ⟨k + 1, by omega, by omega, ?_⟩
        rw [hyes (by omega)]
        (refine atS ?_)
        (refine le_weak (by (repeat (first | exact .nil | refine .drop ?_ | refine weak_keep ?_ (by first | rfl | (simp))))) (by (repeat refine hsub_hasE (by rfl) (by first | rfl | (simp)) ?_); exact hsub_nil _))
      · refine ⟨k + 1, by omega, by omega, ?_⟩
        rw [hno (by omega)]
        (refine atS ?_)
        (exact weakS)
    · obtain rfl : k = cs.length := by omega
      (repeat' (first | (refine hK _ ?_; clear hK K) | (refine aw_seq (fun K hK => ?_)) | (refine gRx 11 (by rfl) ?_; refine regS ?_) | (refine gQ ?_; refine condS (fun hc => ?_) (fun hc => ?_) <;> (try (first | contradiction | (exfalso; omega)))) | (refine gX ?_; refine exitS ?_) | (apply_assumption (exfalso := false) (symm := false))))
      (refine aw_le (le_sealDM (f := asg) 100 2 16 (goalK cs s cs.length).length (goalK cs s cs.length) (by rfl) (asc_flat _) (by first | rfl | simp) (fun _ => rfl) (fun _ => rfl) (by omega)) ?_; try simp only [go_sem, Nat.reduceAdd, Nat.reduceMul, reduceIte, Nat.reduceEqDiff, Nat.reduceLeDiff, Int.reduceToNat, Int.reducePow, Int.reduceBEq, Int.reduceBNe, Int.reduceLT, Int.reduceLE, decide_true, decide_false])
      (repeat' (first | (refine hK _ ?_; clear hK K) | (refine gR ?_; refine regS ?_) | (refine gT ?_; refine retS ?_)))
      (refine fin_le (Le.refl _) (rv_two (rv1_tmp (by rfl)) (rv1_tmp (by rfl))) (by first | rfl | (simp only [go_sem, Nat.reduceAdd, Nat.reduceMul, reduceIte, Nat.reduceEqDiff, Nat.reduceLeDiff, Int.reduceToNat, Int.reducePow, Int.reduceBEq, Int.reduceBNe, Int.reduceLT, Int.reduceLE, decide_true, decide_false])) ?_)
      rfl
theorem assigned_no (cs : List (List Int)) (s : List Int) (h8 : cs.length ≤ 8) (hs : s.Pairwise (· < ·)) (h : crowdB cs s = true) : PCall Try.prog 38 [rows cs, ints s] (fun r => r = .tup [.nilS, .bool false]) := by
  have hex : ¬ ∀ i (hi : i < cs.length), cntIn cs[i] s ≤ 1 := fun hh => by
    obtain ⟨c, hc, h1⟩ := crowd_t h
    obtain ⟨i, hi, rfl⟩ := List.getElem_of_mem hc
    have := hh i hi; omega
  
  (refine enterS Try.func38 Try.ntmps38 ?_)
  (repeat' (first | (refine hK _ ?_; clear hK K) | (refine aw_seq (fun K hK => ?_)) | (refine gR ?_; refine regS ?_) | (refine aw_block ?_)))
  (refine awVirt 6 100 2 16 61 ?_)
  refine aw_loop_at [4, 5, 6, 7, 8, 9, 10, 13, 14, 15, 16, 17, 18, 19, 20, 21, 22, 23, 24, 25, 26, 27, 28, 29, 30, 31, 32, 33, 34] (fun k : Nat => k ≤ cs.length ∧ ∀ i (hi : i < cs.length), i < k → cntIn cs[i] s ≤ 1) (fun k => cs.length - k) (fun k => [(13, .int k), (6, .sl 2 16 100 0 (goalK cs s k).length)]) (fun k => [(100, ⟨61, (goalK cs s k).flatMap asc, false⟩)]) 0 ⟨by omega, by omega⟩ ?_ ?_
  · (refine atS ?_)
    (exact weakS)
  · rintro k ⟨hk, hn⟩ K hK
    (refine atS ?_)
    have hgl := goalK_len cs s k
    by_cases hlt : k < cs.length
    · have hc0 := cntIn_nn cs[k] s
      have hyes := goalK_yes (s := s) hlt
      have hno := goalK_no (s := s) hlt
      by_cases hc1 : cntIn cs[k] s ≤ 1
      · 
        (repeat' (first | (refine hK _ ?_; clear hK K) | (refine aw_seq (fun K hK => ?_)) | (refine gR ?_; refine regS ?_) | (refine gC 37 ?_; refine callS (valueC_pc cs[k] s hs hc1) ?_) | (refine stk_op (fun K hK => ?_); (refine appendS ?_; simp only [go_sem, Nat.reduceAdd, Nat.reduceMul, reduceIte, Nat.reduceEqDiff, Nat.reduceLeDiff, Int.reduceToNat, Int.reducePow, Int.reduceBEq, Int.reduceBNe, Int.reduceLT, Int.reduceLE, decide_true, decide_false, Nat.reduceBEq, Bool.or_self, Bool.or_true, Bool.true_or, Bool.or_false, Bool.false_or, Bool.and_true, Bool.true_and, Bool.and_false, Bool.false_and, Bool.and_self, Bool.not_true, Bool.not_false, List.cons_append, List.nil_append, List.append_nil, if_true, if_false, Bool.false_eq_true, keysH])) | (refine gE ?_; (first | (refine exN ?_) | (refine exS (fun _ => ?_)))) | (refine gQ ?_; refine condS (fun hc => ?_) (fun hc => ?_) <;> (try (first | contradiction | (exfalso; omega)))) | (refine aw_block ?_) | (refine gS ?_; refine skipS ?_)))
        · refine ⟨k + 1, ⟨by omega, upto_step hn fun _ => hc1⟩, by omega, ?_⟩
          rw [hyes (by omega)]
          (refine atS ?_)
          (refine le_weak (by (repeat (first | exact .nil | refine .drop ?_ | refine weak_keep ?_ (by first | rfl | (simp))))) (by (repeat refine hsub_hasE (by rfl) (by first | rfl | (simp)) ?_); exact hsub_nil _))
        · refine ⟨k + 1, ⟨by omega, upto_step hn fun _ => hc1⟩, by omega, ?_⟩
          rw [hno (by omega)]
          (refine atS ?_)
          (exact weakS)
      · 
        
        (repeat' (first | (refine hK _ ?_; clear hK K) | (refine aw_seq (fun K hK => ?_)) | (refine gR ?_; refine regS ?_) | (refine gC 37 ?_; refine callS (value_pc cs[k] s hs) ?_) | (refine gE ?_; refine exS (fun _ => ?_)) | (refine gQ ?_; refine condS (fun hc => ?_) (fun hc => ?_) <;> (try (first | contradiction | (exfalso; omega)))) | (refine aw_block ?_) | (refine gT ?_; refine retS ?_) | (refine gS ?_; refine skipS ?_)))
        (refine fin_le (Le.refl _) (rv_two (rv1_tmp (by rfl)) (rv1_tmp (by rfl))) (by first | rfl | (simp only [go_sem, Nat.reduceAdd, Nat.reduceMul, reduceIte, Nat.reduceEqDiff, Nat.reduceLeDiff, Int.reduceToNat, Int.reducePow, Int.reduceBEq, Int.reduceBNe, Int.reduceLT, Int.reduceLE, decide_true, decide_false])) ?_)
        rfl
    · exact absurd (fun i hi => hn i hi (by omega)) hex

/-! the task that there is not -/
abbrev zeroM : MTask := ⟨[], [], [], []⟩
theorem zeroMLe : ALeL [.nilS, .nilS, .nilS, .nilS] zeroM.cs := ⟨ALe.nil 1 8, ALe.nil 1 8, ALe.nil 2 16, ALe.nil 3 56, trivial⟩
abbrev noM (c d : Int) : AV := .tup [zeroM.av, ints [], .agg [.int c, .int d]]
theorem tooLarge_pc : PCall Try.prog 36 [] (fun r => r = noM 10 (-9)) := by
  (refine enterS Try.func36 Try.ntmps36 ?_)
  (repeat' (first | (refine hK _ ?_; clear hK K) | (refine aw_seq (fun K hK => ?_)) | (refine gR ?_; refine regS ?_) | (refine gE ?_; refine exN ?_) | (refine gT ?_; refine retS ?_)))
  refine fin_weak (le_ale 0 (by rfl) zeroMLe) ?_
  refine fin_weak (le_aleF 1 rfl (ALe.nil 1 8)) ?_
  simp only [go_sem, Nat.reduceAdd, Nat.reduceMul, reduceIte, Nat.reduceEqDiff, Nat.reduceLeDiff, Int.reduceToNat, Int.reducePow, Int.reduceBEq, Int.reduceBNe, Int.reduceLT, Int.reduceLE, decide_true, decide_false, Nat.reduceBEq, Bool.or_self, Bool.or_true, Bool.true_or, Bool.or_false, Bool.false_or, Bool.and_true, Bool.true_and, Bool.and_false, Bool.false_and, Bool.and_self, Bool.not_true, Bool.not_false, List.cons_append, List.nil_append, List.append_nil, if_true, if_false, Bool.false_eq_true, keysH]
  (refine fin_le (Le.refl _) (rv_three (rv1_cell (by first | exact pv_load (by rfl) (by rfl) (by rfl) (by rfl) | exact pv_loadA (by rfl) (by rfl) (by rfl) (by first | decide | simp))) (rv1_tmp (by rfl)) (rv1_cell (by first | exact pv_load (by rfl) (by rfl) (by rfl) (by rfl) | exact pv_loadA (by rfl) (by rfl) (by rfl) (by first | decide | simp)))) (by first | rfl | (simp only [go_sem, Nat.reduceAdd, Nat.reduceMul, reduceIte, Nat.reduceEqDiff, Nat.reduceLeDiff, Int.reduceToNat, Int.reducePow, Int.reduceBEq, Int.reduceBNe, Int.reduceLT, Int.reduceLE, decide_true, decide_false])) ?_)
  rfl

end Go.Proofs.Ytpnpnbbanfgpgaa
