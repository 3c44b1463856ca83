import Derived.Test.YtfebpcdjajdgkaaCov



namespace Go.Proofs.Ytfebpcdjajdgkaa
open Go.Ab
open Go
set_option linter.unusedSimpArgs false
set_option linter.unusedVariables false
set_option maxRecDepth 10000
attribute [local irreducible] PV AOp AOps AW PCall OCall MCall WCall HCall Ab.Fin OFin OFin2 MFin HFin RV RV1 Le AStk AGrd ADr ADx ADo AOpX AAny
set_option maxHeartbeats 4000000
/-! the reference's classes -/
theorem covF_len2 : ∀ (l : List (List Int)) (p : List (List Int) × List Int), (∀ x ∈ l, x.length ≤ 1000) → (l.foldl covStep p).2.length ≤ p.2.length + 1000 * l.length
  | [], p, _ => by simp
  | x :: r, p, hx => by
    have h := covF_len2 r (covStep p x) fun y hy => hx y (by simp [hy])
    have h1 := hx x (by simp)
    have h3 := List.length_filter_le (fun y => !hasB p.2 y) x
    have h2 : (covStep p x).2.length ≤ p.2.length + 1000 := by
      unfold covStep
      split
      · omega
      · simp only [List.length_append]; unfold notIn; omega
    rw [List.foldl_cons, List.length_cons]
    omega
theorem coverT_app (n : Nat) (ls : List (List Int)) : coverT n ls = ((ls ++ singles n).foldl covStep ([], [])).1 := by rw [coverT, List.foldl_append]
theorem app_getL {ls : List (List Int)} {n k : Nat} (h : k < ls.length) (h2 : k < (ls ++ singles n).length) : (ls ++ singles n)[k] = ls[k] := List.getElem_append_left h
theorem app_getR {ls : List (List Int)} {n k : Nat} (h : ¬ k < ls.length) (h2 : k < (ls ++ singles n).length) : (ls ++ singles n)[k] = [(k : Int) - ls.length] := by
  rw [List.getElem_append_right (by omega), singles_get]
  rw [List.length_append, singles_len] at h2
  simp; omega
@[local go_sem] theorem purge_app (id : Nat) (a b : List AV) : AV.purgeL id (a ++ b) = AV.purgeL id a ++ AV.purgeL id b := purgeL_append id a b
@[local go_sem] theorem cells_intsW (xs : List Int) : (xs.map AV.int).flatMap AV.cells = xs.map AV.int := flat_ints xs
@[local go_sem] theorem cast_1 : ((1 : Nat) : Int) = 1 := rfl
@[local go_sem] theorem cast_0 : ((0 : Nat) : Int) = 0 := rfl
theorem coverOf_pc (t : Task) (ls : List (List Int)) (hw : WfT t) (hs : ∀ l ∈ ls, isSet l t.facts = true) (h24 : ls.length ≤ 24) : PCall Try.prog 18 [t.av, rows ls] (fun r => r = rows (coverT t.facts.toNat ls)) := by
  have hn0 := hw.f0
  have hn1 := hw.f1
  obtain ⟨n, hn⟩ := Int.eq_ofNat_of_zero_le hn0
  have hnn : t.facts.toNat = n := by omega
  have hll : (ls ++ singles n).length = ls.length + n := by rw [List.length_append, singles_len]
  have hbd : ∀ x ∈ ls ++ singles n, x.length ≤ 1000 := fun x hx => by
    rcases List.mem_append.1 hx with h | h
    · exact set_len (hs x h) hn0 hn1
    · unfold singles at h
      obtain ⟨_, _, rfl⟩ := List.mem_map.1 h
      simp
  rw [hnn, coverT_app]
  (refine enterS Try.func18 Try.ntmps18 ?_)
  (repeat' (first | (refine hK _ ?_; clear hK K) | (refine aw_seq (fun K hK => ?_)) | (refine gR ?_; refine regS ?_) | (refine gE ?_; (first | (refine exN ?_) | (refine exS (fun _ => ?_)))) | (refine gC 65 ?_; refine callS (has_pc _ _) ?_) | (refine stk_op (fun K hK => ?_); (first | (refine aop_pv (pv_fieldAddrF (by rfl) (by rfl) (by first | decide | (simp; done) | (simp; omega))) ?_) | (refine aop_pv (pv_fieldAddrIF (by rfl) (by rfl) (by first | decide | (simp; done) | (simp; omega))) ?_) | (refine appendS ?_) | (refine virtS 46 52 1 8 3 ?_; refine appendS ?_) | (refine virtS 56 59 1 24 22 ?_; refine appendS ?_) | (refine virtS 60 62 1 8 3 ?_; refine appendS ?_))) | (refine gQ ?_; (first | (refine condT ?_) | (refine condF ?_) | (refine condS (fun hc => ?_) (fun hc => ?_) <;> (try (first | contradiction | (exfalso; omega)))))) | (refine gW ?_; refine wopsS ?_) | (refine aw_block ?_) | (refine gX ?_; refine exitS ?_) | (refine gT ?_; refine retS ?_) | (refine gS ?_; refine skipS ?_) | (apply_assumption (exfalso := false) (symm := false))))
  (refine awVirt 5 100 1 24 22 ?_)
  (refine awVirt 6 101 1 8 3 ?_)
  refine aw_loop_at [5, 6, 7, 8, 9, 10, 11, 12, 13, 14, 15, 16, 17, 18, 19, 20, 21, 22, 23, 24, 25, 26, 27, 28, 29, 30, 31, 32, 33, 34, 35, 36, 37, 38, 39, 40, 41, 42, 43, 44, 45, 46, 47, 48, 49, 50, 51, 52, 53, 54, 55, 56, 57, 58, 59, 60, 61, 62] (fun k : Nat => k ≤ ls.length + n) (fun k => ls.length + n - k) (fun k => [(7, .int k), (5, .sl 1 24 100 0 (((ls ++ singles n).take k).foldl covStep ([], [])).1.length), (6, .sl 1 8 101 0 (((ls ++ singles n).take k).foldl covStep ([], [])).2.length)])
    (fun k => [(2, ⟨25, t.cs, true⟩), (100, ⟨22, (((ls ++ singles n).take k).foldl covStep ([], [])).1.map fun x => ints x, false⟩), (101, ⟨3, (((ls ++ singles n).take k).foldl covStep ([], [])).2.map AV.int, false⟩)]) 0 (by omega) ?_ ?_
  · rw [List.take_zero]
    (simp only [sets, havoc, go_sem, Nat.reduceAdd, Nat.reduceMul, reduceIte, Nat.reduceEqDiff, Nat.reduceLeDiff, Int.reduceToNat, Int.reducePow, Int.reduceBEq, Int.reduceBNe, Int.reduceLT, Int.reduceLE, decide_true, decide_false])
    (exact weakS)
  · rintro k hk K hK
    (simp only [sets, havoc, go_sem, Nat.reduceAdd, Nat.reduceMul, reduceIte, Nat.reduceEqDiff, Nat.reduceLeDiff, Int.reduceToNat, Int.reducePow, Int.reduceBEq, Int.reduceBNe, Int.reduceLT, Int.reduceLE, decide_true, decide_false])
    by_cases hlt : k < ls.length + n
    · have hkl : k < (ls ++ singles n).length := by omega
      have hfl := foldl_take (f := covStep) (b := ([], [])) hkl
      have hlk : ((ls ++ singles n).take k).length ≤ k := by rw [List.length_take]; omega
      have hl1 : (((ls ++ singles n).take k).foldl covStep ([], [])).1.length ≤ 48 := by
        have := covF_len ((ls ++ singles n).take k) ([], [])
        simp only [List.length_nil] at this
        omega
      have hl2 : (((ls ++ singles n).take k).foldl covStep ([], [])).2.length ≤ 48000 := by
        have := covF_len2 ((ls ++ singles n).take k) ([], []) fun x hx => hbd x (List.mem_of_mem_take hx)
        simp only [List.length_nil] at this
        omega
      have hx1 := hbd _ (List.getElem_mem hkl)
      generalize ((ls ++ singles n).take k).foldl covStep ([], []) = p at *
      (repeat' (first | (refine hK _ ?_; clear hK K) | (refine aw_seq (fun K hK => ?_)) | (refine gRx 9 (by rfl) ?_; refine regS ?_) | (refine gE ?_; (first | (refine exN ?_) | (refine exS (fun _ => ?_)))) | (refine gC 65 ?_; refine callS (has_pc _ _) ?_) | (refine stk_op (fun K hK => ?_); (first | (refine aop_pv (pv_fieldAddrF (by rfl) (by rfl) (by first | decide | (simp; done) | (simp; omega))) ?_) | (refine aop_pv (pv_fieldAddrIF (by rfl) (by rfl) (by first | decide | (simp; done) | (simp; omega))) ?_) | (refine appendS ?_) | (refine virtS 46 52 1 8 3 ?_; refine appendS ?_) | (refine virtS 56 59 1 24 22 ?_; refine appendS ?_) | (refine virtS 60 62 1 8 3 ?_; refine appendS ?_))) | (refine gQ ?_; (first | (refine condT ?_) | (refine condF ?_) | (refine condS (fun hc => ?_) (fun hc => ?_) <;> (try (first | contradiction | (exfalso; omega)))))) | (refine gW ?_; refine wopsS ?_) | (refine aw_block ?_) | (refine gX ?_; refine exitS ?_) | (refine gT ?_; refine retS ?_) | (refine gS ?_; refine skipS ?_) | (apply_assumption (exfalso := false) (symm := false))))
      · have hkt : k < ls.length := by omega
        rw [app_getL hkt hkl] at hfl hx1
        (repeat' (first | (refine hK _ ?_; clear hK K) | (refine aw_seq (fun K hK => ?_)) | (refine gR ?_; refine regS ?_) | (refine gE ?_; (first | (refine exN ?_) | (refine exS (fun _ => ?_)))) | (refine gC 65 ?_; refine callS (has_pc _ _) ?_) | (refine stk_op (fun K hK => ?_); (first | (refine aop_pv (pv_fieldAddrF (by rfl) (by rfl) (by first | decide | (simp; done) | (simp; omega))) ?_) | (refine aop_pv (pv_fieldAddrIF (by rfl) (by rfl) (by first | decide | (simp; done) | (simp; omega))) ?_) | (refine appendS ?_) | (refine virtS 46 52 1 8 3 ?_; refine appendS ?_) | (refine virtS 56 59 1 24 22 ?_; refine appendS ?_) | (refine virtS 60 62 1 8 3 ?_; refine appendS ?_))) | (refine gQ ?_; (first | (refine condT ?_) | (refine condF ?_) | (refine condS (fun hc => ?_) (fun hc => ?_) <;> (try (first | contradiction | (exfalso; omega)))))) | (refine gW ?_; refine wopsS ?_) | (refine aw_block ?_) | (refine gX ?_; refine exitS ?_) | (refine gT ?_; refine retS ?_) | (refine gS ?_; refine skipS ?_) | (apply_assumption (exfalso := false) (symm := false))))
        (refine awVirt 9 102 1 8 3 ?_)
        refine aw_loop_at [9, 10, 33, 34, 35, 36, 37, 38, 39, 40, 41, 42, 43, 44, 45, 46, 47, 48, 49, 50, 51, 52] (fun j : Nat => j ≤ (ls[k]).length) (fun j => (ls[k]).length - j) (fun j => [(10, .int j), (9, .sl 1 8 102 0 (notIn p.2 ((ls[k]).take j)).length)])
          (fun j => [(2, ⟨25, t.cs, true⟩), (100, ⟨22, p.1.map fun x => ints x, false⟩), (101, ⟨3, p.2.map AV.int, false⟩), (102, ⟨3, (notIn p.2 ((ls[k]).take j)).map AV.int, false⟩)]) 0 (by omega) ?_ ?_
        · (simp only [sets, havoc, go_sem, Nat.reduceAdd, Nat.reduceMul, reduceIte, Nat.reduceEqDiff, Nat.reduceLeDiff, Int.reduceToNat, Int.reducePow, Int.reduceBEq, Int.reduceBNe, Int.reduceLT, Int.reduceLE, decide_true, decide_false])
          (exact weakS)
        · rintro j hj K hK
          (simp only [sets, havoc, go_sem, Nat.reduceAdd, Nat.reduceMul, reduceIte, Nat.reduceEqDiff, Nat.reduceLeDiff, Int.reduceToNat, Int.reducePow, Int.reduceBEq, Int.reduceBNe, Int.reduceLT, Int.reduceLE, decide_true, decide_false])
          have hrl := notIn_len (del := p.2) (s := ls[k]) (k := j)
          by_cases hjt : j < (ls[k]).length
          · skip
            
            (repeat' (first | (refine hK _ ?_; clear hK K) | (refine aw_seq (fun K hK => ?_)) | (refine gR ?_; refine regS ?_) | (refine gE ?_; (first | (refine exN ?_) | (refine exS (fun _ => ?_)))) | (refine gC 65 ?_; refine callS (has_pc _ _) ?_) | (refine stk_op (fun K hK => ?_); (first | ((refine aop_callB (le_sealMap (f := AV.int) 101 8 p.2.length p.2 (by rfl) (by first | rfl | assumption | simp) (fun _ => rfl) (fun _ => rfl)) (by first | (simp only [go_sem, Nat.reduceAdd, Nat.reduceMul, reduceIte, Nat.reduceEqDiff, Nat.reduceLeDiff, Int.reduceToNat, Int.reducePow, Int.reduceBEq, Int.reduceBNe, Int.reduceLT, Int.reduceLE, decide_true, decide_false, AV.sealSL, sealS_any, sealS_v, sealS_isl, sealS_iptr, sealS_ptr, sealS_sl, sealS_agg, sealS_tup, sealS_fn, purge_agg, purge_tup, purge_fn, and_self, AV.mentL, AV.ment, Bool.or_self]; done) | (simp only [go_sem, Nat.reduceAdd, Nat.reduceMul, reduceIte, Nat.reduceEqDiff, Nat.reduceLeDiff, Int.reduceToNat, Int.reducePow, Int.reduceBEq, Int.reduceBNe, Int.reduceLT, Int.reduceLE, decide_true, decide_false, AV.sealSL, sealS_any, sealS_v, sealS_isl, sealS_iptr, sealS_ptr, sealS_sl, sealS_agg, sealS_tup, sealS_fn, purge_agg, purge_tup, purge_fn, and_self, AV.mentL, AV.ment, Bool.or_self]; rfl)) (has_pc _ _) (by rfl) (fun x hx => ?_); obtain rfl := hx; refine ⟨rfl, ?_⟩)) | (refine aop_pv (pv_fieldAddrF (by rfl) (by rfl) (by first | decide | (simp; done) | (simp; omega))) ?_) | (refine aop_pv (pv_fieldAddrIF (by rfl) (by rfl) (by first | decide | (simp; done) | (simp; omega))) ?_) | (refine appendS ?_) | (refine virtS 46 52 1 8 3 ?_; refine appendS ?_) | (refine virtS 56 59 1 24 22 ?_; refine appendS ?_) | (refine virtS 60 62 1 8 3 ?_; refine appendS ?_))) | (refine gQ ?_; (first | (refine condT ?_) | (refine condF ?_) | (refine condS (fun hc => ?_) (fun hc => ?_) <;> (try (first | contradiction | (exfalso; omega)))))) | (refine gW ?_; refine wopsS ?_) | (refine aw_block ?_) | (refine gX ?_; refine exitS ?_) | (refine gT ?_; refine retS ?_) | (refine gS ?_; refine skipS ?_) | (apply_assumption (exfalso := false) (symm := false))))
            
            · refine ⟨j + 1, by omega, by omega, ?_⟩
              rw [notIn_yes hjt (by assumption)]
              (simp only [sets, havoc, go_sem, Nat.reduceAdd, Nat.reduceMul, reduceIte, Nat.reduceEqDiff, Nat.reduceLeDiff, Int.reduceToNat, Int.reducePow, Int.reduceBEq, Int.reduceBNe, Int.reduceLT, Int.reduceLE, decide_true, decide_false])
              (exact weakS)
            · refine ⟨j + 1, by omega, by omega, ?_⟩
              rw [notIn_no hjt (by assumption)]
              (simp only [sets, havoc, go_sem, Nat.reduceAdd, Nat.reduceMul, reduceIte, Nat.reduceEqDiff, Nat.reduceLeDiff, Int.reduceToNat, Int.reducePow, Int.reduceBEq, Int.reduceBNe, Int.reduceLT, Int.reduceLE, decide_true, decide_false])
              (exact weakS)
          · obtain rfl : j = (ls[k]).length := by omega
            rw [List.take_length] at *
            generalize hmd : notIn p.2 (ls[k]) = m at *
            (repeat' (first | (refine hK _ ?_; clear hK K) | (refine aw_seq (fun K hK => ?_)) | (refine gRx 16 (by rfl) ?_; refine regS ?_) | (refine gE ?_; (first | (refine exN ?_) | (refine exS (fun _ => ?_)))) | (refine gC 65 ?_; refine callS (has_pc _ _) ?_) | (refine stk_op (fun K hK => ?_); (first | (refine aop_pv (pv_fieldAddrF (by rfl) (by rfl) (by first | decide | (simp; done) | (simp; omega))) ?_) | (refine aop_pv (pv_fieldAddrIF (by rfl) (by rfl) (by first | decide | (simp; done) | (simp; omega))) ?_) | (refine appendS ?_) | (refine virtS 46 52 1 8 3 ?_; refine appendS ?_) | (refine virtS 56 59 1 24 22 ?_; refine appendS ?_) | (refine virtS 60 62 1 8 3 ?_; refine appendS ?_))) | (refine gQ ?_; (first | (refine condT ?_) | (refine condF ?_) | (refine condS (fun hc => ?_) (fun hc => ?_) <;> (try (first | contradiction | (exfalso; omega)))))) | (refine gW ?_; refine wopsS ?_) | (refine aw_block ?_) | (refine gX ?_; refine exitS ?_) | (refine gT ?_; refine retS ?_) | (refine gS ?_; refine skipS ?_) | (apply_assumption (exfalso := false) (symm := false))))
            · refine aw_le (le_sealMap (f := AV.int) 102 8 m.length m (by rfl) rfl (fun _ => rfl) (fun _ => rfl)) ?_
              simp only [AV.sealSL, sealS_any, sealS_v, sealS_isl, sealS_iptr, sealS_ptr, sealS_sl, sealS_agg, sealS_tup, sealS_fn, purge_agg, purge_tup, purge_fn, and_self, AV.mentL, AV.ment, Bool.or_self, go_sem, Nat.reduceAdd, Nat.reduceMul, reduceIte, Nat.reduceEqDiff, Nat.reduceLeDiff, Int.reduceToNat, Int.reducePow, Int.reduceBEq, Int.reduceBNe, Int.reduceLT, Int.reduceLE, decide_true, decide_false]
              have hm : ¬ m = [] := by rintro rfl; simp at hc
              (repeat' (first | (refine hK _ ?_; clear hK K) | (refine aw_seq (fun K hK => ?_)) | (refine gR ?_; refine regS ?_) | (refine gE ?_; (first | (refine exN ?_) | (refine exS (fun _ => ?_)))) | (refine gC 65 ?_; refine callS (has_pc _ _) ?_) | (refine stk_op (fun K hK => ?_); (first | ((refine appendS ?_; simp only [go_sem, Nat.reduceAdd, Nat.reduceMul, reduceIte, Nat.reduceEqDiff, Nat.reduceLeDiff, Int.reduceToNat, Int.reducePow, Int.reduceBEq, Int.reduceBNe, Int.reduceLT, Int.reduceLE, decide_true, decide_false, Nat.reduceBEq, Bool.or_self, Bool.or_true, Bool.true_or, Bool.or_false, Bool.false_or, Bool.and_true, Bool.true_and, Bool.and_false, Bool.false_and, Bool.and_self, Bool.not_true, Bool.not_false, List.cons_append, List.nil_append, List.append_nil, if_true, if_false, Bool.false_eq_true, keysH])) | (refine aop_pv (pv_fieldAddrF (by rfl) (by rfl) (by first | decide | (simp; done) | (simp; omega))) ?_) | (refine aop_pv (pv_fieldAddrIF (by rfl) (by rfl) (by first | decide | (simp; done) | (simp; omega))) ?_) | (refine appendS ?_) | (refine virtS 46 52 1 8 3 ?_; refine appendS ?_) | (refine virtS 56 59 1 24 22 ?_; refine appendS ?_) | (refine virtS 60 62 1 8 3 ?_; refine appendS ?_))) | (refine gQ ?_; (first | (refine condT ?_) | (refine condF ?_) | (refine condS (fun hc => ?_) (fun hc => ?_) <;> (try (first | contradiction | (exfalso; omega)))))) | (refine gW ?_; refine wopsS ?_) | (refine aw_block ?_) | (refine gX ?_; refine exitS ?_) | (refine gT ?_; refine retS ?_) | (refine gS ?_; refine skipS ?_) | (apply_assumption (exfalso := false) (symm := false))))
              refine ⟨k + 1, by omega, by omega, ?_⟩
              rw [hfl, covStep, hmd, if_neg hm]
              (simp only [sets, havoc, go_sem, Nat.reduceAdd, Nat.reduceMul, reduceIte, Nat.reduceEqDiff, Nat.reduceLeDiff, Int.reduceToNat, Int.reducePow, Int.reduceBEq, Int.reduceBNe, Int.reduceLT, Int.reduceLE, decide_true, decide_false])
              (exact weakS)
            · have hm : m = [] := by apply List.eq_nil_of_length_eq_zero; omega
              (repeat' (first | (refine hK _ ?_; clear hK K) | (refine aw_seq (fun K hK => ?_)) | (refine gR ?_; refine regS ?_) | (refine gE ?_; (first | (refine exN ?_) | (refine exS (fun _ => ?_)))) | (refine gC 65 ?_; refine callS (has_pc _ _) ?_) | (refine stk_op (fun K hK => ?_); (first | (refine aop_pv (pv_fieldAddrF (by rfl) (by rfl) (by first | decide | (simp; done) | (simp; omega))) ?_) | (refine aop_pv (pv_fieldAddrIF (by rfl) (by rfl) (by first | decide | (simp; done) | (simp; omega))) ?_) | (refine appendS ?_) | (refine virtS 46 52 1 8 3 ?_; refine appendS ?_) | (refine virtS 56 59 1 24 22 ?_; refine appendS ?_) | (refine virtS 60 62 1 8 3 ?_; refine appendS ?_))) | (refine gQ ?_; (first | (refine condT ?_) | (refine condF ?_) | (refine condS (fun hc => ?_) (fun hc => ?_) <;> (try (first | contradiction | (exfalso; omega)))))) | (refine gW ?_; refine wopsS ?_) | (refine aw_block ?_) | (refine gX ?_; refine exitS ?_) | (refine gT ?_; refine retS ?_) | (refine gS ?_; refine skipS ?_) | (apply_assumption (exfalso := false) (symm := false))))
              refine ⟨k + 1, by omega, by omega, ?_⟩
              rw [hfl, covStep, hmd, if_pos hm]
              (simp only [sets, havoc, go_sem, Nat.reduceAdd, Nat.reduceMul, reduceIte, Nat.reduceEqDiff, Nat.reduceLeDiff, Int.reduceToNat, Int.reducePow, Int.reduceBEq, Int.reduceBNe, Int.reduceLT, Int.reduceLE, decide_true, decide_false])
              (exact weakS)
      · have hkt : ¬ k < ls.length := by omega
        rw [app_getR hkt hkl] at hfl hx1
        (repeat' (first | (refine hK _ ?_; clear hK K) | (refine aw_seq (fun K hK => ?_)) | (refine gR ?_; refine regS ?_) | (refine gE ?_; (first | (refine exN ?_) | (refine exS (fun _ => ?_)))) | (refine gC 65 ?_; refine callS (has_pc _ _) ?_) | (refine stk_op (fun K hK => ?_); (first | (refine aop_pv (pv_fieldAddrF (by rfl) (by rfl) (by first | decide | (simp; done) | (simp; omega))) ?_) | (refine aop_pv (pv_fieldAddrIF (by rfl) (by rfl) (by first | decide | (simp; done) | (simp; omega))) ?_) | (refine appendS ?_) | (refine virtS 46 52 1 8 3 ?_; refine appendS ?_) | (refine virtS 56 59 1 24 22 ?_; refine appendS ?_) | (refine virtS 60 62 1 8 3 ?_; refine appendS ?_))) | (refine gQ ?_; (first | (refine condT ?_) | (refine condF ?_) | (refine condS (fun hc => ?_) (fun hc => ?_) <;> (try (first | contradiction | (exfalso; omega)))))) | (refine gW ?_; refine wopsS ?_) | (refine aw_block ?_) | (refine gX ?_; refine exitS ?_) | (refine gT ?_; refine retS ?_) | (refine gS ?_; refine skipS ?_) | (apply_assumption (exfalso := false) (symm := false))))
        rw [show AV.isl 1 8 [AV.int ((k : Int) - ls.length)] = ints [(k : Int) - ls.length] from rfl]
        generalize [(k : Int) - ls.length] = l at *
        (refine awVirt 9 102 1 8 3 ?_)
        refine aw_loop_at [9, 10, 33, 34, 35, 36, 37, 38, 39, 40, 41, 42, 43, 44, 45, 46, 47, 48, 49, 50, 51, 52] (fun j : Nat => j ≤ (l).length) (fun j => (l).length - j) (fun j => [(10, .int j), (9, .sl 1 8 102 0 (notIn p.2 ((l).take j)).length)])
          (fun j => [(2, ⟨25, t.cs, true⟩), (100, ⟨22, p.1.map fun x => ints x, false⟩), (101, ⟨3, p.2.map AV.int, false⟩), (102, ⟨3, (notIn p.2 ((l).take j)).map AV.int, false⟩)]) 0 (by omega) ?_ ?_
        · (simp only [sets, havoc, go_sem, Nat.reduceAdd, Nat.reduceMul, reduceIte, Nat.reduceEqDiff, Nat.reduceLeDiff, Int.reduceToNat, Int.reducePow, Int.reduceBEq, Int.reduceBNe, Int.reduceLT, Int.reduceLE, decide_true, decide_false])
          (exact weakS)
        · rintro j hj K hK
          (simp only [sets, havoc, go_sem, Nat.reduceAdd, Nat.reduceMul, reduceIte, Nat.reduceEqDiff, Nat.reduceLeDiff, Int.reduceToNat, Int.reducePow, Int.reduceBEq, Int.reduceBNe, Int.reduceLT, Int.reduceLE, decide_true, decide_false])
          have hrl := notIn_len (del := p.2) (s := l) (k := j)
          by_cases hjt : j < (l).length
          · skip
            
            (repeat' (first | (refine hK _ ?_; clear hK K) | (refine aw_seq (fun K hK => ?_)) | (refine gR ?_; refine regS ?_) | (refine gE ?_; (first | (refine exN ?_) | (refine exS (fun _ => ?_)))) | (refine gC 65 ?_; refine callS (has_pc _ _) ?_) | (refine stk_op (fun K hK => ?_); (first | ((refine aop_callB (le_sealMap (f := AV.int) 101 8 p.2.length p.2 (by rfl) (by first | rfl | assumption | simp) (fun _ => rfl) (fun _ => rfl)) (by first | (simp only [go_sem, Nat.reduceAdd, Nat.reduceMul, reduceIte, Nat.reduceEqDiff, Nat.reduceLeDiff, Int.reduceToNat, Int.reducePow, Int.reduceBEq, Int.reduceBNe, Int.reduceLT, Int.reduceLE, decide_true, decide_false, AV.sealSL, sealS_any, sealS_v, sealS_isl, sealS_iptr, sealS_ptr, sealS_sl, sealS_agg, sealS_tup, sealS_fn, purge_agg, purge_tup, purge_fn, and_self, AV.mentL, AV.ment, Bool.or_self]; done) | (simp only [go_sem, Nat.reduceAdd, Nat.reduceMul, reduceIte, Nat.reduceEqDiff, Nat.reduceLeDiff, Int.reduceToNat, Int.reducePow, Int.reduceBEq, Int.reduceBNe, Int.reduceLT, Int.reduceLE, decide_true, decide_false, AV.sealSL, sealS_any, sealS_v, sealS_isl, sealS_iptr, sealS_ptr, sealS_sl, sealS_agg, sealS_tup, sealS_fn, purge_agg, purge_tup, purge_fn, and_self, AV.mentL, AV.ment, Bool.or_self]; rfl)) (has_pc _ _) (by rfl) (fun x hx => ?_); obtain rfl := hx; refine ⟨rfl, ?_⟩)) | (refine aop_pv (pv_fieldAddrF (by rfl) (by rfl) (by first | decide | (simp; done) | (simp; omega))) ?_) | (refine aop_pv (pv_fieldAddrIF (by rfl) (by rfl) (by first | decide | (simp; done) | (simp; omega))) ?_) | (refine appendS ?_) | (refine virtS 46 52 1 8 3 ?_; refine appendS ?_) | (refine virtS 56 59 1 24 22 ?_; refine appendS ?_) | (refine virtS 60 62 1 8 3 ?_; refine appendS ?_))) | (refine gQ ?_; (first | (refine condT ?_) | (refine condF ?_) | (refine condS (fun hc => ?_) (fun hc => ?_) <;> (try (first | contradiction | (exfalso; omega)))))) | (refine gW ?_; refine wopsS ?_) | (refine aw_block ?_) | (refine gX ?_; refine exitS ?_) | (refine gT ?_; refine retS ?_) | (refine gS ?_; refine skipS ?_) | (apply_assumption (exfalso := false) (symm := false))))
            
            · refine ⟨j + 1, by omega, by omega, ?_⟩
              rw [notIn_yes hjt (by assumption)]
              (simp only [sets, havoc, go_sem, Nat.reduceAdd, Nat.reduceMul, reduceIte, Nat.reduceEqDiff, Nat.reduceLeDiff, Int.reduceToNat, Int.reducePow, Int.reduceBEq, Int.reduceBNe, Int.reduceLT, Int.reduceLE, decide_true, decide_false])
              (exact weakS)
            · refine ⟨j + 1, by omega, by omega, ?_⟩
              rw [notIn_no hjt (by assumption)]
              (simp only [sets, havoc, go_sem, Nat.reduceAdd, Nat.reduceMul, reduceIte, Nat.reduceEqDiff, Nat.reduceLeDiff, Int.reduceToNat, Int.reducePow, Int.reduceBEq, Int.reduceBNe, Int.reduceLT, Int.reduceLE, decide_true, decide_false])
              (exact weakS)
          · obtain rfl : j = (l).length := by omega
            rw [List.take_length] at *
            generalize hmd : notIn p.2 (l) = m at *
            (repeat' (first | (refine hK _ ?_; clear hK K) | (refine aw_seq (fun K hK => ?_)) | (refine gRx 16 (by rfl) ?_; refine regS ?_) | (refine gE ?_; (first | (refine exN ?_) | (refine exS (fun _ => ?_)))) | (refine gC 65 ?_; refine callS (has_pc _ _) ?_) | (refine stk_op (fun K hK => ?_); (first | (refine aop_pv (pv_fieldAddrF (by rfl) (by rfl) (by first | decide | (simp; done) | (simp; omega))) ?_) | (refine aop_pv (pv_fieldAddrIF (by rfl) (by rfl) (by first | decide | (simp; done) | (simp; omega))) ?_) | (refine appendS ?_) | (refine virtS 46 52 1 8 3 ?_; refine appendS ?_) | (refine virtS 56 59 1 24 22 ?_; refine appendS ?_) | (refine virtS 60 62 1 8 3 ?_; refine appendS ?_))) | (refine gQ ?_; (first | (refine condT ?_) | (refine condF ?_) | (refine condS (fun hc => ?_) (fun hc => ?_) <;> (try (first | contradiction | (exfalso; omega)))))) | (refine gW ?_; refine wopsS ?_) | (refine aw_block ?_) | (refine gX ?_; refine exitS ?_) | (refine gT ?_; refine retS ?_) | (refine gS ?_; refine skipS ?_) | (apply_assumption (exfalso := false) (symm := false))))
            · refine aw_le (le_sealMap (f := AV.int) 102 8 m.length m (by rfl) rfl (fun _ => rfl) (fun _ => rfl)) ?_
              simp only [AV.sealSL, sealS_any, sealS_v, sealS_isl, sealS_iptr, sealS_ptr, sealS_sl, sealS_agg, sealS_tup, sealS_fn, purge_agg, purge_tup, purge_fn, and_self, AV.mentL, AV.ment, Bool.or_self, go_sem, Nat.reduceAdd, Nat.reduceMul, reduceIte, Nat.reduceEqDiff, Nat.reduceLeDiff, Int.reduceToNat, Int.reducePow, Int.reduceBEq, Int.reduceBNe, Int.reduceLT, Int.reduceLE, decide_true, decide_false]
              have hm : ¬ m = [] := by rintro rfl; simp at hc
              (repeat' (first | (refine hK _ ?_; clear hK K) | (refine aw_seq (fun K hK => ?_)) | (refine gR ?_; refine regS ?_) | (refine gE ?_; (first | (refine exN ?_) | (refine exS (fun _ => ?_)))) | (refine gC 65 ?_; refine callS (has_pc _ _) ?_) | (refine stk_op (fun K hK => ?_); (first | ((refine appendS ?_; simp only [go_sem, Nat.reduceAdd, Nat.reduceMul, reduceIte, Nat.reduceEqDiff, Nat.reduceLeDiff, Int.reduceToNat, Int.reducePow, Int.reduceBEq, Int.reduceBNe, Int.reduceLT, Int.reduceLE, decide_true, decide_false, Nat.reduceBEq, Bool.or_self, Bool.or_true, Bool.true_or, Bool.or_false, Bool.false_or, Bool.and_true, Bool.true_and, Bool.and_false, Bool.false_and, Bool.and_self, Bool.not_true, Bool.not_false, List.cons_append, List.nil_append, List.append_nil, if_true, if_false, Bool.false_eq_true, keysH])) | (refine aop_pv (pv_fieldAddrF (by rfl) (by rfl) (by first | decide | (simp; done) | (simp; omega))) ?_) | (refine aop_pv (pv_fieldAddrIF (by rfl) (by rfl) (by first | decide | (simp; done) | (simp; omega))) ?_) | (refine appendS ?_) | (refine virtS 46 52 1 8 3 ?_; refine appendS ?_) | (refine virtS 56 59 1 24 22 ?_; refine appendS ?_) | (refine virtS 60 62 1 8 3 ?_; refine appendS ?_))) | (refine gQ ?_; (first | (refine condT ?_) | (refine condF ?_) | (refine condS (fun hc => ?_) (fun hc => ?_) <;> (try (first | contradiction | (exfalso; omega)))))) | (refine gW ?_; refine wopsS ?_) | (refine aw_block ?_) | (refine gX ?_; refine exitS ?_) | (refine gT ?_; refine retS ?_) | (refine gS ?_; refine skipS ?_) | (apply_assumption (exfalso := false) (symm := false))))
              refine ⟨k + 1, by omega, by omega, ?_⟩
              rw [hfl, covStep, hmd, if_neg hm]
              (simp only [sets, havoc, go_sem, Nat.reduceAdd, Nat.reduceMul, reduceIte, Nat.reduceEqDiff, Nat.reduceLeDiff, Int.reduceToNat, Int.reducePow, Int.reduceBEq, Int.reduceBNe, Int.reduceLT, Int.reduceLE, decide_true, decide_false])
              (exact weakS)
            · have hm : m = [] := by apply List.eq_nil_of_length_eq_zero; omega
              (repeat' (first | (refine hK _ ?_; clear hK K) | (refine aw_seq (fun K hK => ?_)) | (refine gR ?_; refine regS ?_) | (refine gE ?_; (first | (refine exN ?_) | (refine exS (fun _ => ?_)))) | (refine gC 65 ?_; refine callS (has_pc _ _) ?_) | (refine stk_op (fun K hK => ?_); (first | (refine aop_pv (pv_fieldAddrF (by rfl) (by rfl) (by first | decide | (simp; done) | (simp; omega))) ?_) | (refine aop_pv (pv_fieldAddrIF (by rfl) (by rfl) (by first | decide | (simp; done) | (simp; omega))) ?_) | (refine appendS ?_) | (refine virtS 46 52 1 8 3 ?_; refine appendS ?_) | (refine virtS 56 59 1 24 22 ?_; refine appendS ?_) | (refine virtS 60 62 1 8 3 ?_; refine appendS ?_))) | (refine gQ ?_; (first | (refine condT ?_) | (refine condF ?_) | (refine condS (fun hc => ?_) (fun hc => ?_) <;> (try (first | contradiction | (exfalso; omega)))))) | (refine gW ?_; refine wopsS ?_) | (refine aw_block ?_) | (refine gX ?_; refine exitS ?_) | (refine gT ?_; refine retS ?_) | (refine gS ?_; refine skipS ?_) | (apply_assumption (exfalso := false) (symm := false))))
              refine ⟨k + 1, by omega, by omega, ?_⟩
              rw [hfl, covStep, hmd, if_pos hm]
              (simp only [sets, havoc, go_sem, Nat.reduceAdd, Nat.reduceMul, reduceIte, Nat.reduceEqDiff, Nat.reduceLeDiff, Int.reduceToNat, Int.reducePow, Int.reduceBEq, Int.reduceBNe, Int.reduceLT, Int.reduceLE, decide_true, decide_false])
              (exact weakS)
    · obtain rfl : k = ls.length + n := by omega
      rw [List.take_of_length_le (by omega)]
      (repeat' (first | (refine hK _ ?_; clear hK K) | (refine aw_seq (fun K hK => ?_)) | (refine gR ?_; refine regS ?_) | (refine gE ?_; (first | (refine exN ?_) | (refine exS (fun _ => ?_)))) | (refine gC 65 ?_; refine callS (has_pc _ _) ?_) | (refine stk_op (fun K hK => ?_); (first | (refine aop_pv (pv_fieldAddrF (by rfl) (by rfl) (by first | decide | (simp; done) | (simp; omega))) ?_) | (refine aop_pv (pv_fieldAddrIF (by rfl) (by rfl) (by first | decide | (simp; done) | (simp; omega))) ?_) | (refine appendS ?_) | (refine virtS 46 52 1 8 3 ?_; refine appendS ?_) | (refine virtS 56 59 1 24 22 ?_; refine appendS ?_) | (refine virtS 60 62 1 8 3 ?_; refine appendS ?_))) | (refine gQ ?_; (first | (refine condT ?_) | (refine condF ?_) | (refine condS (fun hc => ?_) (fun hc => ?_) <;> (try (first | contradiction | (exfalso; omega)))))) | (refine gW ?_; refine wopsS ?_) | (refine aw_block ?_) | (refine gX ?_; refine exitS ?_) | (refine gT ?_; refine retS ?_) | (refine gS ?_; refine skipS ?_) | (apply_assumption (exfalso := false) (symm := false))))
      refine fin_sl1 (f := fun x => ints x) ((ls ++ singles n).foldl covStep ([], [])).1 rfl (by rfl) (by rfl) rfl (fun _ => rfl) (fun _ => rfl) rfl
end Go.Proofs.Ytfebpcdjajdgkaa
