import Derived.Test.YtokmhfjledbglaaGrp



namespace Go.Proofs.Ytokmhfjledbglaa
open Go.Ab
open Go
set_option linter.unusedSimpArgs false
set_option linter.unusedVariables false
set_option maxRecDepth 10000
attribute [local irreducible] PV AOp AOps AW PCall OCall MCall WCall Ab.Fin OFin OFin2 MFin RV RV1 Le AStk AGrd ADr ADx ADo AOpX AAny
set_option maxHeartbeats 4000000
@[local go_sem] theorem purge_appG (id : Nat) (a b : List AV) : AV.purgeL id (a ++ b) = AV.purgeL id a ++ AV.purgeL id b := purgeL_append id a b
@[local go_sem] theorem cells_intsG (xs : List Int) : (xs.map AV.int).flatMap AV.cells = xs.map AV.int := flat_ints xs
@[local go_sem] theorem cells_rowsG (l : List (List Int)) : (l.map fun x => AV.isl 1 8 (x.map AV.int)).flatMap AV.cells = l.map fun x => AV.isl 1 8 (x.map AV.int) := by
  induction l with
  | nil => rfl
  | cons x r ih => rw [List.map_cons, List.flatMap_cons, ih]; rfl
@[local go_sem] theorem cells_rowsG2 (l : List (List Int)) : (l.map ints).flatMap AV.cells = l.map ints := cells_rowsG l
/-! the subsets, and the reference's groups -/

abbrev subP (n m : Nat) : Prop := ∀ (head : List Int) (p : Int) (q : Nat), p = (q : Int) → q + m = n → head.length + m ≤ 100 → PCall Try.prog 35 [ints head, .int p, .int (n : Int)] (fun r => r = rows (subsL head q m))
abbrev subO (n m : Nat) : Prop := ∀ (head : List Int) (p : Int) (q : Nat), p = (q : Int) → q + m = n → head.length + m ≤ 100 → OCall Try.prog 35 [ints head, .int p, .int (n : Int)] [11] (fun x hp => x = .sl 1 24 11 0 (subsL head q m).length ∧ ∃ fl, hp = [(11, ⟨22, (subsL head q m).map ints, fl⟩)])
theorem subs_both (n : Nat) (hn : n ≤ 8) : ∀ m, m ≤ 8 → subP n m ∧ subO n m
  | 0, _ => by
    constructor
    · rintro head p q rfl hq hl
      obtain rfl : q = n := by omega
      (refine enterS Try.func35 Try.ntmps35 ?_)
      (repeat' (first | (refine hK _ ?_; clear hK K) | (refine aw_seq (fun K hK => ?_)) | (refine gR ?_; refine regS ?_) | (refine stk_op (fun K hK => ?_); (first | (refine aop_pv (pv_eql (by rfl) (by rfl)) ?_) | (refine aop_pv (pv_eqlB (by rfl) (by rfl)) ?_) | (refine aop_pv (pv_eqlA (by rfl) (by rfl) (by kernel_rfl)) ?_) | (refine aop_callO (d := some 13) (copyI_oc 13000 _) (by rfl) (by first | exact free_one (by first | rfl | (simp only [go_sem, Nat.reduceAdd, Nat.reduceMul, reduceIte, Nat.reduceEqDiff, Nat.reduceLeDiff, Int.reduceToNat, Int.reducePow, Int.reduceBEq, Int.reduceBNe, Int.reduceLT, Int.reduceLE, decide_true, decide_false]; done) | (simp only [go_sem, Nat.reduceAdd, Nat.reduceMul, reduceIte, Nat.reduceEqDiff, Nat.reduceLeDiff, Int.reduceToNat, Int.reducePow, Int.reduceBEq, Int.reduceBNe, Int.reduceLT, Int.reduceLE, decide_true, decide_false]; rfl) | (simp [St.free, mentHp, AV.mentL, AV.ment])) | (intro id hid; simp only [List.mem_cons, List.not_mem_nil, or_false] at hid; rcases hid with rfl | rfl | rfl | rfl <;> first | rfl | (simp only [go_sem, Nat.reduceAdd, Nat.reduceMul, reduceIte, Nat.reduceEqDiff, Nat.reduceLeDiff, Int.reduceToNat, Int.reducePow, Int.reduceBEq, Int.reduceBNe, Int.reduceLT, Int.reduceLE, decide_true, decide_false]; done) | (simp only [St.free, mentHp, go_sem, Nat.reduceAdd, Nat.reduceMul, reduceIte, Nat.reduceEqDiff, Nat.reduceLeDiff, Int.reduceToNat, Int.reducePow, Int.reduceBEq, Int.reduceBNe, Int.reduceLT, Int.reduceLE, decide_true, decide_false]; done) | (simp only [go_sem, Nat.reduceAdd, Nat.reduceMul, reduceIte, Nat.reduceEqDiff, Nat.reduceLeDiff, Int.reduceToNat, Int.reducePow, Int.reduceBEq, Int.reduceBNe, Int.reduceLT, Int.reduceLE, decide_true, decide_false]; rfl) | (simp [St.free, mentHp, AV.mentL, AV.ment]; try exact mentL_flat _ _ _ fun _ => rfl))) (fun x hp hx => ?_); obtain ⟨rfl, rfl⟩ := hx) | (refine aop_callO (d := some 13) (copyI_oc0 _) (by rfl) (by first | exact free_one (by first | rfl | (simp only [go_sem, Nat.reduceAdd, Nat.reduceMul, reduceIte, Nat.reduceEqDiff, Nat.reduceLeDiff, Int.reduceToNat, Int.reducePow, Int.reduceBEq, Int.reduceBNe, Int.reduceLT, Int.reduceLE, decide_true, decide_false]; done) | (simp only [go_sem, Nat.reduceAdd, Nat.reduceMul, reduceIte, Nat.reduceEqDiff, Nat.reduceLeDiff, Int.reduceToNat, Int.reducePow, Int.reduceBEq, Int.reduceBNe, Int.reduceLT, Int.reduceLE, decide_true, decide_false]; rfl) | (simp [St.free, mentHp, AV.mentL, AV.ment])) | (intro id hid; simp only [List.mem_cons, List.not_mem_nil, or_false] at hid; rcases hid with rfl | rfl | rfl | rfl <;> first | rfl | (simp only [go_sem, Nat.reduceAdd, Nat.reduceMul, reduceIte, Nat.reduceEqDiff, Nat.reduceLeDiff, Int.reduceToNat, Int.reducePow, Int.reduceBEq, Int.reduceBNe, Int.reduceLT, Int.reduceLE, decide_true, decide_false]; done) | (simp only [St.free, mentHp, go_sem, Nat.reduceAdd, Nat.reduceMul, reduceIte, Nat.reduceEqDiff, Nat.reduceLeDiff, Int.reduceToNat, Int.reducePow, Int.reduceBEq, Int.reduceBNe, Int.reduceLT, Int.reduceLE, decide_true, decide_false]; done) | (simp only [go_sem, Nat.reduceAdd, Nat.reduceMul, reduceIte, Nat.reduceEqDiff, Nat.reduceLeDiff, Int.reduceToNat, Int.reducePow, Int.reduceBEq, Int.reduceBNe, Int.reduceLT, Int.reduceLE, decide_true, decide_false]; rfl) | (simp [St.free, mentHp, AV.mentL, AV.ment]; try exact mentL_flat _ _ _ fun _ => rfl))) (fun x hp hx => ?_); obtain ⟨rfl, rfl⟩ := hx) | (refine appendS ?_) | (refine virtS 13 16 1 8 3 ?_; refine appendS ?_) | (refine virtS 20 26 1 24 22 ?_; refine appendS ?_))) | (refine gE ?_; (first | (refine exN ?_) | (refine exS (fun _ => ?_)))) | (refine gQ ?_; (first | (refine condT ?_) | (refine condF ?_) | (refine condS (fun hc => ?_) (fun hc => ?_) <;> (try (first | contradiction | (exfalso; omega)))))) | (refine gW ?_; refine wopsS ?_) | (refine aw_block ?_) | (refine gX ?_; refine exitS ?_) | (refine gT ?_; refine retS ?_) | (refine gS ?_; refine skipS ?_) | (apply_assumption (exfalso := false) (symm := false))))
      (refine fin_le (Le.refl _) (rv_one (rv1_tmp (by rfl))) (by first | rfl | (simp only [go_sem, Nat.reduceAdd, Nat.reduceMul, reduceIte, Nat.reduceEqDiff, Nat.reduceLeDiff, Int.reduceToNat, Int.reducePow, Int.reduceBEq, Int.reduceBNe, Int.reduceLT, Int.reduceLE, decide_true, decide_false])) ?_)
      rfl
    · rintro head p q rfl hq hl
      obtain rfl : q = n := by omega
      (refine enterO Try.func35 Try.ntmps35 ?_)
      (repeat' (first | (refine hK _ ?_; clear hK K) | (refine aw_seq (fun K hK => ?_)) | (refine gRx 2 (by rfl) ?_; refine regS ?_) | (refine stk_op (fun K hK => ?_); (first | (refine aop_pv (pv_eql (by rfl) (by rfl)) ?_) | (refine aop_pv (pv_eqlB (by rfl) (by rfl)) ?_) | (refine aop_pv (pv_eqlA (by rfl) (by rfl) (by kernel_rfl)) ?_) | (refine aop_callO (d := some 13) (copyI_oc 13000 _) (by rfl) (by first | exact free_one (by first | rfl | (simp only [go_sem, Nat.reduceAdd, Nat.reduceMul, reduceIte, Nat.reduceEqDiff, Nat.reduceLeDiff, Int.reduceToNat, Int.reducePow, Int.reduceBEq, Int.reduceBNe, Int.reduceLT, Int.reduceLE, decide_true, decide_false]; done) | (simp only [go_sem, Nat.reduceAdd, Nat.reduceMul, reduceIte, Nat.reduceEqDiff, Nat.reduceLeDiff, Int.reduceToNat, Int.reducePow, Int.reduceBEq, Int.reduceBNe, Int.reduceLT, Int.reduceLE, decide_true, decide_false]; rfl) | (simp [St.free, mentHp, AV.mentL, AV.ment])) | (intro id hid; simp only [List.mem_cons, List.not_mem_nil, or_false] at hid; rcases hid with rfl | rfl | rfl | rfl <;> first | rfl | (simp only [go_sem, Nat.reduceAdd, Nat.reduceMul, reduceIte, Nat.reduceEqDiff, Nat.reduceLeDiff, Int.reduceToNat, Int.reducePow, Int.reduceBEq, Int.reduceBNe, Int.reduceLT, Int.reduceLE, decide_true, decide_false]; done) | (simp only [St.free, mentHp, go_sem, Nat.reduceAdd, Nat.reduceMul, reduceIte, Nat.reduceEqDiff, Nat.reduceLeDiff, Int.reduceToNat, Int.reducePow, Int.reduceBEq, Int.reduceBNe, Int.reduceLT, Int.reduceLE, decide_true, decide_false]; done) | (simp only [go_sem, Nat.reduceAdd, Nat.reduceMul, reduceIte, Nat.reduceEqDiff, Nat.reduceLeDiff, Int.reduceToNat, Int.reducePow, Int.reduceBEq, Int.reduceBNe, Int.reduceLT, Int.reduceLE, decide_true, decide_false]; rfl) | (simp [St.free, mentHp, AV.mentL, AV.ment]; try exact mentL_flat _ _ _ fun _ => rfl))) (fun x hp hx => ?_); obtain ⟨rfl, rfl⟩ := hx) | (refine aop_callO (d := some 13) (copyI_oc0 _) (by rfl) (by first | exact free_one (by first | rfl | (simp only [go_sem, Nat.reduceAdd, Nat.reduceMul, reduceIte, Nat.reduceEqDiff, Nat.reduceLeDiff, Int.reduceToNat, Int.reducePow, Int.reduceBEq, Int.reduceBNe, Int.reduceLT, Int.reduceLE, decide_true, decide_false]; done) | (simp only [go_sem, Nat.reduceAdd, Nat.reduceMul, reduceIte, Nat.reduceEqDiff, Nat.reduceLeDiff, Int.reduceToNat, Int.reducePow, Int.reduceBEq, Int.reduceBNe, Int.reduceLT, Int.reduceLE, decide_true, decide_false]; rfl) | (simp [St.free, mentHp, AV.mentL, AV.ment])) | (intro id hid; simp only [List.mem_cons, List.not_mem_nil, or_false] at hid; rcases hid with rfl | rfl | rfl | rfl <;> first | rfl | (simp only [go_sem, Nat.reduceAdd, Nat.reduceMul, reduceIte, Nat.reduceEqDiff, Nat.reduceLeDiff, Int.reduceToNat, Int.reducePow, Int.reduceBEq, Int.reduceBNe, Int.reduceLT, Int.reduceLE, decide_true, decide_false]; done) | (simp only [St.free, mentHp, go_sem, Nat.reduceAdd, Nat.reduceMul, reduceIte, Nat.reduceEqDiff, Nat.reduceLeDiff, Int.reduceToNat, Int.reducePow, Int.reduceBEq, Int.reduceBNe, Int.reduceLT, Int.reduceLE, decide_true, decide_false]; done) | (simp only [go_sem, Nat.reduceAdd, Nat.reduceMul, reduceIte, Nat.reduceEqDiff, Nat.reduceLeDiff, Int.reduceToNat, Int.reducePow, Int.reduceBEq, Int.reduceBNe, Int.reduceLT, Int.reduceLE, decide_true, decide_false]; rfl) | (simp [St.free, mentHp, AV.mentL, AV.ment]; try exact mentL_flat _ _ _ fun _ => rfl))) (fun x hp hx => ?_); obtain ⟨rfl, rfl⟩ := hx) | (refine appendS ?_) | (refine virtS 13 16 1 8 3 ?_; refine appendS ?_) | (refine virtS 20 26 1 24 22 ?_; refine appendS ?_))) | (refine gE ?_; (first | (refine exN ?_) | (refine exS (fun _ => ?_)))) | (refine gQ ?_; (first | (refine condT ?_) | (refine condF ?_) | (refine condS (fun hc => ?_) (fun hc => ?_) <;> (try (first | contradiction | (exfalso; omega)))))) | (refine gW ?_; refine wopsS ?_) | (refine aw_block ?_) | (refine gX ?_; refine exitS ?_) | (refine gT ?_; refine retS ?_) | (refine gS ?_; refine skipS ?_) | (apply_assumption (exfalso := false) (symm := false))))
      refine aw_region ?_
      refine aops_cons rfl (fun K1 hK1 => ?_)
      refine aop_pv pv_move ?_
      simp only [go_sem, Nat.reduceAdd, Nat.reduceMul, reduceIte, Nat.reduceEqDiff, Nat.reduceLeDiff, Int.reduceToNat, Int.reducePow, Int.reduceBEq, Int.reduceBNe, Int.reduceLT, Int.reduceLE, decide_true, decide_false]; refine hK1 _ ?_; clear hK1 K1
      refine aops_cons rfl (fun K1 hK1 => ?_)
      refine aop_of_x (aopx_buildSliceO (d := 11) ⟨by decide, by decide, by decide⟩ (by rfl) (by rfl) (by rfl) (by rfl) (by rfl) ?_)
      simp only [go_sem, Nat.reduceAdd, Nat.reduceMul, reduceIte, Nat.reduceEqDiff, Nat.reduceLeDiff, Int.reduceToNat, Int.reducePow, Int.reduceBEq, Int.reduceBNe, Int.reduceLT, Int.reduceLE, decide_true, decide_false]; refine hK1 _ ?_; clear hK1 K1
      refine wgo ?_
      (repeat' (first | (refine hK _ ?_; clear hK K) | (refine aw_seq (fun K hK => ?_)) | (refine gR ?_; refine regS ?_) | (refine stk_op (fun K hK => ?_); (first | (refine aop_pv (pv_eql (by rfl) (by rfl)) ?_) | (refine aop_pv (pv_eqlB (by rfl) (by rfl)) ?_) | (refine aop_pv (pv_eqlA (by rfl) (by rfl) (by kernel_rfl)) ?_) | (refine aop_callO (d := some 13) (copyI_oc 13000 _) (by rfl) (by first | exact free_one (by first | rfl | (simp only [go_sem, Nat.reduceAdd, Nat.reduceMul, reduceIte, Nat.reduceEqDiff, Nat.reduceLeDiff, Int.reduceToNat, Int.reducePow, Int.reduceBEq, Int.reduceBNe, Int.reduceLT, Int.reduceLE, decide_true, decide_false]; done) | (simp only [go_sem, Nat.reduceAdd, Nat.reduceMul, reduceIte, Nat.reduceEqDiff, Nat.reduceLeDiff, Int.reduceToNat, Int.reducePow, Int.reduceBEq, Int.reduceBNe, Int.reduceLT, Int.reduceLE, decide_true, decide_false]; rfl) | (simp [St.free, mentHp, AV.mentL, AV.ment])) | (intro id hid; simp only [List.mem_cons, List.not_mem_nil, or_false] at hid; rcases hid with rfl | rfl | rfl | rfl <;> first | rfl | (simp only [go_sem, Nat.reduceAdd, Nat.reduceMul, reduceIte, Nat.reduceEqDiff, Nat.reduceLeDiff, Int.reduceToNat, Int.reducePow, Int.reduceBEq, Int.reduceBNe, Int.reduceLT, Int.reduceLE, decide_true, decide_false]; done) | (simp only [St.free, mentHp, go_sem, Nat.reduceAdd, Nat.reduceMul, reduceIte, Nat.reduceEqDiff, Nat.reduceLeDiff, Int.reduceToNat, Int.reducePow, Int.reduceBEq, Int.reduceBNe, Int.reduceLT, Int.reduceLE, decide_true, decide_false]; done) | (simp only [go_sem, Nat.reduceAdd, Nat.reduceMul, reduceIte, Nat.reduceEqDiff, Nat.reduceLeDiff, Int.reduceToNat, Int.reducePow, Int.reduceBEq, Int.reduceBNe, Int.reduceLT, Int.reduceLE, decide_true, decide_false]; rfl) | (simp [St.free, mentHp, AV.mentL, AV.ment]; try exact mentL_flat _ _ _ fun _ => rfl))) (fun x hp hx => ?_); obtain ⟨rfl, rfl⟩ := hx) | (refine aop_callO (d := some 13) (copyI_oc0 _) (by rfl) (by first | exact free_one (by first | rfl | (simp only [go_sem, Nat.reduceAdd, Nat.reduceMul, reduceIte, Nat.reduceEqDiff, Nat.reduceLeDiff, Int.reduceToNat, Int.reducePow, Int.reduceBEq, Int.reduceBNe, Int.reduceLT, Int.reduceLE, decide_true, decide_false]; done) | (simp only [go_sem, Nat.reduceAdd, Nat.reduceMul, reduceIte, Nat.reduceEqDiff, Nat.reduceLeDiff, Int.reduceToNat, Int.reducePow, Int.reduceBEq, Int.reduceBNe, Int.reduceLT, Int.reduceLE, decide_true, decide_false]; rfl) | (simp [St.free, mentHp, AV.mentL, AV.ment])) | (intro id hid; simp only [List.mem_cons, List.not_mem_nil, or_false] at hid; rcases hid with rfl | rfl | rfl | rfl <;> first | rfl | (simp only [go_sem, Nat.reduceAdd, Nat.reduceMul, reduceIte, Nat.reduceEqDiff, Nat.reduceLeDiff, Int.reduceToNat, Int.reducePow, Int.reduceBEq, Int.reduceBNe, Int.reduceLT, Int.reduceLE, decide_true, decide_false]; done) | (simp only [St.free, mentHp, go_sem, Nat.reduceAdd, Nat.reduceMul, reduceIte, Nat.reduceEqDiff, Nat.reduceLeDiff, Int.reduceToNat, Int.reducePow, Int.reduceBEq, Int.reduceBNe, Int.reduceLT, Int.reduceLE, decide_true, decide_false]; done) | (simp only [go_sem, Nat.reduceAdd, Nat.reduceMul, reduceIte, Nat.reduceEqDiff, Nat.reduceLeDiff, Int.reduceToNat, Int.reducePow, Int.reduceBEq, Int.reduceBNe, Int.reduceLT, Int.reduceLE, decide_true, decide_false]; rfl) | (simp [St.free, mentHp, AV.mentL, AV.ment]; try exact mentL_flat _ _ _ fun _ => rfl))) (fun x hp hx => ?_); obtain ⟨rfl, rfl⟩ := hx) | (refine appendS ?_) | (refine virtS 13 16 1 8 3 ?_; refine appendS ?_) | (refine virtS 20 26 1 24 22 ?_; refine appendS ?_))) | (refine gE ?_; (first | (refine exN ?_) | (refine exS (fun _ => ?_)))) | (refine gQ ?_; (first | (refine condT ?_) | (refine condF ?_) | (refine condS (fun hc => ?_) (fun hc => ?_) <;> (try (first | contradiction | (exfalso; omega)))))) | (refine gW ?_; refine wopsS ?_) | (refine aw_block ?_) | (refine gX ?_; refine exitS ?_) | (refine gT ?_; refine retS ?_) | (refine gS ?_; refine skipS ?_) | (apply_assumption (exfalso := false) (symm := false))))
      refine ofin_sl rfl (by rfl) (by rfl) rfl ⟨rfl, _, rfl⟩
  | m + 1, hm => by
    obtain ⟨ih1, ih2⟩ := subs_both n hn m (by omega)
    constructor
    · skip
      rintro head p q rfl hq hl
      have hne : ¬ (q : Int) = (n : Int) := by omega
      have ho := ih2 (head ++ [(q : Int)]) ((q : Int) + 1) (q + 1) (by omega) (by omega) (by simp; omega)
      simp only [ints, List.map_append, List.map_cons, List.map_nil] at ho
      have hp := ih1 head ((q : Int) + 1) (q + 1) (by omega) (by omega) (by omega)
      have e1 : (subsL (head ++ [(q : Int)]) (q + 1) m).length = 2 ^ m := subsL_len
      have e2 : (subsL head (q + 1) m).length = 2 ^ m := subsL_len
      have e3 : subsL head q (m + 1) = subsL (head ++ [(q : Int)]) (q + 1) m ++ subsL head (q + 1) m := rfl
      have hpw : 2 ^ m ≤ 256 := Nat.pow_le_pow_right (i := m) (j := 8) (by omega) (by omega)
      rw [e3]
      generalize subsL (head ++ [(q : Int)]) (q + 1) m = L1 at *
      generalize subsL head (q + 1) m = L2 at *
      
      
      (refine enterS Try.func35 Try.ntmps35 ?_)
      (repeat' (first | (refine hK _ ?_; clear hK K) | (refine aw_seq (fun K hK => ?_)) | (refine gR ?_; refine regS ?_) | (refine gC 35 ?_; refine callS (hp) ?_) | (refine stk_op (fun K hK => ?_); (first | ((refine aop_le (le_sealMapM (f := AV.int) 13006 1 8 (head.length + 1) (head ++ [(q : Int)]) (by rfl) (by rw [flat_ints, List.map_append]; rfl) (by simp) (fun _ => rfl) (fun _ => rfl) (by omega)) ?_; simp only [AV.sealSL, sealS_any, sealS_v, sealS_isl, sealS_iptr, sealS_ptr, sealS_sl, sealS_agg, sealS_tup, sealS_fn, purge_agg, purge_tup, purge_fn, and_self, AV.mentL, AV.ment, Bool.or_self, go_sem, Nat.reduceAdd, Nat.reduceMul, reduceIte, Nat.reduceEqDiff, Nat.reduceLeDiff, Int.reduceToNat, Int.reducePow, Int.reduceBEq, Int.reduceBNe, Int.reduceLT, Int.reduceLE, decide_true, decide_false]; refine aop_callO (d := some 20) ho (by rfl) (by intro id hid; simp only [List.mem_cons, List.not_mem_nil, or_false] at hid; subst hid; rfl) (fun x hp hx => ?_); obtain ⟨rfl, fl, rfl⟩ := hx)) | (refine aop_pv (pv_eql (by rfl) (by rfl)) ?_) | (refine aop_pv (pv_eqlB (by rfl) (by rfl)) ?_) | (refine aop_pv (pv_eqlA (by rfl) (by rfl) (by kernel_rfl)) ?_) | (refine aop_callO (d := some 13) (copyI_oc 13000 _) (by rfl) (by first | exact free_one (by first | rfl | (simp only [go_sem, Nat.reduceAdd, Nat.reduceMul, reduceIte, Nat.reduceEqDiff, Nat.reduceLeDiff, Int.reduceToNat, Int.reducePow, Int.reduceBEq, Int.reduceBNe, Int.reduceLT, Int.reduceLE, decide_true, decide_false]; done) | (simp only [go_sem, Nat.reduceAdd, Nat.reduceMul, reduceIte, Nat.reduceEqDiff, Nat.reduceLeDiff, Int.reduceToNat, Int.reducePow, Int.reduceBEq, Int.reduceBNe, Int.reduceLT, Int.reduceLE, decide_true, decide_false]; rfl) | (simp [St.free, mentHp, AV.mentL, AV.ment])) | (intro id hid; simp only [List.mem_cons, List.not_mem_nil, or_false] at hid; rcases hid with rfl | rfl | rfl | rfl <;> first | rfl | (simp only [go_sem, Nat.reduceAdd, Nat.reduceMul, reduceIte, Nat.reduceEqDiff, Nat.reduceLeDiff, Int.reduceToNat, Int.reducePow, Int.reduceBEq, Int.reduceBNe, Int.reduceLT, Int.reduceLE, decide_true, decide_false]; done) | (simp only [St.free, mentHp, go_sem, Nat.reduceAdd, Nat.reduceMul, reduceIte, Nat.reduceEqDiff, Nat.reduceLeDiff, Int.reduceToNat, Int.reducePow, Int.reduceBEq, Int.reduceBNe, Int.reduceLT, Int.reduceLE, decide_true, decide_false]; done) | (simp only [go_sem, Nat.reduceAdd, Nat.reduceMul, reduceIte, Nat.reduceEqDiff, Nat.reduceLeDiff, Int.reduceToNat, Int.reducePow, Int.reduceBEq, Int.reduceBNe, Int.reduceLT, Int.reduceLE, decide_true, decide_false]; rfl) | (simp [St.free, mentHp, AV.mentL, AV.ment]; try exact mentL_flat _ _ _ fun _ => rfl))) (fun x hp hx => ?_); obtain ⟨rfl, rfl⟩ := hx) | (refine aop_callO (d := some 13) (copyI_oc0 _) (by rfl) (by first | exact free_one (by first | rfl | (simp only [go_sem, Nat.reduceAdd, Nat.reduceMul, reduceIte, Nat.reduceEqDiff, Nat.reduceLeDiff, Int.reduceToNat, Int.reducePow, Int.reduceBEq, Int.reduceBNe, Int.reduceLT, Int.reduceLE, decide_true, decide_false]; done) | (simp only [go_sem, Nat.reduceAdd, Nat.reduceMul, reduceIte, Nat.reduceEqDiff, Nat.reduceLeDiff, Int.reduceToNat, Int.reducePow, Int.reduceBEq, Int.reduceBNe, Int.reduceLT, Int.reduceLE, decide_true, decide_false]; rfl) | (simp [St.free, mentHp, AV.mentL, AV.ment])) | (intro id hid; simp only [List.mem_cons, List.not_mem_nil, or_false] at hid; rcases hid with rfl | rfl | rfl | rfl <;> first | rfl | (simp only [go_sem, Nat.reduceAdd, Nat.reduceMul, reduceIte, Nat.reduceEqDiff, Nat.reduceLeDiff, Int.reduceToNat, Int.reducePow, Int.reduceBEq, Int.reduceBNe, Int.reduceLT, Int.reduceLE, decide_true, decide_false]; done) | (simp only [St.free, mentHp, go_sem, Nat.reduceAdd, Nat.reduceMul, reduceIte, Nat.reduceEqDiff, Nat.reduceLeDiff, Int.reduceToNat, Int.reducePow, Int.reduceBEq, Int.reduceBNe, Int.reduceLT, Int.reduceLE, decide_true, decide_false]; done) | (simp only [go_sem, Nat.reduceAdd, Nat.reduceMul, reduceIte, Nat.reduceEqDiff, Nat.reduceLeDiff, Int.reduceToNat, Int.reducePow, Int.reduceBEq, Int.reduceBNe, Int.reduceLT, Int.reduceLE, decide_true, decide_false]; rfl) | (simp [St.free, mentHp, AV.mentL, AV.ment]; try exact mentL_flat _ _ _ fun _ => rfl))) (fun x hp hx => ?_); obtain ⟨rfl, rfl⟩ := hx) | (refine appendS ?_) | (refine virtS 13 16 1 8 3 ?_; refine appendS ?_) | (refine virtS 20 26 1 24 22 ?_; refine appendS ?_))) | (refine gE ?_; (first | (refine exN ?_) | (refine exS (fun _ => ?_)))) | (refine gQ ?_; (first | (refine condT ?_) | (refine condF ?_) | (refine condS (fun hc => ?_) (fun hc => ?_) <;> (try (first | contradiction | (exfalso; omega)))))) | (refine gW ?_; refine wopsS ?_) | (refine aw_block ?_) | (refine gX ?_; refine exitS ?_) | (refine gT ?_; refine retS ?_) | (refine gS ?_; refine skipS ?_) | (apply_assumption (exfalso := false) (symm := false))))
      refine fin_sl1 (f := fun x => ints x) (L1 ++ L2) rfl (by rfl) (by rw [List.map_append]; rfl) (by simp) (fun _ => rfl) (fun _ => rfl) rfl
    · skip
      rintro head p q rfl hq hl
      have hne : ¬ (q : Int) = (n : Int) := by omega
      have ho := ih2 (head ++ [(q : Int)]) ((q : Int) + 1) (q + 1) (by omega) (by omega) (by simp; omega)
      simp only [ints, List.map_append, List.map_cons, List.map_nil] at ho
      have hp := ih1 head ((q : Int) + 1) (q + 1) (by omega) (by omega) (by omega)
      have e1 : (subsL (head ++ [(q : Int)]) (q + 1) m).length = 2 ^ m := subsL_len
      have e2 : (subsL head (q + 1) m).length = 2 ^ m := subsL_len
      have e3 : subsL head q (m + 1) = subsL (head ++ [(q : Int)]) (q + 1) m ++ subsL head (q + 1) m := rfl
      have hpw : 2 ^ m ≤ 256 := Nat.pow_le_pow_right (i := m) (j := 8) (by omega) (by omega)
      rw [e3]
      generalize subsL (head ++ [(q : Int)]) (q + 1) m = L1 at *
      generalize subsL head (q + 1) m = L2 at *
      
      
      (refine enterO Try.func35 Try.ntmps35 ?_)
      (repeat' (first | (refine hK _ ?_; clear hK K) | (refine aw_seq (fun K hK => ?_)) | (refine gR ?_; refine regS ?_) | (refine gC 35 ?_; refine callS (hp) ?_) | (refine stk_op (fun K hK => ?_); (first | ((refine aop_le (le_sealMapM (f := AV.int) 13006 1 8 (head.length + 1) (head ++ [(q : Int)]) (by rfl) (by rw [flat_ints, List.map_append]; rfl) (by simp) (fun _ => rfl) (fun _ => rfl) (by omega)) ?_; simp only [AV.sealSL, sealS_any, sealS_v, sealS_isl, sealS_iptr, sealS_ptr, sealS_sl, sealS_agg, sealS_tup, sealS_fn, purge_agg, purge_tup, purge_fn, and_self, AV.mentL, AV.ment, Bool.or_self, go_sem, Nat.reduceAdd, Nat.reduceMul, reduceIte, Nat.reduceEqDiff, Nat.reduceLeDiff, Int.reduceToNat, Int.reducePow, Int.reduceBEq, Int.reduceBNe, Int.reduceLT, Int.reduceLE, decide_true, decide_false]; refine aop_callO (d := some 20) ho (by rfl) (by intro id hid; simp only [List.mem_cons, List.not_mem_nil, or_false] at hid; subst hid; rfl) (fun x hp hx => ?_); obtain ⟨rfl, fl, rfl⟩ := hx)) | (refine aop_pv (pv_eql (by rfl) (by rfl)) ?_) | (refine aop_pv (pv_eqlB (by rfl) (by rfl)) ?_) | (refine aop_pv (pv_eqlA (by rfl) (by rfl) (by kernel_rfl)) ?_) | (refine aop_callO (d := some 13) (copyI_oc 13000 _) (by rfl) (by first | exact free_one (by first | rfl | (simp only [go_sem, Nat.reduceAdd, Nat.reduceMul, reduceIte, Nat.reduceEqDiff, Nat.reduceLeDiff, Int.reduceToNat, Int.reducePow, Int.reduceBEq, Int.reduceBNe, Int.reduceLT, Int.reduceLE, decide_true, decide_false]; done) | (simp only [go_sem, Nat.reduceAdd, Nat.reduceMul, reduceIte, Nat.reduceEqDiff, Nat.reduceLeDiff, Int.reduceToNat, Int.reducePow, Int.reduceBEq, Int.reduceBNe, Int.reduceLT, Int.reduceLE, decide_true, decide_false]; rfl) | (simp [St.free, mentHp, AV.mentL, AV.ment])) | (intro id hid; simp only [List.mem_cons, List.not_mem_nil, or_false] at hid; rcases hid with rfl | rfl | rfl | rfl <;> first | rfl | (simp only [go_sem, Nat.reduceAdd, Nat.reduceMul, reduceIte, Nat.reduceEqDiff, Nat.reduceLeDiff, Int.reduceToNat, Int.reducePow, Int.reduceBEq, Int.reduceBNe, Int.reduceLT, Int.reduceLE, decide_true, decide_false]; done) | (simp only [St.free, mentHp, go_sem, Nat.reduceAdd, Nat.reduceMul, reduceIte, Nat.reduceEqDiff, Nat.reduceLeDiff, Int.reduceToNat, Int.reducePow, Int.reduceBEq, Int.reduceBNe, Int.reduceLT, Int.reduceLE, decide_true, decide_false]; done) | (simp only [go_sem, Nat.reduceAdd, Nat.reduceMul, reduceIte, Nat.reduceEqDiff, Nat.reduceLeDiff, Int.reduceToNat, Int.reducePow, Int.reduceBEq, Int.reduceBNe, Int.reduceLT, Int.reduceLE, decide_true, decide_false]; rfl) | (simp [St.free, mentHp, AV.mentL, AV.ment]; try exact mentL_flat _ _ _ fun _ => rfl))) (fun x hp hx => ?_); obtain ⟨rfl, rfl⟩ := hx) | (refine aop_callO (d := some 13) (copyI_oc0 _) (by rfl) (by first | exact free_one (by first | rfl | (simp only [go_sem, Nat.reduceAdd, Nat.reduceMul, reduceIte, Nat.reduceEqDiff, Nat.reduceLeDiff, Int.reduceToNat, Int.reducePow, Int.reduceBEq, Int.reduceBNe, Int.reduceLT, Int.reduceLE, decide_true, decide_false]; done) | (simp only [go_sem, Nat.reduceAdd, Nat.reduceMul, reduceIte, Nat.reduceEqDiff, Nat.reduceLeDiff, Int.reduceToNat, Int.reducePow, Int.reduceBEq, Int.reduceBNe, Int.reduceLT, Int.reduceLE, decide_true, decide_false]; rfl) | (simp [St.free, mentHp, AV.mentL, AV.ment])) | (intro id hid; simp only [List.mem_cons, List.not_mem_nil, or_false] at hid; rcases hid with rfl | rfl | rfl | rfl <;> first | rfl | (simp only [go_sem, Nat.reduceAdd, Nat.reduceMul, reduceIte, Nat.reduceEqDiff, Nat.reduceLeDiff, Int.reduceToNat, Int.reducePow, Int.reduceBEq, Int.reduceBNe, Int.reduceLT, Int.reduceLE, decide_true, decide_false]; done) | (simp only [St.free, mentHp, go_sem, Nat.reduceAdd, Nat.reduceMul, reduceIte, Nat.reduceEqDiff, Nat.reduceLeDiff, Int.reduceToNat, Int.reducePow, Int.reduceBEq, Int.reduceBNe, Int.reduceLT, Int.reduceLE, decide_true, decide_false]; done) | (simp only [go_sem, Nat.reduceAdd, Nat.reduceMul, reduceIte, Nat.reduceEqDiff, Nat.reduceLeDiff, Int.reduceToNat, Int.reducePow, Int.reduceBEq, Int.reduceBNe, Int.reduceLT, Int.reduceLE, decide_true, decide_false]; rfl) | (simp [St.free, mentHp, AV.mentL, AV.ment]; try exact mentL_flat _ _ _ fun _ => rfl))) (fun x hp hx => ?_); obtain ⟨rfl, rfl⟩ := hx) | (refine appendS ?_) | (refine virtS 13 16 1 8 3 ?_; refine appendS ?_) | (refine virtS 20 26 1 24 22 ?_; refine appendS ?_))) | (refine gE ?_; (first | (refine exN ?_) | (refine exS (fun _ => ?_)))) | (refine gQ ?_; (first | (refine condT ?_) | (refine condF ?_) | (refine condS (fun hc => ?_) (fun hc => ?_) <;> (try (first | contradiction | (exfalso; omega)))))) | (refine gW ?_; refine wopsS ?_) | (refine aw_block ?_) | (refine gX ?_; refine exitS ?_) | (refine gT ?_; refine retS ?_) | (refine gS ?_; refine skipS ?_) | (apply_assumption (exfalso := false) (symm := false))))
      refine ofin_sl rfl (by rfl) (by rfl) (by rw [← List.map_append]; exact purL_map ints _ fun _ => rfl) ⟨(by simp), false, (by simp)⟩

def candF (t : Task) (l : List (List Int)) : List (List Int) := l.filter fun a => decide (2 ≤ a.length) && groupB t a
theorem candF_step {t : Task} {l : List (List Int)} {k : Nat} (h : k < l.length) : candF t (l.take (k + 1)) = candF t (l.take k) ++ if (decide (2 ≤ (l[k].length : Int)) && groupB t l[k]) = true then [l[k]] else [] := by
  unfold candF
  rw [List.take_succ_eq_append_getElem h, List.filter_append, List.filter_cons, List.filter_nil]
  have e : decide (2 ≤ (l[k].length : Int)) = decide (2 ≤ l[k].length) := by rw [Bool.eq_iff_iff, decide_eq_true_eq, decide_eq_true_eq]; omega
  rw [e]
theorem candF_len {t : Task} {l : List (List Int)} {k : Nat} : (candF t (l.take k)).length ≤ l.length := by
  unfold candF
  have h1 := List.length_filter_le (fun a => decide (2 ≤ a.length) && groupB t a) (l.take k)
  have h2 : (l.take k).length ≤ l.length := by rw [List.length_take]; omega
  omega
/-- Some of these holds more than the list. -/
def moreB (c : List (List Int)) (a : List Int) : Bool := c.any fun b => decide ((a.length : Int) < b.length) && subB a b
theorem moreB_step {c : List (List Int)} {a : List Int} {k : Nat} (h : k < c.length) : moreB (c.take (k + 1)) a = (moreB (c.take k) a || (decide ((a.length : Int) < c[k].length) && subB a c[k])) := by
  unfold moreB
  rw [List.take_succ_eq_append_getElem h, List.any_append]; simp
def outF (c l : List (List Int)) : List (List Int) := l.filter fun a => !moreB c a
theorem outF_step {c l : List (List Int)} {k : Nat} (h : k < l.length) : outF c (l.take (k + 1)) = outF c (l.take k) ++ if (!moreB c l[k]) = true then [l[k]] else [] := by
  unfold outF
  rw [List.take_succ_eq_append_getElem h, List.filter_append, List.filter_cons, List.filter_nil]
theorem outF_len {c l : List (List Int)} {k : Nat} : (outF c (l.take k)).length ≤ l.length := by
  unfold outF
  have h1 := List.length_filter_le (fun a => !moreB c a) (l.take k)
  have h2 : (l.take k).length ≤ l.length := by rw [List.length_take]; omega
  omega
theorem outF_groups {t : Task} {n : Nat} : outF (candF t (subsL [] 0 n)) (candF t (subsL [] 0 n)) = groupsL (groupB t) n := by
  unfold outF groupsL candF
  show List.filter _ (candL (groupB t) n) = List.filter _ (candL (groupB t) n)
  congr 1
  funext a
  unfold moreB largeB
  congr 1
  show (candL (groupB t) n).any _ = (candL (groupB t) n).any _
  congr 1
  funext b
  congr 1
  · rw [Bool.eq_iff_iff, decide_eq_true_eq, decide_eq_true_eq]; omega
  · rw [Bool.eq_iff_iff, decide_eq_true_eq, subB_iff]

theorem groupsOf_pc (t : Task) (hw : WfT t) (h8 : t.facts ≤ 8) : PCall Try.prog 15 [t.av] (fun r => r = rows (groupsL (groupB t) t.facts.toNat)) := by
  have h0 := hw.f0
  have hf : ((t.facts.toNat : Nat) : Int) = t.facts := by omega
  have hs := (subs_both t.facts.toNat (by omega) t.facts.toNat (by omega)).1 [] 0 0 rfl (by omega) (by simp; omega)
  have hpw : 2 ^ t.facts.toNat ≤ 256 := Nat.pow_le_pow_right (i := t.facts.toNat) (j := 8) (by omega) (by omega)
  have hlen : (subsL [] 0 t.facts.toNat).length ≤ 256 := by rw [subsL_len]; exact hpw
  have hset : ∀ a ∈ subsL [] 0 t.facts.toNat, isSet a t.facts = true := fun a ha => by
    obtain ⟨b, rfl, h1, h2⟩ := mem_subsL.1 ha
    rw [isSet_iff]
    exact ⟨fun x hx => by have := h2 x (by simpa using hx); omega, by simpa using h1⟩
  rw [hf] at hs
  have hs2 : PCall Try.prog 35 [.nilS, .int 0, .int t.facts] (fun r => r = rows (subsL [] 0 t.facts.toNat)) := pcall_le hs ⟨ALe.nil 1 8, ALe.rfl' _, ALe.rfl' _, trivial⟩
  rw [← outF_groups]
  clear hs hpw hf
  generalize subsL [] 0 t.facts.toNat = L at *
  
  (refine enterS Try.func15 Try.ntmps15 ?_)
  
  (repeat' (first | (refine hK _ ?_; clear hK K) | (refine aw_seq (fun K hK => ?_)) | (refine gR ?_; refine regS ?_) | (refine gC 35 ?_; refine callS (hs2) ?_) | (refine stk_op (fun K hK => ?_); (first | (refine aop_pv (pv_fieldAddrF (by rfl) (by rfl) (by first | decide | (simp; done) | (simp; omega))) ?_) | (refine aop_pv (pv_fieldAddrIF (by rfl) (by rfl) (by first | decide | (simp; done) | (simp; omega))) ?_))) | (refine gE ?_; (first | (refine exN ?_) | (refine exS (fun _ => ?_)))) | (refine gQ ?_; (first | (refine condT ?_) | (refine condF ?_) | (refine condS (fun hc => ?_) (fun hc => ?_) <;> (try (first | contradiction | (exfalso; omega)))))) | (refine gW ?_; refine wopsS ?_) | (refine aw_block ?_) | (refine gX ?_; refine exitS ?_) | (refine gT ?_; refine retS ?_) | (refine gS ?_; refine skipS ?_) | (apply_assumption (exfalso := false) (symm := false))))
  (refine awVirt 3 100 1 24 22 ?_)
  refine aw_loop_at [3, 5, 13, 14, 15, 16, 17, 18, 19, 20, 21, 22, 23, 24, 25, 26, 27, 28, 29, 30, 31, 32, 33, 34, 35, 36, 37, 38, 39] (fun k : Nat => k ≤ L.length) (fun k => L.length - k) (fun k => [(5, .int k), (3, .sl 1 24 100 0 (candF t (L.take k)).length)]) (fun k => [(1, ⟨25, t.cs, true⟩), (100, ⟨22, (candF t (L.take k)).map (fun l => AV.isl 1 8 (l.map AV.int)), false⟩)]) 0 (by omega) ?_ ?_
  · (refine atS ?_)
    (exact weakS)
  · rintro k hk K hK
    (refine atS ?_)
    have hcl := candF_len (t := t) (l := L) (k := k)
    by_cases hlt : k < L.length
    · have hst := candF_step (t := t) hlt
      have hg := group_pc t L[k] hw (hset _ (List.getElem_mem hlt))
      generalize hgb : groupB t L[k] = gb at hg hst
      clear hgb
      
      
      
      (repeat' (first | (refine hK _ ?_; clear hK K) | (refine aw_seq (fun K hK => ?_)) | (refine gR ?_; refine regS ?_) | (refine gD 6 ?_; refine drS (.it 0 0 (.it 1 0 (.it 2 0 (.it 3 0 (.it 4 0 (.it 5 0 (.it 6 0 (.it 7 0 (.it 8 0 (.it 9 0 (.it 10 0 (.it 11 0 (.it 12 2 (.it 13 0 .nil)))))))))))))) [0, 1, 2, 3, 4, 5, 6, 7, 8, 9, 10, 11, 12, 13] ?_) | (refine gCd 12 ?_; refine callD (hg) ?_) | (refine stk_op (fun K hK => ?_); (first | (refine appendS ?_) | (refine virtS 33 39 1 24 22 ?_; refine appendS ?_))) | (refine And.intro ?_ ?_) | (refine gDx ?_; refine adxS ?_) | (refine gE ?_; (first | (refine Exists.intro hlt ?_) | (refine exN ?_) | (refine exS (fun _ => ?_)))) | (refine gGd ?_; refine guardD (fun hc => ?_) (fun hc => ?_) <;> (try (first | contradiction | (exfalso; omega)))) | (refine gQ ?_; (first | (refine condT ?_) | (refine condF ?_) | (refine condS (fun hc => ?_) (fun hc => ?_) <;> (try (first | contradiction | (exfalso; omega)))))) | (refine gWd ?_; refine wdrS ?_) | (refine gW ?_; refine wopsS ?_) | (refine aw_block ?_) | (refine gX ?_; refine exitS ?_) | (refine gT ?_; refine retS ?_) | (refine gS ?_; refine skipS ?_) | (apply_assumption (exfalso := false) (symm := false))))
      
      all_goals refine ⟨k + 1, by omega, by omega, ?_⟩
      all_goals first
        | (rw [hst, if_pos (by simp [*])]; (refine atS ?_); (exact weakS))
        | (rw [hst, if_neg (by simp [*] <;> omega), List.append_nil]; (refine atS ?_); (exact weakS))
    · obtain rfl : k = L.length := by omega
      rw [List.take_length] at hcl ⊢
      
      generalize candF t L = C at *
      
      (repeat' (first | (refine hK _ ?_; clear hK K) | (refine aw_seq (fun K hK => ?_)) | (refine gR ?_; refine regS ?_) | (refine gE ?_; (first | (refine exN ?_) | (refine exS (fun _ => ?_)))) | (refine gQ ?_; (first | (refine condT ?_) | (refine condF ?_) | (refine condS (fun hc => ?_) (fun hc => ?_) <;> (try (first | contradiction | (exfalso; omega)))))) | (refine gW ?_; refine wopsS ?_) | (refine aw_block ?_) | (refine gX ?_; refine exitS ?_) | (refine gT ?_; refine retS ?_) | (refine gS ?_; refine skipS ?_) | (apply_assumption (exfalso := false) (symm := false))))
      (refine aw_le (le_sealDM (f := fun l : List Int => AV.isl 1 8 (l.map AV.int)) 100 1 24 C.length C (by rfl) (cells_rowsG C) (by first | rfl | simp) (fun _ => rfl) (fun _ => rfl) (by omega)) ?_; try simp only [go_sem, Nat.reduceAdd, Nat.reduceMul, reduceIte, Nat.reduceEqDiff, Nat.reduceLeDiff, Int.reduceToNat, Int.reducePow, Int.reduceBEq, Int.reduceBNe, Int.reduceLT, Int.reduceLE, decide_true, decide_false])
      (refine awVirt 6 200 1 24 22 ?_)
      refine aw_loop_at [6, 7, 8, 9, 40, 41, 42, 43, 44, 45, 46, 47, 48, 49, 50, 51, 52, 53, 54, 55, 56, 57, 58, 59, 60, 61, 62, 63, 64, 65, 66, 67, 68, 69, 70, 71, 72, 73, 74, 75, 76, 77, 78, 79, 80, 81] (fun i : Nat => i ≤ C.length) (fun i => C.length - i) (fun i => [(7, .int i), (6, .sl 1 24 200 0 (outF C (C.take i)).length)]) (fun i => [(1, ⟨25, t.cs, true⟩), (200, ⟨22, (outF C (C.take i)).map (fun l => AV.isl 1 8 (l.map AV.int)), false⟩)]) 0 (by omega) ?_ ?_
      · (refine atS ?_)
        (exact weakS)
      · rintro i hi K hK
        (refine atS ?_)
        have hol := outF_len (c := C) (l := C) (k := i)
        by_cases hit : i < C.length
        · have hso := outF_step (c := C) hit
          
          (repeat' (first | (refine hK _ ?_; clear hK K) | (refine aw_seq (fun K hK => ?_)) | (refine gR ?_; refine regS ?_) | (refine gE ?_; (first | (refine exN ?_) | (refine exS (fun _ => ?_)))) | (refine gQ ?_; (first | (refine condT ?_) | (refine condF ?_) | (refine condS (fun hc => ?_) (fun hc => ?_) <;> (try (first | contradiction | (exfalso; omega)))))) | (refine gW ?_; refine wopsS ?_) | (refine aw_block ?_) | (refine gX ?_; refine exitS ?_) | (refine gT ?_; refine retS ?_) | (refine gS ?_; refine skipS ?_) | (apply_assumption (exfalso := false) (symm := false))))
          refine aw_loop_at [8, 9, 46, 47, 48, 49, 50, 51, 52, 53, 54, 55, 56, 57, 58, 59, 60, 61, 62, 63, 64, 65, 66, 67, 68, 69, 70, 71, 72, 73] (fun k : Nat => k ≤ C.length) (fun k => C.length - k) (fun k => [(9, .int k), (8, .bool (!moreB (C.take k) C[i]))]) (fun _ => [(1, ⟨25, t.cs, true⟩), (200, ⟨22, (outF C (C.take i)).map (fun l => AV.isl 1 8 (l.map AV.int)), false⟩)]) 0 (by omega) ?_ ?_
          · (refine atS ?_)
            (exact weakS)
          · rintro k hk K hK
            (refine atS ?_)
            by_cases hkt : k < C.length
            · have hsm := moreB_step (a := C[i]) hkt
              have hsb := subset_pc C[i] C[k]
              generalize hgb : subB C[i] C[k] = sb at hsb hsm
              clear hgb
              
              
              
              
              (repeat' (first | (refine hK _ ?_; clear hK K) | (refine aw_seq (fun K hK => ?_)) | (refine gR ?_; refine regS ?_) | (refine gD 16 ?_; refine drS (.it 0 0 (.it 1 0 (.it 2 0 (.it 3 0 (.it 4 0 (.it 5 0 (.it 6 0 (.it 7 0 (.it 8 0 (.it 9 0 (.it 10 0 (.it 11 0 (.it 12 0 (.it 13 0 (.it 14 0 (.it 15 0 (.it 16 0 (.it 17 0 (.it 18 0 (.it 19 0 (.it 20 2 (.it 21 0 .nil)))))))))))))))))))))) [0, 1, 2, 3, 4, 5, 6, 7, 8, 9, 10, 11, 12, 13, 14, 15, 16, 17, 18, 19, 20, 21] ?_) | (refine gCd 19 ?_; refine callD (hsb) ?_) | (refine And.intro ?_ ?_) | (refine gDx ?_; refine adxS ?_) | (refine gE ?_; (first | (refine Exists.intro hit ?_) | (refine Exists.intro hkt ?_) | (refine exN ?_) | (refine exS (fun _ => ?_)))) | (refine gGd ?_; refine guardD (fun hc => ?_) (fun hc => ?_) <;> (try (first | contradiction | (exfalso; omega)))) | (refine gQ ?_; (first | (refine condT ?_) | (refine condF ?_) | (refine condS (fun hc => ?_) (fun hc => ?_) <;> (try (first | contradiction | (exfalso; omega)))))) | (refine gWd ?_; refine wdrS ?_) | (refine gW ?_; refine wopsS ?_) | (refine aw_block ?_) | (refine gX ?_; refine exitS ?_) | (refine gT ?_; refine retS ?_) | (refine gS ?_; refine skipS ?_) | (apply_assumption (exfalso := false) (symm := false))))
              
              all_goals (refine ⟨k + 1, by omega, by omega, ?_⟩; rw [hsm])
              all_goals first
                | (rw [show (decide ((C[i].length : Int) < C[k].length) && sb) = true by rw [decide_eq_true (by omega)]; simpa using hc, Bool.or_true]; (refine atS ?_); (exact weakS); done)
                | (rw [show (decide ((C[i].length : Int) < C[k].length) && sb) = false by first | (rw [decide_eq_false (by omega)]; rfl) | (simp [hc]; done), Bool.or_false]; (refine atS ?_); (exact weakS); done)
            · obtain rfl : k = C.length := by omega
              rw [List.take_length]
              
              (repeat' (first | (refine hK _ ?_; clear hK K) | (refine aw_seq (fun K hK => ?_)) | (refine gR ?_; refine regS ?_) | (refine stk_op (fun K hK => ?_); (first | (refine appendS ?_) | (refine virtS 75 81 1 24 22 ?_; refine appendS ?_))) | (refine gE ?_; (first | (refine exN ?_) | (refine exS (fun _ => ?_)))) | (refine gQ ?_; (first | (refine condT ?_) | (refine condF ?_) | (refine condS (fun hc => ?_) (fun hc => ?_) <;> (try (first | contradiction | (exfalso; omega)))))) | (refine gW ?_; refine wopsS ?_) | (refine aw_block ?_) | (refine gX ?_; refine exitS ?_) | (refine gT ?_; refine retS ?_) | (refine gS ?_; refine skipS ?_) | (apply_assumption (exfalso := false) (symm := false))))
              all_goals (refine ⟨i + 1, by omega, by omega, ?_⟩)
              all_goals first
                | (rw [hso, if_pos (by simp [*]; done)]; (refine atS ?_); (exact weakS); done)
                | (rw [hso, if_neg (by simp [*]; done), List.append_nil]; (refine atS ?_); (exact weakS); done)
        · obtain rfl : i = C.length := by omega
          rw [List.take_length]
          
          (repeat' (first | (refine hK _ ?_; clear hK K) | (refine aw_seq (fun K hK => ?_)) | (refine gR ?_; refine regS ?_) | (refine gE ?_; (first | (refine exN ?_) | (refine exS (fun _ => ?_)))) | (refine gQ ?_; (first | (refine condT ?_) | (refine condF ?_) | (refine condS (fun hc => ?_) (fun hc => ?_) <;> (try (first | contradiction | (exfalso; omega)))))) | (refine gW ?_; refine wopsS ?_) | (refine aw_block ?_) | (refine gX ?_; refine exitS ?_) | (refine gT ?_; refine retS ?_) | (refine gS ?_; refine skipS ?_) | (apply_assumption (exfalso := false) (symm := false))))
          refine fin_sl1 (f := fun l : List Int => AV.isl 1 8 (l.map AV.int)) (outF C C) rfl (by rfl) (by rfl) rfl (fun _ => rfl) (fun _ => rfl) rfl


end Go.Proofs.Ytokmhfjledbglaa
