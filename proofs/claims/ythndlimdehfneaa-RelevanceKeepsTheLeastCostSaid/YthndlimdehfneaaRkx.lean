import Derived.Test.YthndlimdehfneaaRkl
import Derived.Test.YthndlimdehfneaaBse





namespace Go.Proofs.Ythndlimdehfneaa
open Go.Ab
open Go
set_option linter.unusedSimpArgs false
set_option linter.unusedVariables false
set_option maxRecDepth 10000
attribute [local irreducible] PV AOp AOps AW PCall OCall MCall WCall Ab.Fin OFin OFin2 MFin RV RV1 Le AStk AGrd ADr ADx ADo AOpX AAny
set_option maxHeartbeats 4000000
attribute [local go_sem] cast_0R
/-! row 16: mapped, and the law -/
def mapI (F plan : List Int) : List Int := plan.map fun x => F[x.toNat]!
def mapK (F plan : List Int) (k : Nat) : List Int := mapI F (plan.take k)
theorem mapK_zero {F plan : List Int} : mapK F plan 0 = [] := by simp [mapK, mapI]
theorem mapK_succ {F plan : List Int} {k : Nat} (hk : k < plan.length) (hx : (plan[k]).toNat < F.length) : mapK F plan (k + 1) = mapK F plan k ++ [F[(plan[k]).toNat]] := by
  rw [mapK, List.take_succ_eq_append_getElem hk, mapI, List.map_append, List.map_singleton, getBang hx]; rfl
theorem mapK_len {F plan : List Int} {k : Nat} : (mapK F plan k).length ≤ k := by
  have h2 := List.length_take_le k plan
  simp only [mapK, mapI, List.length_map]; omega
theorem mapped_pc (F plan : List Int) : PCall Try.prog 25 [ints F, ints plan] (fun r => r = .tup [ints (mapI F plan), .bool true] ∨ (r = .tup [.nilS, .bool false] ∧ ∃ x ∈ plan, ¬ (0 ≤ x ∧ x < F.length))) := by
  (refine enterS Try.func25 Try.ntmps25 ?_)
  (refine aw_bound (i := 0) rfl (fun hF => ?_); (try simp only [List.length_map] at hF))
  (refine aw_bound (i := 1) rfl (fun hB => ?_); (try simp only [List.length_map] at hB))
  (repeat' (first | (refine hK _ ?_; clear hK K) | (refine aw_seq (fun K hK => ?_)) | (refine gR ?_; refine regS ?_) | (refine gE ?_; (first | (refine exN ?_) | (refine exS (fun _ => ?_)))) | (refine gC 40 ?_; refine callS (in_pc _ _ _) ?_) | (refine stk_op (fun K hK => ?_); (first | (refine appendS ?_) | (refine virtS 23 32 1 8 3 ?_; refine appendS ?_))) | (refine gQ ?_; (first | (refine condT ?_) | (refine condF ?_) | (refine condS (fun hc => ?_) (fun hc => ?_) <;> (try (first | contradiction | (exfalso; omega)))))) | (refine gW ?_; refine wopsS ?_) | (refine aw_block ?_) | (refine gX ?_; refine exitS ?_) | (refine gT ?_; refine retS ?_) | (refine gS ?_; refine skipS ?_) | (apply_assumption (exfalso := false) (symm := false))))
  (refine awVirt 6 100 1 8 3 ?_)
  refine aw_loop_at [4, 5, 6, 7, 8, 9, 10, 11, 12, 13, 14, 15, 16, 17, 18, 19, 20, 21, 22, 23, 24, 25, 26, 27, 28, 29, 30, 31, 32] (fun k : Nat => k ≤ plan.length) (fun k => plan.length - k) (fun k => [(7, .int k), (6, .sl 1 8 100 0 (mapK F plan k).length)]) (fun k => [(100, ⟨3, (mapK F plan k).map AV.int, false⟩)]) 0 (by omega) ?_ ?_
  · rw [mapK_zero]
    (simp only [sets, havoc, go_sem, Nat.reduceAdd, Nat.reduceMul, reduceIte, Nat.reduceEqDiff, Nat.reduceLeDiff, Int.reduceToNat, Int.reducePow, Int.reduceBEq, Int.reduceBNe, Int.reduceLT, Int.reduceLE, decide_true, decide_false])
    (exact weakS)
  · rintro k hk K hK
    (simp only [sets, havoc, go_sem, Nat.reduceAdd, Nat.reduceMul, reduceIte, Nat.reduceEqDiff, Nat.reduceLeDiff, Int.reduceToNat, Int.reducePow, Int.reduceBEq, Int.reduceBNe, Int.reduceLT, Int.reduceLE, decide_true, decide_false])
    have hrl := mapK_len (F := F) (plan := plan) (k := k)
    by_cases hlt : k < plan.length
    · (repeat' (first | (refine hK _ ?_; clear hK K) | (refine aw_seq (fun K hK => ?_)) | (refine gR ?_; refine regS ?_) | (refine gE ?_; (first | (refine exN ?_) | (refine exS (fun _ => ?_)))) | (refine gC 40 ?_; refine callS (in_pc _ _ _) ?_) | (refine stk_op (fun K hK => ?_); (first | (refine appendS ?_) | (refine virtS 23 32 1 8 3 ?_; refine appendS ?_))) | (refine gQ ?_; (first | (refine condT ?_) | (refine condF ?_) | (refine condS (fun hc => ?_) (fun hc => ?_) <;> (try (first | contradiction | (exfalso; omega)))))) | (refine gW ?_; refine wopsS ?_) | (refine aw_block ?_) | (refine gX ?_; refine exitS ?_) | (refine gT ?_; refine retS ?_) | (refine gS ?_; refine skipS ?_) | (apply_assumption (exfalso := false) (symm := false))))
      · (refine fin_le (Le.refl _) (rv_two (rv1_tmp (by rfl)) (rv1_tmp (by rfl))) (by first | rfl | (simp only [go_sem, Nat.reduceAdd, Nat.reduceMul, reduceIte, Nat.reduceEqDiff, Nat.reduceLeDiff, Int.reduceToNat, Int.reducePow, Int.reduceBEq, Int.reduceBNe, Int.reduceLT, Int.reduceLE, decide_true, decide_false])) ?_)
        exact .inr ⟨rfl, _, List.getElem_mem hlt, by omega⟩
      · refine ⟨k + 1, by omega, by omega, ?_⟩
        rw [mapK_succ hlt (by omega)]
        (simp only [sets, havoc, go_sem, Nat.reduceAdd, Nat.reduceMul, reduceIte, Nat.reduceEqDiff, Nat.reduceLeDiff, Int.reduceToNat, Int.reducePow, Int.reduceBEq, Int.reduceBNe, Int.reduceLT, Int.reduceLE, decide_true, decide_false])
        (exact weakS)
    · obtain rfl : k = plan.length := by omega
      have hm : mapK F plan plan.length = mapI F plan := by rw [mapK, List.take_length]
      rw [hm]
      generalize mapI F plan = m at *
      refine aw_le (le_sealMap (f := AV.int) 100 8 m.length m (by rfl) rfl (fun _ => rfl) (fun _ => rfl)) ?_
      simp only [AV.sealSL, sealS_any, sealS_v, sealS_isl, sealS_iptr, sealS_ptr, sealS_sl, sealS_agg, sealS_tup, sealS_fn, purge_agg, purge_tup, purge_fn, and_self, AV.mentL, AV.ment, Bool.or_self, go_sem, Nat.reduceAdd, Nat.reduceMul, reduceIte, Nat.reduceEqDiff, Nat.reduceLeDiff, Int.reduceToNat, Int.reducePow, Int.reduceBEq, Int.reduceBNe, Int.reduceLT, Int.reduceLE, decide_true, decide_false]
      (repeat' (first | (refine hK _ ?_; clear hK K) | (refine aw_seq (fun K hK => ?_)) | (refine gR ?_; refine regS ?_) | (refine gE ?_; (first | (refine exN ?_) | (refine exS (fun _ => ?_)))) | (refine gC 40 ?_; refine callS (in_pc _ _ _) ?_) | (refine stk_op (fun K hK => ?_); (first | (refine appendS ?_) | (refine virtS 23 32 1 8 3 ?_; refine appendS ?_))) | (refine gQ ?_; (first | (refine condT ?_) | (refine condF ?_) | (refine condS (fun hc => ?_) (fun hc => ?_) <;> (try (first | contradiction | (exfalso; omega)))))) | (refine gW ?_; refine wopsS ?_) | (refine aw_block ?_) | (refine gX ?_; refine exitS ?_) | (refine gT ?_; refine retS ?_) | (refine gS ?_; refine skipS ?_) | (apply_assumption (exfalso := false) (symm := false))))
      (refine fin_le (Le.refl _) (rv_two (rv1_tmp (by rfl)) (rv1_tmp (by rfl))) (by first | rfl | (simp only [go_sem, Nat.reduceAdd, Nat.reduceMul, reduceIte, Nat.reduceEqDiff, Nat.reduceLeDiff, Int.reduceToNat, Int.reducePow, Int.reduceBEq, Int.reduceBNe, Int.reduceLT, Int.reduceLE, decide_true, decide_false])) ?_)
      exact .inl rfl
theorem mapped_ok {F plan : List Int} (h : ∀ x ∈ plan, 0 ≤ x ∧ x < F.length) : PCall Try.prog 25 [ints F, ints plan] (fun r => r = .tup [ints (mapI F plan), .bool true]) :=
  (mapped_pc F plan).mono fun r hr => by
    rcases hr with hr | ⟨_, x, hx, hn⟩
    · exact hr
    · exact absurd (h x hx) hn
theorem natP_map {t : Task} (plan : List Int) : natP (mapI (relO t) plan) = mapN t (natP plan) := by
  simp only [natP, mapI, mapN, List.map_map]; rfl
theorem map_solves {t : Task} (hw : WfT t) {plan : List Int} (hp : planF (pruneT t) plan = (0, 0)) : solvesOf t (mapI (relO t) plan) = solvesOf (pruneT t) plan ∧ ∀ x ∈ plan, 0 ≤ x ∧ x < (relO t).length := by
  obtain ⟨hwp, h60, hin⟩ := planF_in.1 hp
  have hx : ∀ x ∈ plan, 0 ≤ x ∧ x < (relO t).length := fun x hx => by have := hin x hx; rwa [prune_n] at this
  have hm : planF t (mapI (relO t) plan) = (0, 0) := planF_in.2 ⟨hw, by rw [mapI, List.length_map]; exact h60, fun y hy => by
    obtain ⟨x, hx1, rfl⟩ := List.mem_map.1 hy
    have := hx x hx1
    exact (relO_at (t := t) (x := x.toNat) (by omega)).1⟩
  refine ⟨?_, hx⟩
  rw [solvesOf_ok hm, solvesOf_ok hp, natP_map]
  have hmw := map_works hw (natP plan) t.init (pruneT t).init (fun n hn => by
    obtain ⟨x, hx1, rfl⟩ := List.mem_map.1 hn
    have := hx x hx1
    omega) (corr_init t)
  rw [← worksB_iff, ← worksB_iff, ← Bool.eq_iff_iff] at hmw
  rw [hmw]
theorem best_same {t : Task} (hw : WfT t) {x y : Int} (hx : BestOk t t.init x) (hy : BestOk (pruneT t) (pruneT t).init y) (h1 : 0 ≤ x) (h2 : 0 ≤ y) : x = y := by
  rcases hx with ⟨hx, _⟩ | hx
  · omega
  rcases hy with ⟨hy, _⟩ | hy
  · omega
  exact least_le hw hx hy

theorem keepsLaw_pc (t : Task) (plan : List Int) : PCall Try.prog 5 [t.av, ints plan] (fun r => r = .bool true) := by
  by_cases hf : taskFault t = (0, 0)
  · have hw := taskFault_ok.1 hf
    have hwp := prune_wf hw
    have hvp := taskFault_ok.2 hwp
    have hn := prune_n (t := t)
    have hbs := @best_same t hw
    
    
    
    
    by_cases hp : planF (pruneT t) plan = (0, 0)
    · have e2 := solvesOf_ok hp
      obtain ⟨e3, hin⟩ := map_solves hw hp
      rw [e2] at e3
      generalize worksB (pruneT t) (pruneT t).init (natP plan) = b at *
      
      
      
      (refine enterS Try.func5 Try.ntmps5 ?_)
      (repeat' (first | (refine hK _ ?_; clear hK K) | (refine aw_seq (fun K hK => ?_)) | (refine gR ?_; refine regS ?_) | (refine gD 6 ?_; refine drS (.it 0 0 (.it 2 0 (.it 1 1 (.it 3 1 (.it 4 0 (.it 5 0 .nil)))))) [0, 2, 4, 5] ?_) | (refine gE ?_; (first | (refine exN ?_) | (refine exS (fun _ => ?_)))) | (refine gC 17 ?_; refine callS (prune_ok t hf) ?_) | (refine gC 18 ?_; refine callS (prunes_pc) ?_) | (refine gC 22 ?_; refine callS (val_at hvp) ?_) | (refine gC 24 ?_; refine callS (solves_at e2) ?_) | (refine gC 24 ?_; refine callS (solves_at e3) ?_) | (refine gC 25 ?_; refine callS (mapped_ok hin) ?_) | (refine stk_op (fun K hK => ?_); (first | (refine aop_pv (pv_fieldAddrF (by rfl) (by rfl) (by first | decide | (simp; done) | (simp; omega))) ?_) | (refine aop_pv (pv_fieldAddrIF (by rfl) (by rfl) (by first | decide | (simp; done) | (simp; omega))) ?_) | (refine aop_pv (pv_neq (by rfl) (by rfl)) ?_) | (refine aop_pv (pv_neqB (by rfl) (by rfl)) ?_) | (refine aop_pv (pv_neqA (by rfl) (by rfl) (by kernel_rfl)) ?_) | (refine aop_pv (pv_eql (by rfl) (by rfl)) ?_) | (refine aop_pv (pv_eqlB (by rfl) (by rfl)) ?_) | (refine aop_pv (pv_eqlA (by rfl) (by rfl) (by kernel_rfl)) ?_))) | (refine adx_op (fun K hK => ?_); (first | (refine aopx_call (best_pc t hw) (by rfl) (fun x hx => ?_); obtain ⟨z, rfl, hz⟩ := hx) | (refine aopx_call (best_pc (pruneT t) hwp) (by rfl) (fun x hx => ?_); obtain ⟨y, rfl, hy⟩ := hx))) | (refine And.intro ?_ ?_) | (refine gDx ?_; refine adxS ?_) | (refine gQ ?_; (first | (refine condT ?_) | (refine condF ?_) | (refine condS (fun hc => ?_) (fun hc => ?_) <;> (try (first | contradiction | (exfalso; omega)))))) | (refine gG ?_; refine guardS (fun hc => ?_) (fun hc => ?_) <;> (try (first | contradiction | (exfalso; omega)))) | (refine gW ?_; refine wopsS ?_) | (refine gWd ?_; refine wdrS ?_) | (refine aw_block ?_) | (refine gX ?_; refine exitS ?_) | (refine gT ?_; refine retS ?_) | (refine gS ?_; refine skipS ?_) | (apply_assumption (exfalso := false) (symm := false))))
      all_goals (refine fin_le (Le.refl _) (rv_one (rv1_tmp (by rfl))) (by first | rfl | (simp only [go_sem, Nat.reduceAdd, Nat.reduceMul, reduceIte, Nat.reduceEqDiff, Nat.reduceLeDiff, Int.reduceToNat, Int.reducePow, Int.reduceBEq, Int.reduceBNe, Int.reduceLT, Int.reduceLE, decide_true, decide_false])) ?_)
      all_goals first | rfl | (simp; done) | exact absurd (hbs hz hy (by omega) (by omega)) (by assumption)
    · have hpc := planF_code hp
      have e2 := solvesOf_bad hp
      generalize planF (pruneT t) plan = p at *
      
      
      
      (refine enterS Try.func5 Try.ntmps5 ?_)
      (repeat' (first | (refine hK _ ?_; clear hK K) | (refine aw_seq (fun K hK => ?_)) | (refine gR ?_; refine regS ?_) | (refine gD 6 ?_; refine drS (.it 0 0 (.it 2 0 (.it 1 1 (.it 3 1 (.it 4 0 (.it 5 0 .nil)))))) [0, 2, 4, 5] ?_) | (refine gE ?_; (first | (refine exN ?_) | (refine exS (fun _ => ?_)))) | (refine gC 17 ?_; refine callS (prune_ok t hf) ?_) | (refine gC 18 ?_; refine callS (prunes_pc) ?_) | (refine gC 22 ?_; refine callS (val_at hvp) ?_) | (refine gC 24 ?_; refine callS (solves_at e2) ?_) | (refine stk_op (fun K hK => ?_); (first | (refine aop_pv (pv_fieldAddrF (by rfl) (by rfl) (by first | decide | (simp; done) | (simp; omega))) ?_) | (refine aop_pv (pv_fieldAddrIF (by rfl) (by rfl) (by first | decide | (simp; done) | (simp; omega))) ?_) | (refine aop_pv (pv_neq (by rfl) (by rfl)) ?_) | (refine aop_pv (pv_neqB (by rfl) (by rfl)) ?_) | (refine aop_pv (pv_neqA (by rfl) (by rfl) (by kernel_rfl)) ?_) | (refine aop_pv (pv_eql (by rfl) (by rfl)) ?_) | (refine aop_pv (pv_eqlB (by rfl) (by rfl)) ?_) | (refine aop_pv (pv_eqlA (by rfl) (by rfl) (by kernel_rfl)) ?_) | (refine aop_call (mapped_pc _ _) (by rfl) (fun x hx => ?_); obtain (rfl | ⟨rfl, hmm⟩) := hx))) | (refine adx_op (fun K hK => ?_); (first | (refine aopx_call (best_pc t hw) (by rfl) (fun x hx => ?_); obtain ⟨z, rfl, hz⟩ := hx) | (refine aopx_call (best_pc (pruneT t) hwp) (by rfl) (fun x hx => ?_); obtain ⟨y, rfl, hy⟩ := hx))) | (refine And.intro ?_ ?_) | (refine gDx ?_; refine adxS ?_) | (refine gQ ?_; (first | (refine condT ?_) | (refine condF ?_) | (refine condS (fun hc => ?_) (fun hc => ?_) <;> (try (first | contradiction | (exfalso; omega)))))) | (refine gG ?_; refine guardS (fun hc => ?_) (fun hc => ?_) <;> (try (first | contradiction | (exfalso; omega)))) | (refine gW ?_; refine wopsS ?_) | (refine gWd ?_; refine wdrS ?_) | (refine aw_block ?_) | (refine gX ?_; refine exitS ?_) | (refine gT ?_; refine retS ?_) | (refine gS ?_; refine skipS ?_) | (apply_assumption (exfalso := false) (symm := false))))
      all_goals (refine fin_le (Le.refl _) (rv_one (rv1_tmp (by rfl))) (by first | rfl | (simp only [go_sem, Nat.reduceAdd, Nat.reduceMul, reduceIte, Nat.reduceEqDiff, Nat.reduceLeDiff, Int.reduceToNat, Int.reducePow, Int.reduceBEq, Int.reduceBNe, Int.reduceLT, Int.reduceLE, decide_true, decide_false])) ?_)
      all_goals first | rfl | (simp; done) | exact absurd (hbs hz hy (by omega) (by omega)) (by assumption)
  · have hac := tf_code hf
    obtain ⟨p, hfp⟩ : ∃ p, taskFault t = p := ⟨_, rfl⟩
    rw [hfp] at hac
    
    
    (refine enterS Try.func5 Try.ntmps5 ?_)
    (repeat' (first | (refine hK _ ?_; clear hK K) | (refine aw_seq (fun K hK => ?_)) | (refine gR ?_; refine regS ?_) | (refine gD 6 ?_; refine drS (.it 0 0 (.it 2 0 (.it 1 1 (.it 3 1 (.it 4 0 (.it 5 0 .nil)))))) [0, 2, 4, 5] ?_) | (refine gE ?_; (first | (refine exN ?_) | (refine exS (fun _ => ?_)))) | (refine gC 17 ?_; refine callS (prune_bad t p hfp hac) ?_) | (refine gC 18 ?_; refine callS (prunes_pc) ?_) | (refine gC 22 ?_; refine callS (val_at hvp) ?_) | (refine gC 24 ?_; refine callS (solves_at e2) ?_) | (refine stk_op (fun K hK => ?_); (first | (refine aop_pv (pv_fieldAddrF (by rfl) (by rfl) (by first | decide | (simp; done) | (simp; omega))) ?_) | (refine aop_pv (pv_fieldAddrIF (by rfl) (by rfl) (by first | decide | (simp; done) | (simp; omega))) ?_) | (refine aop_pv (pv_neq (by rfl) (by rfl)) ?_) | (refine aop_pv (pv_neqB (by rfl) (by rfl)) ?_) | (refine aop_pv (pv_neqA (by rfl) (by rfl) (by kernel_rfl)) ?_) | (refine aop_pv (pv_eql (by rfl) (by rfl)) ?_) | (refine aop_pv (pv_eqlB (by rfl) (by rfl)) ?_) | (refine aop_pv (pv_eqlA (by rfl) (by rfl) (by kernel_rfl)) ?_) | (refine aop_call (mapped_pc _ _) (by rfl) (fun x hx => ?_); obtain (rfl | ⟨rfl, hmm⟩) := hx))) | (refine adx_op (fun K hK => ?_); (first | (refine aopx_call (best_pc t hw) (by rfl) (fun x hx => ?_); obtain ⟨z, rfl, hz⟩ := hx) | (refine aopx_call (best_pc (pruneT t) hwp) (by rfl) (fun x hx => ?_); obtain ⟨y, rfl, hy⟩ := hx))) | (refine And.intro ?_ ?_) | (refine gDx ?_; refine adxS ?_) | (refine gQ ?_; (first | (refine condT ?_) | (refine condF ?_) | (refine condS (fun hc => ?_) (fun hc => ?_) <;> (try (first | contradiction | (exfalso; omega)))))) | (refine gG ?_; refine guardS (fun hc => ?_) (fun hc => ?_) <;> (try (first | contradiction | (exfalso; omega)))) | (refine gW ?_; refine wopsS ?_) | (refine gWd ?_; refine wdrS ?_) | (refine aw_block ?_) | (refine gX ?_; refine exitS ?_) | (refine gT ?_; refine retS ?_) | (refine gS ?_; refine skipS ?_) | (apply_assumption (exfalso := false) (symm := false))))
    all_goals (refine fin_le (Le.refl _) (rv_one (rv1_tmp (by rfl))) (by first | rfl | (simp only [go_sem, Nat.reduceAdd, Nat.reduceMul, reduceIte, Nat.reduceEqDiff, Nat.reduceLeDiff, Int.reduceToNat, Int.reducePow, Int.reduceBEq, Int.reduceBNe, Int.reduceLT, Int.reduceLE, decide_true, decide_false])) ?_)
    all_goals first | rfl | (simp; done) | exact absurd (hbs hz hy (by omega) (by omega)) (by assumption)

end Go.Proofs.Ythndlimdehfneaa
