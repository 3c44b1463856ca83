import Derived.Test.YtpnpnbbanfgpgaaSip
import Derived.Test.YtpnpnbbanfgpgaaEnl




namespace Go.Proofs.Ytpnpnbbanfgpgaa
open Go.Ab
open Go
set_option linter.unusedSimpArgs false
set_option linter.unusedVariables false
set_option maxRecDepth 10000
attribute [local irreducible] PV AOp AOps AW PCall OCall MCall WCall HCall Ab.Fin OFin OFin2 MFin HFin RV RV1 Le AStk AGrd ADr ADx ADo AOpX AAny
set_option maxHeartbeats 40000000
attribute [local go_sem] purge_appV cells_intsV cast_0 sealDL_app
--BODY
/-! plans of the multi-valued task, mapped -/
def mapL (from_ plan : List Int) : List Int := plan.map fun x => from_[x.toNat]!
theorem mapL_take {f plan : List Int} {k : Nat} (h : k < plan.length) : mapL f (plan.take (k + 1)) = mapL f (plan.take k) ++ [f[plan[k].toNat]!] := by
  unfold mapL; rw [List.take_succ_eq_append_getElem h, List.map_append]; rfl
theorem mapL_len (f plan : List Int) : (mapL f plan).length = plan.length := by simp [mapL]
theorem mapped_ok (f plan : List Int) (h : ∀ x ∈ plan, 0 ≤ x ∧ x < f.length) : PCall Try.prog 15 [ints f, ints plan] (fun r => r = .tup [ints (mapL f plan), .bool true]) := by
  (refine enterS Try.func15 Try.ntmps15 ?_)
  (refine aw_bound (i := 0) rfl (fun hb => ?_); (try simp only [List.length_map] at hb))
  (refine aw_bound (i := 1) rfl (fun hb1 => ?_); (try simp only [List.length_map] at hb1))
  
  (repeat' (first | (refine hK _ ?_; clear hK K) | (refine aw_seq (fun K hK => ?_)) | (refine gR ?_; refine regS ?_) | (refine gE ?_; (first | (refine exN ?_) | (refine exS (fun _ => ?_)))) | (refine gQ ?_; (first | (refine condT ?_) | (refine condF ?_) | (refine condS (fun hc => ?_) (fun hc => ?_) <;> (try (first | contradiction | (exfalso; omega)))))) | (refine gW ?_; refine wopsS ?_) | (refine aw_block ?_) | (refine gX ?_; refine exitS ?_) | (refine gT ?_; refine retS ?_) | (refine gS ?_; refine skipS ?_) | (apply_assumption (exfalso := false) (symm := false))))
  (refine awVirt 6 100 1 8 3 ?_)
  refine aw_loop_at [4, 5, 6, 7, 8, 9, 10, 11, 12, 13, 14, 15, 16, 17, 18, 19, 20, 21, 22, 23, 24, 25, 26, 27, 28, 29, 30, 31, 32] (fun k : Nat => k ≤ plan.length) (fun k => plan.length - k) (fun k => [(7, .int k), (6, .sl 1 8 100 0 k)]) (fun k => [(100, ⟨3, (mapL f (plan.take k)).map AV.int, false⟩)]) 0 (by omega) ?_ ?_
  · (refine atS ?_)
    (exact weakS)
  · rintro k hk K hK
    (refine atS ?_)
    have hml : (mapL f (plan.take k)).length = k := by rw [mapL_len, List.length_take]; omega
    by_cases hlt : k < plan.length
    · have hx := h _ (List.getElem_mem hlt)
      have hst := mapL_take (f := f) hlt
      have hg := getElem!_pos f plan[k].toNat (by omega)
      generalize mapL f (plan.take k) = q at *
      
      (repeat' (first | (refine hK _ ?_; clear hK K) | (refine aw_seq (fun K hK => ?_)) | (refine gR ?_; refine regS ?_) | (refine gC 21 ?_; refine callS (in_pc _ _ _) ?_) | (refine stk_op (fun K hK => ?_); (first | ((refine appendS ?_; simp only [go_sem, Nat.reduceAdd, Nat.reduceMul, reduceIte, Nat.reduceEqDiff, Nat.reduceLeDiff, Int.reduceToNat, Int.reducePow, Int.reduceBEq, Int.reduceBNe, Int.reduceLT, Int.reduceLE, decide_true, decide_false, Nat.reduceBEq, Bool.or_self, Bool.or_true, Bool.true_or, Bool.or_false, Bool.false_or, Bool.and_true, Bool.true_and, Bool.and_false, Bool.false_and, Bool.and_self, Bool.not_true, Bool.not_false, List.cons_append, List.nil_append, List.append_nil, if_true, if_false, Bool.false_eq_true, keysH])) | (refine appendS ?_) | (refine virtS 23 32 1 8 3 ?_; refine appendS ?_))) | (refine gE ?_; (first | (refine exN ?_) | (refine exS (fun _ => ?_)))) | (refine gQ ?_; (first | (refine condT ?_) | (refine condF ?_) | (refine condS (fun hc => ?_) (fun hc => ?_) <;> (try (first | contradiction | (exfalso; omega)))))) | (refine gW ?_; refine wopsS ?_) | (refine aw_block ?_) | (refine gX ?_; refine exitS ?_) | (refine gT ?_; refine retS ?_) | (refine gS ?_; refine skipS ?_) | (apply_assumption (exfalso := false) (symm := false))))
      refine ⟨k + 1, by omega, by omega, ?_⟩
      rw [hst, hg]
      (refine atS ?_)
      (refine le_weak (by (repeat (first | exact .nil | refine .drop ?_ | refine weak_keep ?_ (by first | rfl | (simp))))) (by (repeat refine hsub_hasE (by rfl) (by first | rfl | (simp)) ?_); exact hsub_nil _))
    · obtain rfl : k = plan.length := by omega
      rw [List.take_length] at *
      
      (repeat' (first | (refine hK _ ?_; clear hK K) | (refine aw_seq (fun K hK => ?_)) | (refine gRx 8 (by rfl) ?_; refine regS ?_) | (refine gE ?_; (first | (refine exN ?_) | (refine exS (fun _ => ?_)))) | (refine gQ ?_; (first | (refine condT ?_) | (refine condF ?_) | (refine condS (fun hc => ?_) (fun hc => ?_) <;> (try (first | contradiction | (exfalso; omega)))))) | (refine gW ?_; refine wopsS ?_) | (refine aw_block ?_) | (refine gX ?_; refine exitS ?_) | (refine gT ?_; refine retS ?_) | (refine gS ?_; refine skipS ?_) | (apply_assumption (exfalso := false) (symm := false))))
      (refine aw_le (le_sealDI 100 plan.length (mapL f plan) (by rfl) (by exact mapL_len _ _)) ?_; simp only [go_sem, Nat.reduceAdd, Nat.reduceMul, reduceIte, Nat.reduceEqDiff, Nat.reduceLeDiff, Int.reduceToNat, Int.reducePow, Int.reduceBEq, Int.reduceBNe, Int.reduceLT, Int.reduceLE, decide_true, decide_false])
      (repeat' (first | (refine hK _ ?_; clear hK K) | (refine aw_seq (fun K hK => ?_)) | (refine gR ?_; refine regS ?_) | (refine gE ?_; (first | (refine exN ?_) | (refine exS (fun _ => ?_)))) | (refine gQ ?_; (first | (refine condT ?_) | (refine condF ?_) | (refine condS (fun hc => ?_) (fun hc => ?_) <;> (try (first | contradiction | (exfalso; omega)))))) | (refine gW ?_; refine wopsS ?_) | (refine aw_block ?_) | (refine gX ?_; refine exitS ?_) | (refine gT ?_; refine retS ?_) | (refine gS ?_; refine skipS ?_) | (apply_assumption (exfalso := false) (symm := false))))
      (refine fin_le (Le.refl _) (rv_two (rv1_tmp (by rfl)) (rv1_tmp (by rfl))) (by first | rfl | (simp only [go_sem, Nat.reduceAdd, Nat.reduceMul, reduceIte, Nat.reduceEqDiff, Nat.reduceLeDiff, Int.reduceToNat, Int.reducePow, Int.reduceBEq, Int.reduceBNe, Int.reduceLT, Int.reduceLE, decide_true, decide_false])) ?_)
      rfl
theorem mapped_no (f plan : List Int) (h : ¬ ∀ x ∈ plan, 0 ≤ x ∧ x < f.length) : PCall Try.prog 15 [ints f, ints plan] (fun r => r = .tup [.nilS, .bool false]) := by
  
  (refine enterS Try.func15 Try.ntmps15 ?_)
  (refine aw_bound (i := 0) rfl (fun hb => ?_); (try simp only [List.length_map] at hb))
  (refine aw_bound (i := 1) rfl (fun hb1 => ?_); (try simp only [List.length_map] at hb1))
  (repeat' (first | (refine hK _ ?_; clear hK K) | (refine aw_seq (fun K hK => ?_)) | (refine gR ?_; refine regS ?_) | (refine gE ?_; (first | (refine exN ?_) | (refine exS (fun _ => ?_)))) | (refine gQ ?_; (first | (refine condT ?_) | (refine condF ?_) | (refine condS (fun hc => ?_) (fun hc => ?_) <;> (try (first | contradiction | (exfalso; omega)))))) | (refine gW ?_; refine wopsS ?_) | (refine aw_block ?_) | (refine gX ?_; refine exitS ?_) | (refine gT ?_; refine retS ?_) | (refine gS ?_; refine skipS ?_) | (apply_assumption (exfalso := false) (symm := false))))
  (refine awVirt 6 100 1 8 3 ?_)
  refine aw_loop_at [4, 5, 6, 7, 8, 9, 10, 11, 12, 13, 14, 15, 16, 17, 18, 19, 20, 21, 22, 23, 24, 25, 26, 27, 28, 29, 30, 31, 32] (fun k : Nat => k ≤ plan.length ∧ ∀ i (hi : i < plan.length), i < k → 0 ≤ plan[i] ∧ plan[i] < f.length) (fun k => plan.length - k) (fun k => [(7, .int k), (6, .sl 1 8 100 0 k)]) (fun k => [(100, ⟨3, (mapL f (plan.take k)).map AV.int, false⟩)]) 0 ⟨by omega, by omega⟩ ?_ ?_
  · (refine atS ?_)
    (exact weakS)
  · rintro k ⟨hk, hn⟩ K hK
    (refine atS ?_)
    have hml : (mapL f (plan.take k)).length = k := by rw [mapL_len, List.length_take]; omega
    by_cases hlt : k < plan.length
    · have hst := mapL_take (f := f) hlt
      
      by_cases hx : 0 ≤ plan[k] ∧ plan[k] < f.length
      · have hg := getElem!_pos f plan[k].toNat (by omega)
        generalize mapL f (plan.take k) = q at *
        (repeat' (first | (refine hK _ ?_; clear hK K) | (refine aw_seq (fun K hK => ?_)) | (refine gR ?_; refine regS ?_) | (refine gC 21 ?_; refine callS (in_pc _ _ _) ?_) | (refine stk_op (fun K hK => ?_); (first | ((refine appendS ?_; simp only [go_sem, Nat.reduceAdd, Nat.reduceMul, reduceIte, Nat.reduceEqDiff, Nat.reduceLeDiff, Int.reduceToNat, Int.reducePow, Int.reduceBEq, Int.reduceBNe, Int.reduceLT, Int.reduceLE, decide_true, decide_false, Nat.reduceBEq, Bool.or_self, Bool.or_true, Bool.true_or, Bool.or_false, Bool.false_or, Bool.and_true, Bool.true_and, Bool.and_false, Bool.false_and, Bool.and_self, Bool.not_true, Bool.not_false, List.cons_append, List.nil_append, List.append_nil, if_true, if_false, Bool.false_eq_true, keysH])) | (refine appendS ?_) | (refine virtS 23 32 1 8 3 ?_; refine appendS ?_))) | (refine gE ?_; (first | (refine exN ?_) | (refine exS (fun _ => ?_)))) | (refine gQ ?_; (first | (refine condT ?_) | (refine condF ?_) | (refine condS (fun hc => ?_) (fun hc => ?_) <;> (try (first | contradiction | (exfalso; omega)))))) | (refine gW ?_; refine wopsS ?_) | (refine aw_block ?_) | (refine gX ?_; refine exitS ?_) | (refine gT ?_; refine retS ?_) | (refine gS ?_; refine skipS ?_) | (apply_assumption (exfalso := false) (symm := false))))
        refine ⟨k + 1, ⟨by omega, upto_step hn fun _ => hx⟩, by omega, ?_⟩
        rw [hst, hg]
        (refine atS ?_)
        (refine le_weak (by (repeat (first | exact .nil | refine .drop ?_ | refine weak_keep ?_ (by first | rfl | (simp))))) (by (repeat refine hsub_hasE (by rfl) (by first | rfl | (simp)) ?_); exact hsub_nil _))
      · (repeat' (first | (refine hK _ ?_; clear hK K) | (refine aw_seq (fun K hK => ?_)) | (refine gR ?_; refine regS ?_) | (refine gC 21 ?_; refine callS (in_pc _ _ _) ?_) | (refine stk_op (fun K hK => ?_); (first | (refine appendS ?_) | (refine virtS 23 32 1 8 3 ?_; refine appendS ?_))) | (refine gE ?_; (first | (refine exN ?_) | (refine exS (fun _ => ?_)))) | (refine gQ ?_; (first | (refine condT ?_) | (refine condF ?_) | (refine condS (fun hc => ?_) (fun hc => ?_) <;> (try (first | contradiction | (exfalso; omega)))))) | (refine gW ?_; refine wopsS ?_) | (refine aw_block ?_) | (refine gX ?_; refine exitS ?_) | (refine gT ?_; refine retS ?_) | (refine gS ?_; refine skipS ?_) | (apply_assumption (exfalso := false) (symm := false))))
        (refine fin_le (Le.refl _) (rv_two (rv1_tmp (by rfl)) (rv1_tmp (by rfl))) (by first | rfl | (simp only [go_sem, Nat.reduceAdd, Nat.reduceMul, reduceIte, Nat.reduceEqDiff, Nat.reduceLeDiff, Int.reduceToNat, Int.reducePow, Int.reduceBEq, Int.reduceBNe, Int.reduceLT, Int.reduceLE, decide_true, decide_false])) ?_)
        rfl
    · exact absurd (fun x hx => by obtain ⟨i, hi, rfl⟩ := List.getElem_of_mem hx; exact hn i hi (by omega)) h
/-! row 37 -/
theorem keptLaw_pc (t : Task) (ls : List (List Int)) (plan : List Int) : PCall Try.prog 4 [t.av, rows ls, ints plan] (fun r => r = .bool true) := by
  by_cases h : groupsFault t ls = (0, 0)
  · have hm := multi_ok t ls h
    by_cases hb : badC (coverT t.facts.toNat ls)
    · rw [mf_bad hb] at hm
      
      (refine enterS Try.func4 Try.ntmps4 ?_)
      
      (repeat' (first | (refine hK _ ?_; clear hK K) | (refine aw_seq (fun K hK => ?_)) | (refine gR ?_; refine regS ?_) | (refine gC 11 ?_; refine callS (hm) ?_) | (refine gC 7 ?_; refine callS (encodes_pc) ?_) | (refine stk_op (fun K hK => ?_); (first | (refine aop_pv (pv_fieldAddrF (by rfl) (by rfl) (by first | decide | (simp; done) | (simp; omega))) ?_) | (refine aop_pv (pv_fieldAddrIF (by rfl) (by rfl) (by first | decide | (simp; done) | (simp; omega))) ?_) | (refine aop_pv (pv_neq (by rfl) (by rfl)) ?_) | (refine aop_pv (pv_neqB (by rfl) (by rfl)) ?_) | (refine aop_pv (pv_neqA (by rfl) (by rfl) (by kernel_rfl)) ?_) | (refine aop_pv (pv_eql (by rfl) (by rfl)) ?_) | (refine aop_pv (pv_eqlB (by rfl) (by rfl)) ?_) | (refine aop_pv (pv_eqlA (by rfl) (by rfl) (by kernel_rfl)) ?_))) | (refine gE ?_; (first | (refine exN ?_) | (refine exS (fun _ => ?_)))) | (refine gG ?_; refine guardS (fun hc => ?_) (fun hc => ?_) <;> (try (first | contradiction | (exfalso; omega)))) | (refine gQ ?_; (first | (refine condT ?_) | (refine condF ?_) | (refine condS (fun hc => ?_) (fun hc => ?_) <;> (try (first | contradiction | (exfalso; omega)))))) | (refine gW ?_; refine wopsS ?_) | (refine aw_block ?_) | (refine gX ?_; refine exitS ?_) | (refine gT ?_; refine retS ?_) | (refine gS ?_; refine skipS ?_) | (apply_assumption (exfalso := false) (symm := false))))
      (refine fin_le (Le.refl _) (rv_one (rv1_tmp (by rfl))) (by first | rfl | (simp only [go_sem, Nat.reduceAdd, Nat.reduceMul, reduceIte, Nat.reduceEqDiff, Nat.reduceLeDiff, Int.reduceToNat, Int.reducePow, Int.reduceBEq, Int.reduceBNe, Int.reduceLT, Int.reduceLE, decide_true, decide_false])) ?_)
      rfl
    cases hng : crowdB (coverT t.facts.toNat ls) t.goal with
    | true =>
      rw [mf_goal hb hng] at hm
      (refine enterS Try.func4 Try.ntmps4 ?_)
      
      (repeat' (first | (refine hK _ ?_; clear hK K) | (refine aw_seq (fun K hK => ?_)) | (refine gR ?_; refine regS ?_) | (refine gC 11 ?_; refine callS (hm) ?_) | (refine gC 7 ?_; refine callS (encodes_pc) ?_) | (refine stk_op (fun K hK => ?_); (first | (refine aop_pv (pv_fieldAddrF (by rfl) (by rfl) (by first | decide | (simp; done) | (simp; omega))) ?_) | (refine aop_pv (pv_fieldAddrIF (by rfl) (by rfl) (by first | decide | (simp; done) | (simp; omega))) ?_) | (refine aop_pv (pv_neq (by rfl) (by rfl)) ?_) | (refine aop_pv (pv_neqB (by rfl) (by rfl)) ?_) | (refine aop_pv (pv_neqA (by rfl) (by rfl) (by kernel_rfl)) ?_) | (refine aop_pv (pv_eql (by rfl) (by rfl)) ?_) | (refine aop_pv (pv_eqlB (by rfl) (by rfl)) ?_) | (refine aop_pv (pv_eqlA (by rfl) (by rfl) (by kernel_rfl)) ?_))) | (refine gE ?_; (first | (refine exN ?_) | (refine exS (fun _ => ?_)))) | (refine gG ?_; refine guardS (fun hc => ?_) (fun hc => ?_) <;> (try (first | contradiction | (exfalso; omega)))) | (refine gQ ?_; (first | (refine condT ?_) | (refine condF ?_) | (refine condS (fun hc => ?_) (fun hc => ?_) <;> (try (first | contradiction | (exfalso; omega)))))) | (refine gW ?_; refine wopsS ?_) | (refine aw_block ?_) | (refine gX ?_; refine exitS ?_) | (refine gT ?_; refine retS ?_) | (refine gS ?_; refine skipS ?_) | (apply_assumption (exfalso := false) (symm := false))))
      (refine fin_le (Le.refl _) (rv_one (rv1_tmp (by rfl))) (by first | rfl | (simp only [go_sem, Nat.reduceAdd, Nat.reduceMul, reduceIte, Nat.reduceEqDiff, Nat.reduceLeDiff, Int.reduceToNat, Int.reducePow, Int.reduceBEq, Int.reduceBNe, Int.reduceLT, Int.reduceLE, decide_true, decide_false])) ?_)
      rfl
    | false =>
      by_cases h40 : 40 < (pairsK t (coverT t.facts.toNat ls) t.ops.length).length
      · rw [mf_many hb hng h40] at hm
        (refine enterS Try.func4 Try.ntmps4 ?_)
        
        (repeat' (first | (refine hK _ ?_; clear hK K) | (refine aw_seq (fun K hK => ?_)) | (refine gR ?_; refine regS ?_) | (refine gC 11 ?_; refine callS (hm) ?_) | (refine gC 7 ?_; refine callS (encodes_pc) ?_) | (refine stk_op (fun K hK => ?_); (first | (refine aop_pv (pv_fieldAddrF (by rfl) (by rfl) (by first | decide | (simp; done) | (simp; omega))) ?_) | (refine aop_pv (pv_fieldAddrIF (by rfl) (by rfl) (by first | decide | (simp; done) | (simp; omega))) ?_) | (refine aop_pv (pv_neq (by rfl) (by rfl)) ?_) | (refine aop_pv (pv_neqB (by rfl) (by rfl)) ?_) | (refine aop_pv (pv_neqA (by rfl) (by rfl) (by kernel_rfl)) ?_) | (refine aop_pv (pv_eql (by rfl) (by rfl)) ?_) | (refine aop_pv (pv_eqlB (by rfl) (by rfl)) ?_) | (refine aop_pv (pv_eqlA (by rfl) (by rfl) (by kernel_rfl)) ?_))) | (refine gE ?_; (first | (refine exN ?_) | (refine exS (fun _ => ?_)))) | (refine gG ?_; refine guardS (fun hc => ?_) (fun hc => ?_) <;> (try (first | contradiction | (exfalso; omega)))) | (refine gQ ?_; (first | (refine condT ?_) | (refine condF ?_) | (refine condS (fun hc => ?_) (fun hc => ?_) <;> (try (first | contradiction | (exfalso; omega)))))) | (refine gW ?_; refine wopsS ?_) | (refine aw_block ?_) | (refine gX ?_; refine exitS ?_) | (refine gT ?_; refine retS ?_) | (refine gS ?_; refine skipS ?_) | (apply_assumption (exfalso := false) (symm := false))))
        (refine fin_le (Le.refl _) (rv_one (rv1_tmp (by rfl))) (by first | rfl | (simp only [go_sem, Nat.reduceAdd, Nat.reduceMul, reduceIte, Nat.reduceEqDiff, Nat.reduceLeDiff, Int.reduceToNat, Int.reducePow, Int.reduceBEq, Int.reduceBNe, Int.reduceLT, Int.reduceLE, decide_true, decide_false])) ?_)
        rfl
      have hm2 : PCall Try.prog 11 [t.av, rows ls] (fun r => r = mres (taskM t (coverT t.facts.toNat ls), fromL t (coverT t.facts.toNat ls), 0, 0)) := by
        rw [mf_ok hb hng h40] at hm
        exact hm
      clear hm
      have h40' : (pairsK t (coverT t.facts.toNat ls) t.ops.length).length ≤ 40 := by omega
      have hv := task_valid h hb h40'
      have hwf := (gf_ok h).1
      have hfl : (fromL t (coverT t.facts.toNat ls)).length = (taskM t (coverT t.facts.toNat ls)).ops.length := by simp [fromL, taskM]
      have hsim := fun hp => solves_sim (plan := plan) h h40' hng hp
      have hcs := fun hp => cost_sim (t := t) h40' plan hp
      have hspec := fun x h0 h1 => op_spec (x := x) (t := t) h40' h0 h1
      have hst : stepsL t (coverT t.facts.toNat ls) plan = mapL (fromL t (coverT t.facts.toNat ls)) plan := rfl
      rw [hst] at hsim hcs
      clear hst
      generalize coverT t.facts.toNat ls = cs at *
      generalize taskM t cs = m at *
      generalize fromL t cs = f at *
      have hval := mvalid_ok m hv
      
      
      
      by_cases hs : stepsFault m.ops.length plan = (0, 0)
      · obtain ⟨h60, hp⟩ := sf_iff.1 hs
        have hin : InOps t (mapL f plan) := fun x hx => by
          unfold mapL at hx
          rw [List.mem_map] at hx
          obtain ⟨y, hy, rfl⟩ := hx
          obtain ⟨i, hi, h2, _⟩ := hspec y (hp y hy).1 (hp y hy).2
          rw [h2]; omega
        have hpf : planF t (mapL f plan) = (0, 0) := planF_in.2 ⟨hwf, by rw [mapL_len]; exact h60, hin⟩
        have hsol := solves_at (t := t) (plan := mapL f plan) (solvesOf_ok hpf)
        have hcos := cost_at (t := t) (plan := mapL f plan) (costOf_ok hpf)
        rw [← hcs hp] at hcos
        have hms := solvesM_pc m plan hv h60 hp
        have hmc := costM_pc m plan hv h60 hp
        have hmp := mapped_ok f plan (fun x hx => by rw [hfl]; exact hp x hx)
        have hsim2 := hsim hp
        generalize mapL f plan = st at *
        generalize worksB t t.init (natP st) = w at *
        generalize costLM m plan = c at *
        generalize solvesM m plan = sm at *
        
        
        
        
        
        
        cases sm with
        | true =>
          rw [hsim2 rfl] at hsol
          (refine enterS Try.func4 Try.ntmps4 ?_)
          
          (repeat' (first | (refine hK _ ?_; clear hK K) | (refine aw_seq (fun K hK => ?_)) | (refine gR ?_; refine regS ?_) | (refine gC 11 ?_; refine callS (hm2) ?_) | (refine gC 7 ?_; refine callS (encodes_pc) ?_) | (refine gC 12 ?_; refine callS (hval) ?_) | (refine gC 13 ?_; refine callS (hms) ?_) | (refine gC 14 ?_; refine callS (hmc) ?_) | (refine gC 15 ?_; refine callS (hmp) ?_) | (refine gC 16 ?_; refine callS (hsol) ?_) | (refine gC 17 ?_; refine callS (hcos) ?_) | (refine stk_op (fun K hK => ?_); (first | (refine aop_pv (pv_fieldAddrF (by rfl) (by rfl) (by first | decide | (simp; done) | (simp; omega))) ?_) | (refine aop_pv (pv_fieldAddrIF (by rfl) (by rfl) (by first | decide | (simp; done) | (simp; omega))) ?_) | (refine aop_pv (pv_neq (by rfl) (by rfl)) ?_) | (refine aop_pv (pv_neqB (by rfl) (by rfl)) ?_) | (refine aop_pv (pv_neqA (by rfl) (by rfl) (by kernel_rfl)) ?_) | (refine aop_pv (pv_eql (by rfl) (by rfl)) ?_) | (refine aop_pv (pv_eqlB (by rfl) (by rfl)) ?_) | (refine aop_pv (pv_eqlA (by rfl) (by rfl) (by kernel_rfl)) ?_))) | (refine gE ?_; (first | (refine exN ?_) | (refine exS (fun _ => ?_)))) | (refine gG ?_; refine guardS (fun hc => ?_) (fun hc => ?_) <;> (try (first | contradiction | (exfalso; omega)))) | (refine gQ ?_; (first | (refine condT ?_) | (refine condF ?_) | (refine condS (fun hc => ?_) (fun hc => ?_) <;> (try (first | contradiction | (exfalso; omega)))))) | (refine gW ?_; refine wopsS ?_) | (refine aw_block ?_) | (refine gX ?_; refine exitS ?_) | (refine gT ?_; refine retS ?_) | (refine gS ?_; refine skipS ?_) | (apply_assumption (exfalso := false) (symm := false))))
          (refine fin_le (Le.refl _) (rv_one (rv1_tmp (by rfl))) (by first | rfl | (simp only [go_sem, Nat.reduceAdd, Nat.reduceMul, reduceIte, Nat.reduceEqDiff, Nat.reduceLeDiff, Int.reduceToNat, Int.reducePow, Int.reduceBEq, Int.reduceBNe, Int.reduceLT, Int.reduceLE, decide_true, decide_false])) ?_)
          rfl
        | false =>
          (refine enterS Try.func4 Try.ntmps4 ?_)
          (repeat' (first | (refine hK _ ?_; clear hK K) | (refine aw_seq (fun K hK => ?_)) | (refine gR ?_; refine regS ?_) | (refine gC 11 ?_; refine callS (hm2) ?_) | (refine gC 7 ?_; refine callS (encodes_pc) ?_) | (refine gC 12 ?_; refine callS (hval) ?_) | (refine gC 13 ?_; refine callS (hms) ?_) | (refine gC 14 ?_; refine callS (hmc) ?_) | (refine gC 15 ?_; refine callS (hmp) ?_) | (refine gC 16 ?_; refine callS (hsol) ?_) | (refine gC 17 ?_; refine callS (hcos) ?_) | (refine stk_op (fun K hK => ?_); (first | (refine aop_pv (pv_fieldAddrF (by rfl) (by rfl) (by first | decide | (simp; done) | (simp; omega))) ?_) | (refine aop_pv (pv_fieldAddrIF (by rfl) (by rfl) (by first | decide | (simp; done) | (simp; omega))) ?_) | (refine aop_pv (pv_neq (by rfl) (by rfl)) ?_) | (refine aop_pv (pv_neqB (by rfl) (by rfl)) ?_) | (refine aop_pv (pv_neqA (by rfl) (by rfl) (by kernel_rfl)) ?_) | (refine aop_pv (pv_eql (by rfl) (by rfl)) ?_) | (refine aop_pv (pv_eqlB (by rfl) (by rfl)) ?_) | (refine aop_pv (pv_eqlA (by rfl) (by rfl) (by kernel_rfl)) ?_))) | (refine gE ?_; (first | (refine exN ?_) | (refine exS (fun _ => ?_)))) | (refine gG ?_; refine guardS (fun hc => ?_) (fun hc => ?_) <;> (try (first | contradiction | (exfalso; omega)))) | (refine gQ ?_; (first | (refine condT ?_) | (refine condF ?_) | (refine condS (fun hc => ?_) (fun hc => ?_) <;> (try (first | contradiction | (exfalso; omega)))))) | (refine gW ?_; refine wopsS ?_) | (refine aw_block ?_) | (refine gX ?_; refine exitS ?_) | (refine gT ?_; refine retS ?_) | (refine gS ?_; refine skipS ?_) | (apply_assumption (exfalso := false) (symm := false))))
          (refine fin_le (Le.refl _) (rv_one (rv1_tmp (by rfl))) (by first | rfl | (simp only [go_sem, Nat.reduceAdd, Nat.reduceMul, reduceIte, Nat.reduceEqDiff, Nat.reduceLeDiff, Int.reduceToNat, Int.reducePow, Int.reduceBEq, Int.reduceBNe, Int.reduceLT, Int.reduceLE, decide_true, decide_false])) ?_)
          rfl
      · have hsc := sf_code hs
        have hms := solvesM_no m plan hv hs
        have hmc := costM_no m plan hv hs
        generalize stepsFault m.ops.length plan = p at *
        
        
        
        
        by_cases hr : ∀ x ∈ plan, 0 ≤ x ∧ x < f.length
        · have hmp := mapped_ok f plan hr
          generalize mapL f plan = st at *
          
          (refine enterS Try.func4 Try.ntmps4 ?_)
          
          (repeat' (first | (refine hK _ ?_; clear hK K) | (refine aw_seq (fun K hK => ?_)) | (refine gR ?_; refine regS ?_) | (refine gC 11 ?_; refine callS (hm2) ?_) | (refine gC 7 ?_; refine callS (encodes_pc) ?_) | (refine gC 12 ?_; refine callS (hval) ?_) | (refine gC 13 ?_; refine callS (hms) ?_) | (refine gC 14 ?_; refine callS (hmc) ?_) | (refine gC 15 ?_; refine callS (hmp) ?_) | (refine stk_op (fun K hK => ?_); (first | (refine aop_pv (pv_fieldAddrF (by rfl) (by rfl) (by first | decide | (simp; done) | (simp; omega))) ?_) | (refine aop_pv (pv_fieldAddrIF (by rfl) (by rfl) (by first | decide | (simp; done) | (simp; omega))) ?_) | (refine aop_pv (pv_neq (by rfl) (by rfl)) ?_) | (refine aop_pv (pv_neqB (by rfl) (by rfl)) ?_) | (refine aop_pv (pv_neqA (by rfl) (by rfl) (by kernel_rfl)) ?_) | (refine aop_pv (pv_eql (by rfl) (by rfl)) ?_) | (refine aop_pv (pv_eqlB (by rfl) (by rfl)) ?_) | (refine aop_pv (pv_eqlA (by rfl) (by rfl) (by kernel_rfl)) ?_))) | (refine gE ?_; (first | (refine exN ?_) | (refine exS (fun _ => ?_)))) | (refine gG ?_; refine guardS (fun hc => ?_) (fun hc => ?_) <;> (try (first | contradiction | (exfalso; omega)))) | (refine gQ ?_; (first | (refine condT ?_) | (refine condF ?_) | (refine condS (fun hc => ?_) (fun hc => ?_) <;> (try (first | contradiction | (exfalso; omega)))))) | (refine gW ?_; refine wopsS ?_) | (refine aw_block ?_) | (refine gX ?_; refine exitS ?_) | (refine gT ?_; refine retS ?_) | (refine gS ?_; refine skipS ?_) | (apply_assumption (exfalso := false) (symm := false))))
          (refine fin_le (Le.refl _) (rv_one (rv1_tmp (by rfl))) (by first | rfl | (simp only [go_sem, Nat.reduceAdd, Nat.reduceMul, reduceIte, Nat.reduceEqDiff, Nat.reduceLeDiff, Int.reduceToNat, Int.reducePow, Int.reduceBEq, Int.reduceBNe, Int.reduceLT, Int.reduceLE, decide_true, decide_false])) ?_)
          rfl
        · have hmp := mapped_no f plan hr
          (refine enterS Try.func4 Try.ntmps4 ?_)
          (repeat' (first | (refine hK _ ?_; clear hK K) | (refine aw_seq (fun K hK => ?_)) | (refine gR ?_; refine regS ?_) | (refine gC 11 ?_; refine callS (hm2) ?_) | (refine gC 7 ?_; refine callS (encodes_pc) ?_) | (refine gC 12 ?_; refine callS (hval) ?_) | (refine gC 13 ?_; refine callS (hms) ?_) | (refine gC 14 ?_; refine callS (hmc) ?_) | (refine gC 15 ?_; refine callS (hmp) ?_) | (refine stk_op (fun K hK => ?_); (first | (refine aop_pv (pv_fieldAddrF (by rfl) (by rfl) (by first | decide | (simp; done) | (simp; omega))) ?_) | (refine aop_pv (pv_fieldAddrIF (by rfl) (by rfl) (by first | decide | (simp; done) | (simp; omega))) ?_) | (refine aop_pv (pv_neq (by rfl) (by rfl)) ?_) | (refine aop_pv (pv_neqB (by rfl) (by rfl)) ?_) | (refine aop_pv (pv_neqA (by rfl) (by rfl) (by kernel_rfl)) ?_) | (refine aop_pv (pv_eql (by rfl) (by rfl)) ?_) | (refine aop_pv (pv_eqlB (by rfl) (by rfl)) ?_) | (refine aop_pv (pv_eqlA (by rfl) (by rfl) (by kernel_rfl)) ?_))) | (refine gE ?_; (first | (refine exN ?_) | (refine exS (fun _ => ?_)))) | (refine gG ?_; refine guardS (fun hc => ?_) (fun hc => ?_) <;> (try (first | contradiction | (exfalso; omega)))) | (refine gQ ?_; (first | (refine condT ?_) | (refine condF ?_) | (refine condS (fun hc => ?_) (fun hc => ?_) <;> (try (first | contradiction | (exfalso; omega)))))) | (refine gW ?_; refine wopsS ?_) | (refine aw_block ?_) | (refine gX ?_; refine exitS ?_) | (refine gT ?_; refine retS ?_) | (refine gS ?_; refine skipS ?_) | (apply_assumption (exfalso := false) (symm := false))))
          (refine fin_le (Le.refl _) (rv_one (rv1_tmp (by rfl))) (by first | rfl | (simp only [go_sem, Nat.reduceAdd, Nat.reduceMul, reduceIte, Nat.reduceEqDiff, Nat.reduceLeDiff, Int.reduceToNat, Int.reducePow, Int.reduceBEq, Int.reduceBNe, Int.reduceLT, Int.reduceLE, decide_true, decide_false])) ?_)
          rfl
  · have hc := gf_code h
    have hm := multi_no t ls h
    generalize groupsFault t ls = p at *
    
    
    (refine enterS Try.func4 Try.ntmps4 ?_)
    
    (repeat' (first | (refine hK _ ?_; clear hK K) | (refine aw_seq (fun K hK => ?_)) | (refine gR ?_; refine regS ?_) | (refine gC 11 ?_; refine callS (hm) ?_) | (refine gC 7 ?_; refine callS (encodes_pc) ?_) | (refine stk_op (fun K hK => ?_); (first | (refine aop_pv (pv_fieldAddrF (by rfl) (by rfl) (by first | decide | (simp; done) | (simp; omega))) ?_) | (refine aop_pv (pv_fieldAddrIF (by rfl) (by rfl) (by first | decide | (simp; done) | (simp; omega))) ?_) | (refine aop_pv (pv_neq (by rfl) (by rfl)) ?_) | (refine aop_pv (pv_neqB (by rfl) (by rfl)) ?_) | (refine aop_pv (pv_neqA (by rfl) (by rfl) (by kernel_rfl)) ?_) | (refine aop_pv (pv_eql (by rfl) (by rfl)) ?_) | (refine aop_pv (pv_eqlB (by rfl) (by rfl)) ?_) | (refine aop_pv (pv_eqlA (by rfl) (by rfl) (by kernel_rfl)) ?_))) | (refine gE ?_; (first | (refine exN ?_) | (refine exS (fun _ => ?_)))) | (refine gG ?_; refine guardS (fun hc => ?_) (fun hc => ?_) <;> (try (first | contradiction | (exfalso; omega)))) | (refine gQ ?_; (first | (refine condT ?_) | (refine condF ?_) | (refine condS (fun hc => ?_) (fun hc => ?_) <;> (try (first | contradiction | (exfalso; omega)))))) | (refine gW ?_; refine wopsS ?_) | (refine aw_block ?_) | (refine gX ?_; refine exitS ?_) | (refine gT ?_; refine retS ?_) | (refine gS ?_; refine skipS ?_) | (apply_assumption (exfalso := false) (symm := false))))
    (refine fin_le (Le.refl _) (rv_one (rv1_tmp (by rfl))) (by first | rfl | (simp only [go_sem, Nat.reduceAdd, Nat.reduceMul, reduceIte, Nat.reduceEqDiff, Nat.reduceLeDiff, Int.reduceToNat, Int.reducePow, Int.reduceBEq, Int.reduceBNe, Int.reduceLT, Int.reduceLE, decide_true, decide_false])) ?_)
    rfl


end Go.Proofs.Ytpnpnbbanfgpgaa
