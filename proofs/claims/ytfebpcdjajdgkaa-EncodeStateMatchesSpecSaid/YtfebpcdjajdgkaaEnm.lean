import Derived.Test.YtfebpcdjajdgkaaEnl



namespace Go.Proofs.Ytfebpcdjajdgkaa
open Go.Ab
open Go
set_option linter.unusedSimpArgs false
set_option linter.unusedVariables false
set_option maxRecDepth 10000
attribute [local irreducible] PV AOp AOps AW PCall OCall MCall WCall HCall Ab.Fin OFin OFin2 MFin HFin RV RV1 Le AStk AGrd ADr ADx ADo AOpX AAny
set_option maxHeartbeats 4000000
attribute [local go_sem] purge_appV cells_intsV cast_0 sealDL_app
--BODY
theorem stateOkE_pc (t : Task) (s : List Int) (hw : WfT t) : PCall Try.prog 23 [t.av, ints s] (fun r => r = .bool (isSet s t.facts)) := by
  have h0 := hw.f0
  have h1 := hw.f1
  (refine enterS Try.func23 Try.ntmps23 ?_)
  (repeat' (first | (refine hK _ ?_; clear hK K) | (refine aw_seq (fun K hK => ?_)) | (refine gR ?_; refine regS ?_) | (refine gE ?_; (first | (refine exN ?_) | (refine exS (fun _ => ?_)))) | (refine gC 60 ?_; refine callS (refIsSet_pc _ _ (by omega)) ?_) | (refine stk_op (fun K hK => ?_); (first | (refine aop_pv (pv_fieldAddrF (by rfl) (by rfl) (by first | decide | (simp; done) | (simp; omega))) ?_) | (refine aop_pv (pv_fieldAddrIF (by rfl) (by rfl) (by first | decide | (simp; done) | (simp; omega))) ?_))) | (refine gQ ?_; (first | (refine condT ?_) | (refine condF ?_) | (refine condS (fun hc => ?_) (fun hc => ?_) <;> (try (first | contradiction | (exfalso; omega)))))) | (refine gW ?_; refine wopsS ?_) | (refine aw_block ?_) | (refine gX ?_; refine exitS ?_) | (refine gT ?_; refine retS ?_) | (refine gS ?_; refine skipS ?_) | (apply_assumption (exfalso := false) (symm := false))))
  (refine fin_le (Le.refl _) (rv_one (rv1_tmp (by rfl))) (by first | rfl | (simp only [go_sem, Nat.reduceAdd, Nat.reduceMul, reduceIte, Nat.reduceEqDiff, Nat.reduceLeDiff, Int.reduceToNat, Int.reducePow, Int.reduceBEq, Int.reduceBNe, Int.reduceLT, Int.reduceLE, decide_true, decide_false])) ?_)
  rfl
theorem intsN_pc : PCall Try.prog 22 [ints [], .nilS] (fun r => r = .bool true) := pcall_le ((ints_pc [] []).mono fun r hr => by rw [hr]; rfl) ⟨ALe.rfl' _, ALe.nil 1 8, trivial⟩
theorem intsS_pc (l : List Int) : PCall Try.prog 22 [ints l, ints l] (fun r => r = .bool true) := (ints_pc l l).mono fun r hr => by rw [hr, decide_eq_true rfl]
theorem sameN_pc : PCall Try.prog 21 [zeroM.av, .agg [.nilS, .nilS, .nilS, .nilS]] (fun r => r = .bool true) := pcall_le ((sameMulti_pc zeroM zeroM).mono fun r hr => by rw [hr]; rfl) ⟨ALe.rfl' _, ALe.agg zeroMLe, trivial⟩
theorem sameS_pc (m : MTask) : PCall Try.prog 21 [m.av, m.av] (fun r => r = .bool true) := (sameMulti_pc m m).mono fun r hr => by rw [hr, decide_eq_true rfl]
theorem listsS_pc (l : List (List Int)) : PCall Try.prog 17 [rows l, rows l] (fun r => r = .bool true) := (lists_pc l l).mono fun r hr => by rw [hr, decide_eq_true rfl]

theorem stateLaw_pc (t : Task) (ls : List (List Int)) (s : List Int) : PCall Try.prog 4 [t.av, rows ls, ints s] (fun r => r = .bool true) := by
  have hg := groupsFault_pc t ls
  have hs := state_pc t ls s
  by_cases h : groupsFault t ls = (0, 0)
  · obtain ⟨hw, h24, hl⟩ := gf_ok h
    have hlen := covT_len h24 hw
    have hcov := coverOf_pc t ls hw (fun l hm => (hl l hm).1) h24
    rw [h] at hg
    
    by_cases hset : isSet s t.facts = true
    · have hso : PCall Try.prog 23 [t.av, ints s] (fun r => r = .bool true) := (stateOkE_pc t s hw).mono fun r hr => by rw [hr, hset]
      
      
      have hvo := valuesOf_pc (coverT t.facts.toNat ls) s (by omega)
      cases hc : crowdB (coverT t.facts.toNat ls) s with
      | true =>
        have hst : stateF t ls s = ([], (13, -9)) := by unfold stateF; rw [if_neg (by simp [h]), if_neg (by simp [hset]), if_pos hc]
        rw [hst] at hs
        rw [hc] at hvo
        generalize coverT t.facts.toNat ls = cs at *
        
        
        
        
        (refine enterS Try.func4 Try.ntmps4 ?_)
        (repeat' (first | (refine hK _ ?_; clear hK K) | (refine aw_seq (fun K hK => ?_)) | (refine gR ?_; refine regS ?_) | (refine gE ?_; (first | (refine exN ?_) | (refine exS (fun _ => ?_)))) | (refine gC 14 ?_; refine callS (hg) ?_) | (refine gC 23 ?_; refine callS (hso) ?_) | (refine gC 24 ?_; refine callS (at_pc _ _) ?_) | (refine gC 18 ?_; refine callS (hcov) ?_) | (refine gC 25 ?_; refine callS (hvo) ?_) | (refine gC 26 ?_; refine callS (hs) ?_) | (refine gC 16 ?_; refine callS (encodes_pc) ?_) | (refine gC 22 ?_; refine callS (intsN_pc) ?_) | (refine stk_op (fun K hK => ?_); (first | (refine aop_pv (pv_fieldAddrF (by rfl) (by rfl) (by first | decide | (simp; done) | (simp; omega))) ?_) | (refine aop_pv (pv_fieldAddrIF (by rfl) (by rfl) (by first | decide | (simp; done) | (simp; omega))) ?_) | (refine aop_pv (pv_eql (by rfl) (by rfl)) ?_) | (refine aop_pv (pv_eqlB (by rfl) (by rfl)) ?_) | (refine aop_pv (pv_eqlA (by rfl) (by rfl) (by kernel_rfl)) ?_))) | (refine gQ ?_; (first | (refine condT ?_) | (refine condF ?_) | (refine condS (fun hc => ?_) (fun hc => ?_) <;> (try (first | contradiction | (exfalso; omega)))))) | (refine gG ?_; refine guardS (fun hc => ?_) (fun hc => ?_) <;> (try (first | contradiction | (exfalso; omega)))) | (refine gW ?_; refine wopsS ?_) | (refine aw_block ?_) | (refine gX ?_; refine exitS ?_) | (refine gT ?_; refine retS ?_) | (refine gS ?_; refine skipS ?_) | (apply_assumption (exfalso := false) (symm := false))))
        (refine fin_le (Le.refl _) (rv_one (rv1_tmp (by rfl))) (by first | rfl | (simp only [go_sem, Nat.reduceAdd, Nat.reduceMul, reduceIte, Nat.reduceEqDiff, Nat.reduceLeDiff, Int.reduceToNat, Int.reducePow, Int.reduceBEq, Int.reduceBNe, Int.reduceLT, Int.reduceLE, decide_true, decide_false])) ?_)
        rfl
      | false =>
        have hst : stateF t ls s = (valsF (coverT t.facts.toNat ls) s, (0, 0)) := by unfold stateF; rw [if_neg (by simp [h]), if_neg (by simp [hset]), if_neg (by simp [hc])]
        rw [hst] at hs
        rw [hc] at hvo
        generalize coverT t.facts.toNat ls = cs at *
        generalize valsF cs s = vl at *
        
        
        (refine enterS Try.func4 Try.ntmps4 ?_)
        (repeat' (first | (refine hK _ ?_; clear hK K) | (refine aw_seq (fun K hK => ?_)) | (refine gR ?_; refine regS ?_) | (refine gE ?_; (first | (refine exN ?_) | (refine exS (fun _ => ?_)))) | (refine gC 14 ?_; refine callS (hg) ?_) | (refine gC 23 ?_; refine callS (hso) ?_) | (refine gC 24 ?_; refine callS (at_pc _ _) ?_) | (refine gC 18 ?_; refine callS (hcov) ?_) | (refine gC 25 ?_; refine callS (hvo) ?_) | (refine gC 26 ?_; refine callS (hs) ?_) | (refine gC 16 ?_; refine callS (encodes_pc) ?_) | (refine gC 22 ?_; refine callS (intsS_pc vl) ?_) | (refine stk_op (fun K hK => ?_); (first | (refine aop_pv (pv_fieldAddrF (by rfl) (by rfl) (by first | decide | (simp; done) | (simp; omega))) ?_) | (refine aop_pv (pv_fieldAddrIF (by rfl) (by rfl) (by first | decide | (simp; done) | (simp; omega))) ?_) | (refine aop_pv (pv_eql (by rfl) (by rfl)) ?_) | (refine aop_pv (pv_eqlB (by rfl) (by rfl)) ?_) | (refine aop_pv (pv_eqlA (by rfl) (by rfl) (by kernel_rfl)) ?_))) | (refine gQ ?_; (first | (refine condT ?_) | (refine condF ?_) | (refine condS (fun hc => ?_) (fun hc => ?_) <;> (try (first | contradiction | (exfalso; omega)))))) | (refine gG ?_; refine guardS (fun hc => ?_) (fun hc => ?_) <;> (try (first | contradiction | (exfalso; omega)))) | (refine gW ?_; refine wopsS ?_) | (refine aw_block ?_) | (refine gX ?_; refine exitS ?_) | (refine gT ?_; refine retS ?_) | (refine gS ?_; refine skipS ?_) | (apply_assumption (exfalso := false) (symm := false))))
        (refine fin_le (Le.refl _) (rv_one (rv1_tmp (by rfl))) (by first | rfl | (simp only [go_sem, Nat.reduceAdd, Nat.reduceMul, reduceIte, Nat.reduceEqDiff, Nat.reduceLeDiff, Int.reduceToNat, Int.reducePow, Int.reduceBEq, Int.reduceBNe, Int.reduceLT, Int.reduceLE, decide_true, decide_false])) ?_)
        rfl
    · have hset' : isSet s t.facts = false := by simpa using hset
      have hso : PCall Try.prog 23 [t.av, ints s] (fun r => r = .bool false) := (stateOkE_pc t s hw).mono fun r hr => by rw [hr, hset']
      have hst : stateF t ls s = ([], (5, -4)) := by unfold stateF; rw [if_neg (by simp [h]), if_pos hset']
      rw [hst] at hs
      
      
      
      (refine enterS Try.func4 Try.ntmps4 ?_)
      (repeat' (first | (refine hK _ ?_; clear hK K) | (refine aw_seq (fun K hK => ?_)) | (refine gR ?_; refine regS ?_) | (refine gE ?_; (first | (refine exN ?_) | (refine exS (fun _ => ?_)))) | (refine gC 14 ?_; refine callS (hg) ?_) | (refine gC 23 ?_; refine callS (hso) ?_) | (refine gC 24 ?_; refine callS (at_pc _ _) ?_) | (refine gC 18 ?_; refine callS (hcov) ?_) | (refine gC 25 ?_; refine callS (hvo) ?_) | (refine gC 26 ?_; refine callS (hs) ?_) | (refine gC 16 ?_; refine callS (encodes_pc) ?_) | (refine gC 22 ?_; refine callS (intsN_pc) ?_) | (refine stk_op (fun K hK => ?_); (first | (refine aop_pv (pv_fieldAddrF (by rfl) (by rfl) (by first | decide | (simp; done) | (simp; omega))) ?_) | (refine aop_pv (pv_fieldAddrIF (by rfl) (by rfl) (by first | decide | (simp; done) | (simp; omega))) ?_) | (refine aop_pv (pv_eql (by rfl) (by rfl)) ?_) | (refine aop_pv (pv_eqlB (by rfl) (by rfl)) ?_) | (refine aop_pv (pv_eqlA (by rfl) (by rfl) (by kernel_rfl)) ?_))) | (refine gQ ?_; (first | (refine condT ?_) | (refine condF ?_) | (refine condS (fun hc => ?_) (fun hc => ?_) <;> (try (first | contradiction | (exfalso; omega)))))) | (refine gG ?_; refine guardS (fun hc => ?_) (fun hc => ?_) <;> (try (first | contradiction | (exfalso; omega)))) | (refine gW ?_; refine wopsS ?_) | (refine aw_block ?_) | (refine gX ?_; refine exitS ?_) | (refine gT ?_; refine retS ?_) | (refine gS ?_; refine skipS ?_) | (apply_assumption (exfalso := false) (symm := false))))
      (refine fin_le (Le.refl _) (rv_one (rv1_tmp (by rfl))) (by first | rfl | (simp only [go_sem, Nat.reduceAdd, Nat.reduceMul, reduceIte, Nat.reduceEqDiff, Nat.reduceLeDiff, Int.reduceToNat, Int.reducePow, Int.reduceBEq, Int.reduceBNe, Int.reduceLT, Int.reduceLE, decide_true, decide_false])) ?_)
      rfl
  · have hc := gf_code h
    have hst : stateF t ls s = ([], groupsFault t ls) := by unfold stateF; rw [if_pos h]
    rw [hst] at hs
    generalize groupsFault t ls = p at *
    (refine enterS Try.func4 Try.ntmps4 ?_)
    (repeat' (first | (refine hK _ ?_; clear hK K) | (refine aw_seq (fun K hK => ?_)) | (refine gR ?_; refine regS ?_) | (refine gE ?_; (first | (refine exN ?_) | (refine exS (fun _ => ?_)))) | (refine gC 14 ?_; refine callS (hg) ?_) | (refine gC 23 ?_; refine callS (hso) ?_) | (refine gC 24 ?_; refine callS (at_pc _ _) ?_) | (refine gC 18 ?_; refine callS (hcov) ?_) | (refine gC 25 ?_; refine callS (hvo) ?_) | (refine gC 26 ?_; refine callS (hs) ?_) | (refine gC 16 ?_; refine callS (encodes_pc) ?_) | (refine gC 22 ?_; refine callS (intsN_pc) ?_) | (refine stk_op (fun K hK => ?_); (first | (refine aop_pv (pv_fieldAddrF (by rfl) (by rfl) (by first | decide | (simp; done) | (simp; omega))) ?_) | (refine aop_pv (pv_fieldAddrIF (by rfl) (by rfl) (by first | decide | (simp; done) | (simp; omega))) ?_) | (refine aop_pv (pv_eql (by rfl) (by rfl)) ?_) | (refine aop_pv (pv_eqlB (by rfl) (by rfl)) ?_) | (refine aop_pv (pv_eqlA (by rfl) (by rfl) (by kernel_rfl)) ?_))) | (refine gQ ?_; (first | (refine condT ?_) | (refine condF ?_) | (refine condS (fun hc => ?_) (fun hc => ?_) <;> (try (first | contradiction | (exfalso; omega)))))) | (refine gG ?_; refine guardS (fun hc => ?_) (fun hc => ?_) <;> (try (first | contradiction | (exfalso; omega)))) | (refine gW ?_; refine wopsS ?_) | (refine aw_block ?_) | (refine gX ?_; refine exitS ?_) | (refine gT ?_; refine retS ?_) | (refine gS ?_; refine skipS ?_) | (apply_assumption (exfalso := false) (symm := false))))
    (refine fin_le (Le.refl _) (rv_one (rv1_tmp (by rfl))) (by first | rfl | (simp only [go_sem, Nat.reduceAdd, Nat.reduceMul, reduceIte, Nat.reduceEqDiff, Nat.reduceLeDiff, Int.reduceToNat, Int.reducePow, Int.reduceBEq, Int.reduceBNe, Int.reduceLT, Int.reduceLE, decide_true, decide_false])) ?_)
    rfl

theorem matchLaw_pc (t : Task) (ls : List (List Int)) : PCall Try.prog 3 [t.av, rows ls] (fun r => r = .bool true) := by
  have hg := groupsFault_pc t ls
  by_cases h : groupsFault t ls = (0, 0)
  · obtain ⟨hw, h24, hl⟩ := gf_ok h
    have hcov := coverOf_pc t ls hw (fun l hm => (hl l hm).1) h24
    have hco := cover_ok t ls h
    have hm := multi_ok t ls h
    have hmo := multiOf_pc t ls hw (fun l hm => (hl l hm).1) h24
    rw [h] at hg
    generalize coverT t.facts.toNat ls = cs at *
    generalize multiF t cs = q at *
    obtain ⟨m, fr, c, d⟩ := q
    
    
    
    
    
    
    
    
    (refine enterS Try.func3 Try.ntmps3 ?_)
    (refine aw_bound (i := 1) rfl (fun hb1 => ?_); (try simp only [List.length_map] at hb1))
    (repeat' (first | (refine hK _ ?_; clear hK K) | (refine aw_seq (fun K hK => ?_)) | (refine gR ?_; refine regS ?_) | (refine gE ?_; (first | (refine exN ?_) | (refine exS (fun _ => ?_)))) | (refine gC 14 ?_; refine callS (hg) ?_) | (refine gC 15 ?_; refine callS (hco) ?_) | (refine gC 16 ?_; refine callS (encodes_pc) ?_) | (refine gC 18 ?_; refine callS (hcov) ?_) | (refine gC 17 ?_; refine callS (listsS_pc cs) ?_) | (refine gC 19 ?_; refine callS (hmo) ?_) | (refine gC 20 ?_; refine callS (hm) ?_) | (refine gC 21 ?_; refine callS (sameS_pc m) ?_) | (refine gC 22 ?_; refine callS (intsS_pc fr) ?_) | (refine stk_op (fun K hK => ?_); (first | (refine aop_pv (pv_neq (by rfl) (by rfl)) ?_) | (refine aop_pv (pv_neqB (by rfl) (by rfl)) ?_) | (refine aop_pv (pv_neqA (by rfl) (by rfl) (by kernel_rfl)) ?_) | (refine aop_pv (pv_fieldAddrF (by rfl) (by rfl) (by first | decide | (simp; done) | (simp; omega))) ?_) | (refine aop_pv (pv_fieldAddrIF (by rfl) (by rfl) (by first | decide | (simp; done) | (simp; omega))) ?_) | (refine aop_pv (pv_eql (by rfl) (by rfl)) ?_) | (refine aop_pv (pv_eqlB (by rfl) (by rfl)) ?_) | (refine aop_pv (pv_eqlA (by rfl) (by rfl) (by kernel_rfl)) ?_))) | (refine gQ ?_; (first | (refine condT ?_) | (refine condF ?_) | (refine condS (fun hc => ?_) (fun hc => ?_) <;> (try (first | contradiction | (exfalso; omega)))))) | (refine gG ?_; refine guardS (fun hc => ?_) (fun hc => ?_) <;> (try (first | contradiction | (exfalso; omega)))) | (refine gW ?_; refine wopsS ?_) | (refine aw_block ?_) | (refine gX ?_; refine exitS ?_) | (refine gT ?_; refine retS ?_) | (refine gS ?_; refine skipS ?_) | (apply_assumption (exfalso := false) (symm := false))))
    (refine fin_le (Le.refl _) (rv_one (rv1_tmp (by rfl))) (by first | rfl | (simp only [go_sem, Nat.reduceAdd, Nat.reduceMul, reduceIte, Nat.reduceEqDiff, Nat.reduceLeDiff, Int.reduceToNat, Int.reducePow, Int.reduceBEq, Int.reduceBNe, Int.reduceLT, Int.reduceLE, decide_true, decide_false])) ?_)
    rfl
  · have hc := gf_code h
    have hco := cover_no t ls h
    have hm := multi_no t ls h
    generalize groupsFault t ls = p at *
    
    
    
    (refine enterS Try.func3 Try.ntmps3 ?_)
    (repeat' (first | (refine hK _ ?_; clear hK K) | (refine aw_seq (fun K hK => ?_)) | (refine gR ?_; refine regS ?_) | (refine gE ?_; (first | (refine exN ?_) | (refine exS (fun _ => ?_)))) | (refine gC 14 ?_; refine callS (hg) ?_) | (refine gC 15 ?_; refine callS (hco) ?_) | (refine gC 16 ?_; refine callS (encodes_pc) ?_) | (refine gC 18 ?_; refine callS (hcov) ?_) | (refine gC 17 ?_; refine callS (listsS_pc cs) ?_) | (refine gC 19 ?_; refine callS (hmo) ?_) | (refine gC 20 ?_; refine callS (hm) ?_) | (refine gC 21 ?_; refine callS (sameN_pc) ?_) | (refine gC 22 ?_; refine callS (intsN_pc) ?_) | (refine stk_op (fun K hK => ?_); (first | (refine aop_pv (pv_neq (by rfl) (by rfl)) ?_) | (refine aop_pv (pv_neqB (by rfl) (by rfl)) ?_) | (refine aop_pv (pv_neqA (by rfl) (by rfl) (by kernel_rfl)) ?_) | (refine aop_pv (pv_fieldAddrF (by rfl) (by rfl) (by first | decide | (simp; done) | (simp; omega))) ?_) | (refine aop_pv (pv_fieldAddrIF (by rfl) (by rfl) (by first | decide | (simp; done) | (simp; omega))) ?_) | (refine aop_pv (pv_eql (by rfl) (by rfl)) ?_) | (refine aop_pv (pv_eqlB (by rfl) (by rfl)) ?_) | (refine aop_pv (pv_eqlA (by rfl) (by rfl) (by kernel_rfl)) ?_))) | (refine gQ ?_; (first | (refine condT ?_) | (refine condF ?_) | (refine condS (fun hc => ?_) (fun hc => ?_) <;> (try (first | contradiction | (exfalso; omega)))))) | (refine gG ?_; refine guardS (fun hc => ?_) (fun hc => ?_) <;> (try (first | contradiction | (exfalso; omega)))) | (refine gW ?_; refine wopsS ?_) | (refine aw_block ?_) | (refine gX ?_; refine exitS ?_) | (refine gT ?_; refine retS ?_) | (refine gS ?_; refine skipS ?_) | (apply_assumption (exfalso := false) (symm := false))))
    (refine fin_le (Le.refl _) (rv_one (rv1_tmp (by rfl))) (by first | rfl | (simp only [go_sem, Nat.reduceAdd, Nat.reduceMul, reduceIte, Nat.reduceEqDiff, Nat.reduceLeDiff, Int.reduceToNat, Int.reducePow, Int.reduceBEq, Int.reduceBNe, Int.reduceLT, Int.reduceLE, decide_true, decide_false])) ?_)
    rfl

end Go.Proofs.Ytfebpcdjajdgkaa
