import Derived.Test.YtokmhfjledbglaaGof



namespace Go.Proofs.Ytokmhfjledbglaa
open Go.Ab
open Go
set_option linter.unusedSimpArgs false
set_option linter.unusedVariables false
set_option maxRecDepth 10000
attribute [local irreducible] PV AOp AOps AW PCall OCall MCall WCall Ab.Fin OFin OFin2 MFin RV RV1 Le AStk AGrd ADr ADx ADo AOpX AAny
set_option maxHeartbeats 4000000
/-! row 39 -/

theorem matchesLaw_pc (t : Task) (g : List Int) : PCall Try.prog 3 [t.av, ints g] (fun r => r = .bool true) := by
  by_cases hf : taskFault t = (0, 0)
  · have hw := taskFault_ok.1 hf
    have h0 := hw.f0
    have htf := taskFault_pc t
    rw [hf] at htf
    
    have his := refIsSet_pc g t.facts ⟨h0, by have := hw.f1; omega⟩
    by_cases hg : isSet g t.facts = true
    · rw [hg] at his
      have hind := ind_ok t g hw hg
      have hgr := group_pc t g hw hg
      generalize groupB t g = gb at hind hgr
      
      
      
      cases gb
      · skip
        by_cases h10 : t.facts ≤ 10
        · by_cases h8 : t.facts ≤ 8
          · have hfind : PCall Try.prog 13 [t.av] (fun r => r = .tup [rows (groupsL (groupB t) t.facts.toNat), fault 0 0]) := (find_ok t hw h10).mono fun r ⟨ls, h1, h2, h3⟩ => by rw [h3, sorted_groups h1 h2]
            have hgof := groupsOf_pc t hw h8
            have hl : PCall Try.prog 14 [rows (groupsL (groupB t) t.facts.toNat), rows (groupsL (groupB t) t.facts.toNat)] (fun r => r = .bool true) := (lists_pc _ _).mono fun r hr => by rw [hr]; simp
            generalize groupsL (groupB t) t.facts.toNat = L at *
            
            
            
            
            (refine enterS Try.func3 Try.ntmps3 ?_)
            (repeat' (first | (refine hK _ ?_; clear hK K) | (refine aw_seq (fun K hK => ?_)) | (refine gR ?_; refine regS ?_) | (refine gC 7 ?_; refine callS (htf) ?_) | (refine gC 8 ?_; refine callS (his) ?_) | (refine gC 9 ?_; refine callS (at_pc _ _) ?_) | (refine gC 10 ?_; refine callS (hind) ?_) | (refine gC 11 ?_; refine callS (groups_pc) ?_) | (refine gC 12 ?_; refine callS (hgr) ?_) | (refine gC 13 ?_; refine callS (hfind) ?_) | (refine gC 15 ?_; refine callS (hgof) ?_) | (refine gC 14 ?_; refine callS (hl) ?_) | (refine stk_op (fun K hK => ?_); (first | (refine aop_pv (pv_fieldAddrF (by rfl) (by rfl) (by first | decide | (simp; done) | (simp; omega))) ?_) | (refine aop_pv (pv_fieldAddrIF (by rfl) (by rfl) (by first | decide | (simp; done) | (simp; omega))) ?_) | (refine aop_pv (pv_eql (by rfl) (by rfl)) ?_) | (refine aop_pv (pv_eqlB (by rfl) (by rfl)) ?_) | (refine aop_pv (pv_eqlA (by rfl) (by rfl) (by kernel_rfl)) ?_) | (refine aop_pv (pv_neq (by rfl) (by rfl)) ?_) | (refine aop_pv (pv_neqB (by rfl) (by rfl)) ?_) | (refine aop_pv (pv_neqA (by rfl) (by rfl) (by kernel_rfl)) ?_))) | (refine gE ?_; (first | (refine exN ?_) | (refine exS (fun _ => ?_)))) | (refine gG ?_; refine guardS (fun hc => ?_) (fun hc => ?_) <;> (try (first | contradiction | (exfalso; omega)))) | (refine gQ ?_; (first | (refine condT ?_) | (refine condF ?_) | (refine condS (fun hc => ?_) (fun hc => ?_) <;> (try (first | contradiction | (exfalso; omega)))))) | (refine gW ?_; refine wopsS ?_) | (refine aw_block ?_) | (refine gX ?_; refine exitS ?_) | (refine gT ?_; refine retS ?_) | (refine gS ?_; refine skipS ?_) | (apply_assumption (exfalso := false) (symm := false))))
            all_goals (refine fin_le (Le.refl _) (rv_one (rv1_tmp (by rfl))) (by first | rfl | (simp only [go_sem, Nat.reduceAdd, Nat.reduceMul, reduceIte, Nat.reduceEqDiff, Nat.reduceLeDiff, Int.reduceToNat, Int.reducePow, Int.reduceBEq, Int.reduceBNe, Int.reduceLT, Int.reduceLE, decide_true, decide_false])) ?_)
            all_goals rfl
          · 
            
            (refine enterS Try.func3 Try.ntmps3 ?_)
            (repeat' (first | (refine hK _ ?_; clear hK K) | (refine aw_seq (fun K hK => ?_)) | (refine gR ?_; refine regS ?_) | (refine gC 7 ?_; refine callS (htf) ?_) | (refine gC 8 ?_; refine callS (his) ?_) | (refine gC 9 ?_; refine callS (at_pc _ _) ?_) | (refine gC 10 ?_; refine callS (hind) ?_) | (refine gC 11 ?_; refine callS (groups_pc) ?_) | (refine gC 12 ?_; refine callS (hgr) ?_) | (refine gC 15 ?_; refine callS (hgof) ?_) | (refine gC 14 ?_; refine callS (hl) ?_) | (refine stk_op (fun K hK => ?_); (first | (refine aop_pv (pv_fieldAddrF (by rfl) (by rfl) (by first | decide | (simp; done) | (simp; omega))) ?_) | (refine aop_pv (pv_fieldAddrIF (by rfl) (by rfl) (by first | decide | (simp; done) | (simp; omega))) ?_) | (refine aop_pv (pv_eql (by rfl) (by rfl)) ?_) | (refine aop_pv (pv_eqlB (by rfl) (by rfl)) ?_) | (refine aop_pv (pv_eqlA (by rfl) (by rfl) (by kernel_rfl)) ?_) | (refine aop_pv (pv_neq (by rfl) (by rfl)) ?_) | (refine aop_pv (pv_neqB (by rfl) (by rfl)) ?_) | (refine aop_pv (pv_neqA (by rfl) (by rfl) (by kernel_rfl)) ?_) | (refine aop_call (find_ok t hw h10) (by rfl) (fun x hx => ?_); obtain ⟨ls, h1, h2, rfl⟩ := hx))) | (refine gE ?_; (first | (refine exN ?_) | (refine exS (fun _ => ?_)))) | (refine gG ?_; refine guardS (fun hc => ?_) (fun hc => ?_) <;> (try (first | contradiction | (exfalso; omega)))) | (refine gQ ?_; (first | (refine condT ?_) | (refine condF ?_) | (refine condS (fun hc => ?_) (fun hc => ?_) <;> (try (first | contradiction | (exfalso; omega)))))) | (refine gW ?_; refine wopsS ?_) | (refine aw_block ?_) | (refine gX ?_; refine exitS ?_) | (refine gT ?_; refine retS ?_) | (refine gS ?_; refine skipS ?_) | (apply_assumption (exfalso := false) (symm := false))))
            all_goals (refine fin_le (Le.refl _) (rv_one (rv1_tmp (by rfl))) (by first | rfl | (simp only [go_sem, Nat.reduceAdd, Nat.reduceMul, reduceIte, Nat.reduceEqDiff, Nat.reduceLeDiff, Int.reduceToNat, Int.reducePow, Int.reduceBEq, Int.reduceBNe, Int.reduceLT, Int.reduceLE, decide_true, decide_false])) ?_)
            all_goals rfl
        · 
          
          (refine enterS Try.func3 Try.ntmps3 ?_)
          (repeat' (first | (refine hK _ ?_; clear hK K) | (refine aw_seq (fun K hK => ?_)) | (refine gR ?_; refine regS ?_) | (refine gC 7 ?_; refine callS (htf) ?_) | (refine gC 8 ?_; refine callS (his) ?_) | (refine gC 9 ?_; refine callS (at_pc _ _) ?_) | (refine gC 10 ?_; refine callS (hind) ?_) | (refine gC 11 ?_; refine callS (groups_pc) ?_) | (refine gC 12 ?_; refine callS (hgr) ?_) | (refine gC 13 ?_; refine callS (find_many t hw (by omega)) ?_) | (refine gC 15 ?_; refine callS (hgof) ?_) | (refine gC 14 ?_; refine callS (hl) ?_) | (refine stk_op (fun K hK => ?_); (first | (refine aop_pv (pv_fieldAddrF (by rfl) (by rfl) (by first | decide | (simp; done) | (simp; omega))) ?_) | (refine aop_pv (pv_fieldAddrIF (by rfl) (by rfl) (by first | decide | (simp; done) | (simp; omega))) ?_) | (refine aop_pv (pv_eql (by rfl) (by rfl)) ?_) | (refine aop_pv (pv_eqlB (by rfl) (by rfl)) ?_) | (refine aop_pv (pv_eqlA (by rfl) (by rfl) (by kernel_rfl)) ?_) | (refine aop_pv (pv_neq (by rfl) (by rfl)) ?_) | (refine aop_pv (pv_neqB (by rfl) (by rfl)) ?_) | (refine aop_pv (pv_neqA (by rfl) (by rfl) (by kernel_rfl)) ?_))) | (refine gE ?_; (first | (refine exN ?_) | (refine exS (fun _ => ?_)))) | (refine gG ?_; refine guardS (fun hc => ?_) (fun hc => ?_) <;> (try (first | contradiction | (exfalso; omega)))) | (refine gQ ?_; (first | (refine condT ?_) | (refine condF ?_) | (refine condS (fun hc => ?_) (fun hc => ?_) <;> (try (first | contradiction | (exfalso; omega)))))) | (refine gW ?_; refine wopsS ?_) | (refine aw_block ?_) | (refine gX ?_; refine exitS ?_) | (refine gT ?_; refine retS ?_) | (refine gS ?_; refine skipS ?_) | (apply_assumption (exfalso := false) (symm := false))))
          all_goals (refine fin_le (Le.refl _) (rv_one (rv1_tmp (by rfl))) (by first | rfl | (simp only [go_sem, Nat.reduceAdd, Nat.reduceMul, reduceIte, Nat.reduceEqDiff, Nat.reduceLeDiff, Int.reduceToNat, Int.reducePow, Int.reduceBEq, Int.reduceBNe, Int.reduceLT, Int.reduceLE, decide_true, decide_false])) ?_)
          all_goals rfl
      · skip
        by_cases h10 : t.facts ≤ 10
        · by_cases h8 : t.facts ≤ 8
          · have hfind : PCall Try.prog 13 [t.av] (fun r => r = .tup [rows (groupsL (groupB t) t.facts.toNat), fault 0 0]) := (find_ok t hw h10).mono fun r ⟨ls, h1, h2, h3⟩ => by rw [h3, sorted_groups h1 h2]
            have hgof := groupsOf_pc t hw h8
            have hl : PCall Try.prog 14 [rows (groupsL (groupB t) t.facts.toNat), rows (groupsL (groupB t) t.facts.toNat)] (fun r => r = .bool true) := (lists_pc _ _).mono fun r hr => by rw [hr]; simp
            generalize groupsL (groupB t) t.facts.toNat = L at *
            
            
            
            
            (refine enterS Try.func3 Try.ntmps3 ?_)
            (repeat' (first | (refine hK _ ?_; clear hK K) | (refine aw_seq (fun K hK => ?_)) | (refine gR ?_; refine regS ?_) | (refine gC 7 ?_; refine callS (htf) ?_) | (refine gC 8 ?_; refine callS (his) ?_) | (refine gC 9 ?_; refine callS (at_pc _ _) ?_) | (refine gC 10 ?_; refine callS (hind) ?_) | (refine gC 11 ?_; refine callS (groups_pc) ?_) | (refine gC 12 ?_; refine callS (hgr) ?_) | (refine gC 13 ?_; refine callS (hfind) ?_) | (refine gC 15 ?_; refine callS (hgof) ?_) | (refine gC 14 ?_; refine callS (hl) ?_) | (refine stk_op (fun K hK => ?_); (first | (refine aop_pv (pv_fieldAddrF (by rfl) (by rfl) (by first | decide | (simp; done) | (simp; omega))) ?_) | (refine aop_pv (pv_fieldAddrIF (by rfl) (by rfl) (by first | decide | (simp; done) | (simp; omega))) ?_) | (refine aop_pv (pv_eql (by rfl) (by rfl)) ?_) | (refine aop_pv (pv_eqlB (by rfl) (by rfl)) ?_) | (refine aop_pv (pv_eqlA (by rfl) (by rfl) (by kernel_rfl)) ?_) | (refine aop_pv (pv_neq (by rfl) (by rfl)) ?_) | (refine aop_pv (pv_neqB (by rfl) (by rfl)) ?_) | (refine aop_pv (pv_neqA (by rfl) (by rfl) (by kernel_rfl)) ?_))) | (refine gE ?_; (first | (refine exN ?_) | (refine exS (fun _ => ?_)))) | (refine gG ?_; refine guardS (fun hc => ?_) (fun hc => ?_) <;> (try (first | contradiction | (exfalso; omega)))) | (refine gQ ?_; (first | (refine condT ?_) | (refine condF ?_) | (refine condS (fun hc => ?_) (fun hc => ?_) <;> (try (first | contradiction | (exfalso; omega)))))) | (refine gW ?_; refine wopsS ?_) | (refine aw_block ?_) | (refine gX ?_; refine exitS ?_) | (refine gT ?_; refine retS ?_) | (refine gS ?_; refine skipS ?_) | (apply_assumption (exfalso := false) (symm := false))))
            all_goals (refine fin_le (Le.refl _) (rv_one (rv1_tmp (by rfl))) (by first | rfl | (simp only [go_sem, Nat.reduceAdd, Nat.reduceMul, reduceIte, Nat.reduceEqDiff, Nat.reduceLeDiff, Int.reduceToNat, Int.reducePow, Int.reduceBEq, Int.reduceBNe, Int.reduceLT, Int.reduceLE, decide_true, decide_false])) ?_)
            all_goals rfl
          · 
            
            (refine enterS Try.func3 Try.ntmps3 ?_)
            (repeat' (first | (refine hK _ ?_; clear hK K) | (refine aw_seq (fun K hK => ?_)) | (refine gR ?_; refine regS ?_) | (refine gC 7 ?_; refine callS (htf) ?_) | (refine gC 8 ?_; refine callS (his) ?_) | (refine gC 9 ?_; refine callS (at_pc _ _) ?_) | (refine gC 10 ?_; refine callS (hind) ?_) | (refine gC 11 ?_; refine callS (groups_pc) ?_) | (refine gC 12 ?_; refine callS (hgr) ?_) | (refine gC 15 ?_; refine callS (hgof) ?_) | (refine gC 14 ?_; refine callS (hl) ?_) | (refine stk_op (fun K hK => ?_); (first | (refine aop_pv (pv_fieldAddrF (by rfl) (by rfl) (by first | decide | (simp; done) | (simp; omega))) ?_) | (refine aop_pv (pv_fieldAddrIF (by rfl) (by rfl) (by first | decide | (simp; done) | (simp; omega))) ?_) | (refine aop_pv (pv_eql (by rfl) (by rfl)) ?_) | (refine aop_pv (pv_eqlB (by rfl) (by rfl)) ?_) | (refine aop_pv (pv_eqlA (by rfl) (by rfl) (by kernel_rfl)) ?_) | (refine aop_pv (pv_neq (by rfl) (by rfl)) ?_) | (refine aop_pv (pv_neqB (by rfl) (by rfl)) ?_) | (refine aop_pv (pv_neqA (by rfl) (by rfl) (by kernel_rfl)) ?_) | (refine aop_call (find_ok t hw h10) (by rfl) (fun x hx => ?_); obtain ⟨ls, h1, h2, rfl⟩ := hx))) | (refine gE ?_; (first | (refine exN ?_) | (refine exS (fun _ => ?_)))) | (refine gG ?_; refine guardS (fun hc => ?_) (fun hc => ?_) <;> (try (first | contradiction | (exfalso; omega)))) | (refine gQ ?_; (first | (refine condT ?_) | (refine condF ?_) | (refine condS (fun hc => ?_) (fun hc => ?_) <;> (try (first | contradiction | (exfalso; omega)))))) | (refine gW ?_; refine wopsS ?_) | (refine aw_block ?_) | (refine gX ?_; refine exitS ?_) | (refine gT ?_; refine retS ?_) | (refine gS ?_; refine skipS ?_) | (apply_assumption (exfalso := false) (symm := false))))
            all_goals (refine fin_le (Le.refl _) (rv_one (rv1_tmp (by rfl))) (by first | rfl | (simp only [go_sem, Nat.reduceAdd, Nat.reduceMul, reduceIte, Nat.reduceEqDiff, Nat.reduceLeDiff, Int.reduceToNat, Int.reducePow, Int.reduceBEq, Int.reduceBNe, Int.reduceLT, Int.reduceLE, decide_true, decide_false])) ?_)
            all_goals rfl
        · 
          
          (refine enterS Try.func3 Try.ntmps3 ?_)
          (repeat' (first | (refine hK _ ?_; clear hK K) | (refine aw_seq (fun K hK => ?_)) | (refine gR ?_; refine regS ?_) | (refine gC 7 ?_; refine callS (htf) ?_) | (refine gC 8 ?_; refine callS (his) ?_) | (refine gC 9 ?_; refine callS (at_pc _ _) ?_) | (refine gC 10 ?_; refine callS (hind) ?_) | (refine gC 11 ?_; refine callS (groups_pc) ?_) | (refine gC 12 ?_; refine callS (hgr) ?_) | (refine gC 13 ?_; refine callS (find_many t hw (by omega)) ?_) | (refine gC 15 ?_; refine callS (hgof) ?_) | (refine gC 14 ?_; refine callS (hl) ?_) | (refine stk_op (fun K hK => ?_); (first | (refine aop_pv (pv_fieldAddrF (by rfl) (by rfl) (by first | decide | (simp; done) | (simp; omega))) ?_) | (refine aop_pv (pv_fieldAddrIF (by rfl) (by rfl) (by first | decide | (simp; done) | (simp; omega))) ?_) | (refine aop_pv (pv_eql (by rfl) (by rfl)) ?_) | (refine aop_pv (pv_eqlB (by rfl) (by rfl)) ?_) | (refine aop_pv (pv_eqlA (by rfl) (by rfl) (by kernel_rfl)) ?_) | (refine aop_pv (pv_neq (by rfl) (by rfl)) ?_) | (refine aop_pv (pv_neqB (by rfl) (by rfl)) ?_) | (refine aop_pv (pv_neqA (by rfl) (by rfl) (by kernel_rfl)) ?_))) | (refine gE ?_; (first | (refine exN ?_) | (refine exS (fun _ => ?_)))) | (refine gG ?_; refine guardS (fun hc => ?_) (fun hc => ?_) <;> (try (first | contradiction | (exfalso; omega)))) | (refine gQ ?_; (first | (refine condT ?_) | (refine condF ?_) | (refine condS (fun hc => ?_) (fun hc => ?_) <;> (try (first | contradiction | (exfalso; omega)))))) | (refine gW ?_; refine wopsS ?_) | (refine aw_block ?_) | (refine gX ?_; refine exitS ?_) | (refine gT ?_; refine retS ?_) | (refine gS ?_; refine skipS ?_) | (apply_assumption (exfalso := false) (symm := false))))
          all_goals (refine fin_le (Le.refl _) (rv_one (rv1_tmp (by rfl))) (by first | rfl | (simp only [go_sem, Nat.reduceAdd, Nat.reduceMul, reduceIte, Nat.reduceEqDiff, Nat.reduceLeDiff, Int.reduceToNat, Int.reducePow, Int.reduceBEq, Int.reduceBNe, Int.reduceLT, Int.reduceLE, decide_true, decide_false])) ?_)
          all_goals rfl
    · have hgf : isSet g t.facts = false := by simpa using hg
      rw [hgf] at his
      have hif : indF t g = (5, -8) := by unfold indF; rw [if_neg (by simp [hf]), if_neg (by simp [hgf])]
      have hind := ind_no t g (by rw [hif]; simp)
      rw [hif] at hind
      
      
      
      by_cases h10 : t.facts ≤ 10
      · by_cases h8 : t.facts ≤ 8
        · have hfind : PCall Try.prog 13 [t.av] (fun r => r = .tup [rows (groupsL (groupB t) t.facts.toNat), fault 0 0]) := (find_ok t hw h10).mono fun r ⟨ls, h1, h2, h3⟩ => by rw [h3, sorted_groups h1 h2]
          have hgof := groupsOf_pc t hw h8
          have hl : PCall Try.prog 14 [rows (groupsL (groupB t) t.facts.toNat), rows (groupsL (groupB t) t.facts.toNat)] (fun r => r = .bool true) := (lists_pc _ _).mono fun r hr => by rw [hr]; simp
          generalize groupsL (groupB t) t.facts.toNat = L at *
          
          
          
          
          (refine enterS Try.func3 Try.ntmps3 ?_)
          (repeat' (first | (refine hK _ ?_; clear hK K) | (refine aw_seq (fun K hK => ?_)) | (refine gR ?_; refine regS ?_) | (refine gC 7 ?_; refine callS (htf) ?_) | (refine gC 8 ?_; refine callS (his) ?_) | (refine gC 9 ?_; refine callS (at_pc _ _) ?_) | (refine gC 10 ?_; refine callS (hind) ?_) | (refine gC 11 ?_; refine callS (groups_pc) ?_) | (refine gC 12 ?_; refine callS (hgr) ?_) | (refine gC 13 ?_; refine callS (hfind) ?_) | (refine gC 15 ?_; refine callS (hgof) ?_) | (refine gC 14 ?_; refine callS (hl) ?_) | (refine stk_op (fun K hK => ?_); (first | (refine aop_pv (pv_fieldAddrF (by rfl) (by rfl) (by first | decide | (simp; done) | (simp; omega))) ?_) | (refine aop_pv (pv_fieldAddrIF (by rfl) (by rfl) (by first | decide | (simp; done) | (simp; omega))) ?_) | (refine aop_pv (pv_eql (by rfl) (by rfl)) ?_) | (refine aop_pv (pv_eqlB (by rfl) (by rfl)) ?_) | (refine aop_pv (pv_eqlA (by rfl) (by rfl) (by kernel_rfl)) ?_) | (refine aop_pv (pv_neq (by rfl) (by rfl)) ?_) | (refine aop_pv (pv_neqB (by rfl) (by rfl)) ?_) | (refine aop_pv (pv_neqA (by rfl) (by rfl) (by kernel_rfl)) ?_))) | (refine gE ?_; (first | (refine exN ?_) | (refine exS (fun _ => ?_)))) | (refine gG ?_; refine guardS (fun hc => ?_) (fun hc => ?_) <;> (try (first | contradiction | (exfalso; omega)))) | (refine gQ ?_; (first | (refine condT ?_) | (refine condF ?_) | (refine condS (fun hc => ?_) (fun hc => ?_) <;> (try (first | contradiction | (exfalso; omega)))))) | (refine gW ?_; refine wopsS ?_) | (refine aw_block ?_) | (refine gX ?_; refine exitS ?_) | (refine gT ?_; refine retS ?_) | (refine gS ?_; refine skipS ?_) | (apply_assumption (exfalso := false) (symm := false))))
          all_goals (refine fin_le (Le.refl _) (rv_one (rv1_tmp (by rfl))) (by first | rfl | (simp only [go_sem, Nat.reduceAdd, Nat.reduceMul, reduceIte, Nat.reduceEqDiff, Nat.reduceLeDiff, Int.reduceToNat, Int.reducePow, Int.reduceBEq, Int.reduceBNe, Int.reduceLT, Int.reduceLE, decide_true, decide_false])) ?_)
          all_goals rfl
        · 
          
          (refine enterS Try.func3 Try.ntmps3 ?_)
          (repeat' (first | (refine hK _ ?_; clear hK K) | (refine aw_seq (fun K hK => ?_)) | (refine gR ?_; refine regS ?_) | (refine gC 7 ?_; refine callS (htf) ?_) | (refine gC 8 ?_; refine callS (his) ?_) | (refine gC 9 ?_; refine callS (at_pc _ _) ?_) | (refine gC 10 ?_; refine callS (hind) ?_) | (refine gC 11 ?_; refine callS (groups_pc) ?_) | (refine gC 12 ?_; refine callS (hgr) ?_) | (refine gC 15 ?_; refine callS (hgof) ?_) | (refine gC 14 ?_; refine callS (hl) ?_) | (refine stk_op (fun K hK => ?_); (first | (refine aop_pv (pv_fieldAddrF (by rfl) (by rfl) (by first | decide | (simp; done) | (simp; omega))) ?_) | (refine aop_pv (pv_fieldAddrIF (by rfl) (by rfl) (by first | decide | (simp; done) | (simp; omega))) ?_) | (refine aop_pv (pv_eql (by rfl) (by rfl)) ?_) | (refine aop_pv (pv_eqlB (by rfl) (by rfl)) ?_) | (refine aop_pv (pv_eqlA (by rfl) (by rfl) (by kernel_rfl)) ?_) | (refine aop_pv (pv_neq (by rfl) (by rfl)) ?_) | (refine aop_pv (pv_neqB (by rfl) (by rfl)) ?_) | (refine aop_pv (pv_neqA (by rfl) (by rfl) (by kernel_rfl)) ?_) | (refine aop_call (find_ok t hw h10) (by rfl) (fun x hx => ?_); obtain ⟨ls, h1, h2, rfl⟩ := hx))) | (refine gE ?_; (first | (refine exN ?_) | (refine exS (fun _ => ?_)))) | (refine gG ?_; refine guardS (fun hc => ?_) (fun hc => ?_) <;> (try (first | contradiction | (exfalso; omega)))) | (refine gQ ?_; (first | (refine condT ?_) | (refine condF ?_) | (refine condS (fun hc => ?_) (fun hc => ?_) <;> (try (first | contradiction | (exfalso; omega)))))) | (refine gW ?_; refine wopsS ?_) | (refine aw_block ?_) | (refine gX ?_; refine exitS ?_) | (refine gT ?_; refine retS ?_) | (refine gS ?_; refine skipS ?_) | (apply_assumption (exfalso := false) (symm := false))))
          all_goals (refine fin_le (Le.refl _) (rv_one (rv1_tmp (by rfl))) (by first | rfl | (simp only [go_sem, Nat.reduceAdd, Nat.reduceMul, reduceIte, Nat.reduceEqDiff, Nat.reduceLeDiff, Int.reduceToNat, Int.reducePow, Int.reduceBEq, Int.reduceBNe, Int.reduceLT, Int.reduceLE, decide_true, decide_false])) ?_)
          all_goals rfl
      · 
        
        (refine enterS Try.func3 Try.ntmps3 ?_)
        (repeat' (first | (refine hK _ ?_; clear hK K) | (refine aw_seq (fun K hK => ?_)) | (refine gR ?_; refine regS ?_) | (refine gC 7 ?_; refine callS (htf) ?_) | (refine gC 8 ?_; refine callS (his) ?_) | (refine gC 9 ?_; refine callS (at_pc _ _) ?_) | (refine gC 10 ?_; refine callS (hind) ?_) | (refine gC 11 ?_; refine callS (groups_pc) ?_) | (refine gC 12 ?_; refine callS (hgr) ?_) | (refine gC 13 ?_; refine callS (find_many t hw (by omega)) ?_) | (refine gC 15 ?_; refine callS (hgof) ?_) | (refine gC 14 ?_; refine callS (hl) ?_) | (refine stk_op (fun K hK => ?_); (first | (refine aop_pv (pv_fieldAddrF (by rfl) (by rfl) (by first | decide | (simp; done) | (simp; omega))) ?_) | (refine aop_pv (pv_fieldAddrIF (by rfl) (by rfl) (by first | decide | (simp; done) | (simp; omega))) ?_) | (refine aop_pv (pv_eql (by rfl) (by rfl)) ?_) | (refine aop_pv (pv_eqlB (by rfl) (by rfl)) ?_) | (refine aop_pv (pv_eqlA (by rfl) (by rfl) (by kernel_rfl)) ?_) | (refine aop_pv (pv_neq (by rfl) (by rfl)) ?_) | (refine aop_pv (pv_neqB (by rfl) (by rfl)) ?_) | (refine aop_pv (pv_neqA (by rfl) (by rfl) (by kernel_rfl)) ?_))) | (refine gE ?_; (first | (refine exN ?_) | (refine exS (fun _ => ?_)))) | (refine gG ?_; refine guardS (fun hc => ?_) (fun hc => ?_) <;> (try (first | contradiction | (exfalso; omega)))) | (refine gQ ?_; (first | (refine condT ?_) | (refine condF ?_) | (refine condS (fun hc => ?_) (fun hc => ?_) <;> (try (first | contradiction | (exfalso; omega)))))) | (refine gW ?_; refine wopsS ?_) | (refine aw_block ?_) | (refine gX ?_; refine exitS ?_) | (refine gT ?_; refine retS ?_) | (refine gS ?_; refine skipS ?_) | (apply_assumption (exfalso := false) (symm := false))))
        all_goals (refine fin_le (Le.refl _) (rv_one (rv1_tmp (by rfl))) (by first | rfl | (simp only [go_sem, Nat.reduceAdd, Nat.reduceMul, reduceIte, Nat.reduceEqDiff, Nat.reduceLeDiff, Int.reduceToNat, Int.reducePow, Int.reduceBEq, Int.reduceBNe, Int.reduceLT, Int.reduceLE, decide_true, decide_false])) ?_)
        all_goals rfl
  · have htf := taskFault_pc t
    have hc := tf_code hf
    have hfind := find_no t hf
    have hif : indF t g = taskFault t := by unfold indF; rw [if_pos hf]
    have hind := ind_no t g (by rw [hif]; exact hf)
    rw [hif] at hind
    generalize taskFault t = p at *
    
    
    
    
    (refine enterS Try.func3 Try.ntmps3 ?_)
    (repeat' (first | (refine hK _ ?_; clear hK K) | (refine aw_seq (fun K hK => ?_)) | (refine gR ?_; refine regS ?_) | (refine gC 7 ?_; refine callS (htf) ?_) | (refine gC 8 ?_; refine callS (his) ?_) | (refine gC 9 ?_; refine callS (at_pc _ _) ?_) | (refine gC 10 ?_; refine callS (hind) ?_) | (refine gC 11 ?_; refine callS (groups_pc) ?_) | (refine gC 12 ?_; refine callS (hgr) ?_) | (refine gC 13 ?_; refine callS (hfind) ?_) | (refine gC 15 ?_; refine callS (hgof) ?_) | (refine gC 14 ?_; refine callS (hl) ?_) | (refine stk_op (fun K hK => ?_); (first | (refine aop_pv (pv_fieldAddrF (by rfl) (by rfl) (by first | decide | (simp; done) | (simp; omega))) ?_) | (refine aop_pv (pv_fieldAddrIF (by rfl) (by rfl) (by first | decide | (simp; done) | (simp; omega))) ?_) | (refine aop_pv (pv_eql (by rfl) (by rfl)) ?_) | (refine aop_pv (pv_eqlB (by rfl) (by rfl)) ?_) | (refine aop_pv (pv_eqlA (by rfl) (by rfl) (by kernel_rfl)) ?_) | (refine aop_pv (pv_neq (by rfl) (by rfl)) ?_) | (refine aop_pv (pv_neqB (by rfl) (by rfl)) ?_) | (refine aop_pv (pv_neqA (by rfl) (by rfl) (by kernel_rfl)) ?_))) | (refine gE ?_; (first | (refine exN ?_) | (refine exS (fun _ => ?_)))) | (refine gG ?_; refine guardS (fun hc => ?_) (fun hc => ?_) <;> (try (first | contradiction | (exfalso; omega)))) | (refine gQ ?_; (first | (refine condT ?_) | (refine condF ?_) | (refine condS (fun hc => ?_) (fun hc => ?_) <;> (try (first | contradiction | (exfalso; omega)))))) | (refine gW ?_; refine wopsS ?_) | (refine aw_block ?_) | (refine gX ?_; refine exitS ?_) | (refine gT ?_; refine retS ?_) | (refine gS ?_; refine skipS ?_) | (apply_assumption (exfalso := false) (symm := false))))
    all_goals (refine fin_le (Le.refl _) (rv_one (rv1_tmp (by rfl))) (by first | rfl | (simp only [go_sem, Nat.reduceAdd, Nat.reduceMul, reduceIte, Nat.reduceEqDiff, Nat.reduceLeDiff, Int.reduceToNat, Int.reducePow, Int.reduceBEq, Int.reduceBNe, Int.reduceLT, Int.reduceLE, decide_true, decide_false])) ?_)
    all_goals rfl
end Go.Proofs.Ytokmhfjledbglaa
