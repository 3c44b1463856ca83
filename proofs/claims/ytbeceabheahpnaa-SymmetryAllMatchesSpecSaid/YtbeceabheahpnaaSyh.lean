import Derived.Test.YtbeceabheahpnaaSyg


namespace Go.Proofs.Ytbeceabheahpnaa
open Go.Ab
open Go
set_option linter.unusedSimpArgs false
set_option linter.unusedVariables false
set_option maxRecDepth 10000
attribute [local irreducible] PV AOp AOps AW PCall OCall MCall WCall HCall Ab.Fin OFin OFin2 MFin HFin RV RV1 Le AStk AGrd ADr ADx ADo AOpX AAny AOpsI wops wdr wgd wdt
set_option maxHeartbeats 4000000
/-! all symmetries and canonical states are as specified -/

theorem stateOk_pc (t : Task) (s : List Int) (hw : WfT t) : PCall Try.prog 37 [t.av, ints s] (fun r => r = .bool (isSet s t.facts)) := by
  have h0 := hw.f0
  have h1 := hw.f1
  (refine enterS Try.func37 Try.ntmps37 ?_)
  (repeat' (first | (refine hK _ ?_; clear hK K) | (refine aw_seq (fun K hK => ?_)) | (refine gR ?_; refine regS ?_) | (refine gC 29 ?_; refine callS (refIsSet_pc _ _ (by omega)) ?_) | (refine stk_op (fun K hK => ?_); (first | (refine aop_pv (pv_fieldAddrF (by rfl) (by rfl) (by first | decide | (simp; done) | (simp; omega))) ?_) | (refine aop_pv (pv_fieldAddrIF (by rfl) (by rfl) (by first | decide | (simp; done) | (simp; omega))) ?_))) | (refine gE ?_; (first | (refine exN ?_) | (refine exS (fun _ => ?_)))) | (refine gQ ?_; (first | (refine condT ?_) | (refine condF ?_) | (refine condS (fun hc => ?_) (fun hc => ?_) <;> (try (first | contradiction | (exfalso; omega)))))) | (refine gW ?_; refine wopsS ?_) | (refine aw_block ?_) | (refine gX ?_; refine exitS ?_) | (refine gT ?_; refine retS ?_) | (refine gS ?_; refine skipS ?_) | (apply_assumption (exfalso := false) (symm := false))))
  (refine fin_le (Le.refl _) (rv_one (rv1_tmp (by rfl))) (by first | rfl | (simp only [go_sem, Nat.reduceAdd, Nat.reduceMul, reduceIte, Nat.reduceEqDiff, Nat.reduceLeDiff, Int.reduceToNat, Int.reducePow, Int.reduceBEq, Int.reduceBNe, Int.reduceLT, Int.reduceLE, decide_true, decide_false])) ?_)
  rfl
theorem refState_pc (t : Task) (s : List Int) : PCall Try.prog 15 [t.av, ints s] (fun r => r = faultP (stFault t s)) := by
  by_cases hf : taskFault t = (0, 0)
  · have htf := tf_s hf
    have hso := stateOk_pc t s (taskFault_ok.1 hf)
    
    cases hs : isSet s t.facts with
    | true =>
      rw [show stFault t s = (0, 0) by unfold stFault; rw [if_neg (by simp [hf]), if_pos hs]]
      rw [hs] at hso
      
      (refine enterS Try.func15 Try.ntmps15 ?_)
      (repeat' (first | (refine hK _ ?_; clear hK K) | (refine aw_seq (fun K hK => ?_)) | (refine gR ?_; refine regS ?_) | (refine gC 8 ?_; refine callS (htf) ?_) | (refine gC 37 ?_; refine callS (hso) ?_) | (refine gC 10 ?_; refine callS (at_pc _ _) ?_) | (refine stk_op (fun K hK => ?_); (first | (refine aop_pv (pv_fieldAddrF (by rfl) (by rfl) (by first | decide | (simp; done) | (simp; omega))) ?_) | (refine aop_pv (pv_fieldAddrIF (by rfl) (by rfl) (by first | decide | (simp; done) | (simp; omega))) ?_) | (refine aop_pv (pv_eql (by rfl) (by rfl)) ?_) | (refine aop_pv (pv_eqlB (by rfl) (by rfl)) ?_) | (refine aop_pv (pv_eqlA (by rfl) (by rfl) (by kernel_rfl)) ?_))) | (refine gE ?_; (first | (refine exN ?_) | (refine exS (fun _ => ?_)))) | (refine gG ?_; refine guardS (fun hc => ?_) (fun hc => ?_) <;> (try (first | contradiction | (exfalso; omega)))) | (refine gQ ?_; (first | (refine condT ?_) | (refine condF ?_) | (refine condS (fun hc => ?_) (fun hc => ?_) <;> (try (first | contradiction | (exfalso; omega)))))) | (refine gW ?_; refine wopsS ?_) | (refine aw_block ?_) | (refine gX ?_; refine exitS ?_) | (refine gT ?_; refine retS ?_) | (refine gS ?_; refine skipS ?_) | (apply_assumption (exfalso := false) (symm := false))))
      (refine fin_le (Le.refl _) (rv_one (rv1_cell (by first | exact pv_load (by rfl) (by rfl) (by rfl) (by rfl) | exact pv_loadA (by rfl) (by rfl) (by rfl) (by first | decide | simp)))) (by first | rfl | (simp only [go_sem, Nat.reduceAdd, Nat.reduceMul, reduceIte, Nat.reduceEqDiff, Nat.reduceLeDiff, Int.reduceToNat, Int.reducePow, Int.reduceBEq, Int.reduceBNe, Int.reduceLT, Int.reduceLE, decide_true, decide_false])) ?_)
      rfl
    | false =>
      rw [show stFault t s = (5, -4) by unfold stFault; rw [if_neg (by simp [hf]), if_neg (by simp [hs])]]
      rw [hs] at hso
      
      (refine enterS Try.func15 Try.ntmps15 ?_)
      (repeat' (first | (refine hK _ ?_; clear hK K) | (refine aw_seq (fun K hK => ?_)) | (refine gR ?_; refine regS ?_) | (refine gC 8 ?_; refine callS (htf) ?_) | (refine gC 37 ?_; refine callS (hso) ?_) | (refine gC 10 ?_; refine callS (at_pc _ _) ?_) | (refine stk_op (fun K hK => ?_); (first | (refine aop_pv (pv_fieldAddrF (by rfl) (by rfl) (by first | decide | (simp; done) | (simp; omega))) ?_) | (refine aop_pv (pv_fieldAddrIF (by rfl) (by rfl) (by first | decide | (simp; done) | (simp; omega))) ?_) | (refine aop_pv (pv_eql (by rfl) (by rfl)) ?_) | (refine aop_pv (pv_eqlB (by rfl) (by rfl)) ?_) | (refine aop_pv (pv_eqlA (by rfl) (by rfl) (by kernel_rfl)) ?_))) | (refine gE ?_; (first | (refine exN ?_) | (refine exS (fun _ => ?_)))) | (refine gG ?_; refine guardS (fun hc => ?_) (fun hc => ?_) <;> (try (first | contradiction | (exfalso; omega)))) | (refine gQ ?_; (first | (refine condT ?_) | (refine condF ?_) | (refine condS (fun hc => ?_) (fun hc => ?_) <;> (try (first | contradiction | (exfalso; omega)))))) | (refine gW ?_; refine wopsS ?_) | (refine aw_block ?_) | (refine gX ?_; refine exitS ?_) | (refine gT ?_; refine retS ?_) | (refine gS ?_; refine skipS ?_) | (apply_assumption (exfalso := false) (symm := false))))
      (refine fin_le (Le.refl _) (rv_one (rv1_cell (by first | exact pv_load (by rfl) (by rfl) (by rfl) (by rfl) | exact pv_loadA (by rfl) (by rfl) (by rfl) (by first | decide | simp)))) (by first | rfl | (simp only [go_sem, Nat.reduceAdd, Nat.reduceMul, reduceIte, Nat.reduceEqDiff, Nat.reduceLeDiff, Int.reduceToNat, Int.reducePow, Int.reduceBEq, Int.reduceBNe, Int.reduceLT, Int.reduceLE, decide_true, decide_false])) ?_)
      rfl
  · have hc := tf_codeS hf
    have htf := tf_s (t := t) rfl
    rw [show stFault t s = taskFault t by unfold stFault; rw [if_pos hf]]
    generalize taskFault t = p at *
    
    
    (refine enterS Try.func15 Try.ntmps15 ?_)
    (repeat' (first | (refine hK _ ?_; clear hK K) | (refine aw_seq (fun K hK => ?_)) | (refine gR ?_; refine regS ?_) | (refine gC 8 ?_; refine callS (htf) ?_) | (refine gC 10 ?_; refine callS (at_pc _ _) ?_) | (refine stk_op (fun K hK => ?_); (first | (refine aop_pv (pv_fieldAddrF (by rfl) (by rfl) (by first | decide | (simp; done) | (simp; omega))) ?_) | (refine aop_pv (pv_fieldAddrIF (by rfl) (by rfl) (by first | decide | (simp; done) | (simp; omega))) ?_) | (refine aop_pv (pv_eql (by rfl) (by rfl)) ?_) | (refine aop_pv (pv_eqlB (by rfl) (by rfl)) ?_) | (refine aop_pv (pv_eqlA (by rfl) (by rfl) (by kernel_rfl)) ?_))) | (refine gE ?_; (first | (refine exN ?_) | (refine exS (fun _ => ?_)))) | (refine gG ?_; refine guardS (fun hc => ?_) (fun hc => ?_) <;> (try (first | contradiction | (exfalso; omega)))) | (refine gQ ?_; (first | (refine condT ?_) | (refine condF ?_) | (refine condS (fun hc => ?_) (fun hc => ?_) <;> (try (first | contradiction | (exfalso; omega)))))) | (refine gW ?_; refine wopsS ?_) | (refine aw_block ?_) | (refine gX ?_; refine exitS ?_) | (refine gT ?_; refine retS ?_) | (refine gS ?_; refine skipS ?_) | (apply_assumption (exfalso := false) (symm := false))))
    all_goals (refine fin_le (Le.refl _) (rv_one (rv1_cell (by first | exact pv_load (by rfl) (by rfl) (by rfl) (by rfl) | exact pv_loadA (by rfl) (by rfl) (by rfl) (by first | decide | simp)))) (by first | rfl | (simp only [go_sem, Nat.reduceAdd, Nat.reduceMul, reduceIte, Nat.reduceEqDiff, Nat.reduceLeDiff, Int.reduceToNat, Int.reducePow, Int.reduceBEq, Int.reduceBNe, Int.reduceLT, Int.reduceLE, decide_true, decide_false])) ?_)
    all_goals rfl

theorem rst_s {t : Task} {s : List Int} {p : Int × Int} (e : stFault t s = p) : PCall Try.prog 15 [t.av, ints s] (fun r => r = faultP p) := by
  have := refState_pc t s
  rw [e] at this
  exact this
theorem listsS_pc (l : List (List Int)) : PCall Try.prog 19 [rows l, rows l] (fun r => r = .bool true) := (lists_pc l l).mono fun r hr => by rw [hr, decide_eq_true rfl]
theorem st_cases {t : Task} {s : List Int} (hf : taskFault t = (0, 0)) : stFault t s = (0, 0) ∨ stFault t s = (5, -4) := by
  unfold stFault
  rw [if_neg (by simp [hf])]
  split
  · exact .inl rfl
  · exact .inr rfl

theorem allLaw_pc (t : Task) (s : List Int) : PCall Try.prog 4 [t.av, ints s] (fun r => r = .bool true) := by
  by_cases hf : taskFault t = (0, 0)
  · have hw := taskFault_ok.1 hf
    have htf := tf_s hf
    
    by_cases h6 : t.facts ≤ 6
    · have ha := all_ok t hf h6
      have hsy := symms_pc t hw h6
      have hL : ∀ p ∈ symL t, PermP t.facts.toNat p := fun p hp => (symL_mem.1 hp).perm
      have hlen := symL_len h6
      rcases st_cases (s := s) hf with hst | hst
      · have hrs := rst_s hst
        have hcn := can_ok t s hst h6
        have hs := (stFault_ok.1 hst).2
        have hfn : canonF t s = canK s ((symL t).take (symL t).length) s := by rw [List.take_length]; rfl
        rw [hfn] at hcn
        have hnat := wf_nat hw
        have hls := listsS_pc (symL t)
        generalize symL t = L at *
        
        
        
        
        
        (refine enterS Try.func4 Try.ntmps4 ?_)
        (repeat' (first | (refine hK _ ?_; clear hK K) | (refine aw_seq (fun K hK => ?_)) | (refine gR ?_; refine regS ?_) | (refine gC 8 ?_; refine callS (htf) ?_) | (refine gC 15 ?_; refine callS (hrs) ?_) | (refine gC 10 ?_; refine callS (at_pc _ _) ?_) | (refine gC 16 ?_; refine callS (ha) ?_) | (refine gC 17 ?_; refine callS (hcn) ?_) | (refine gC 13 ?_; refine callS (mirrors_pc) ?_) | (refine gC 18 ?_; refine callS (hsy) ?_) | (refine gC 19 ?_; refine callS (hls) ?_) | (refine stk_op (fun K hK => ?_); (first | (refine aop_pv (pv_fieldAddrF (by rfl) (by rfl) (by first | decide | (simp; done) | (simp; omega))) ?_) | (refine aop_pv (pv_fieldAddrIF (by rfl) (by rfl) (by first | decide | (simp; done) | (simp; omega))) ?_) | (refine aop_pv (pv_eql (by rfl) (by rfl)) ?_) | (refine aop_pv (pv_eqlB (by rfl) (by rfl)) ?_) | (refine aop_pv (pv_eqlA (by rfl) (by rfl) (by kernel_rfl)) ?_) | (refine aop_pv (pv_neq (by rfl) (by rfl)) ?_) | (refine aop_pv (pv_neqB (by rfl) (by rfl)) ?_) | (refine aop_pv (pv_neqA (by rfl) (by rfl) (by kernel_rfl)) ?_))) | (refine gE ?_; (first | (refine exN ?_) | (refine exS (fun _ => ?_)))) | (refine gG ?_; refine guardS (fun hc => ?_) (fun hc => ?_) <;> (try (first | contradiction | (exfalso; omega)))) | (refine gQ ?_; (first | (refine condT ?_) | (refine condF ?_) | (refine condS (fun hc => ?_) (fun hc => ?_) <;> (try (first | contradiction | (exfalso; omega)))))) | (refine gW ?_; refine wopsS ?_) | (refine aw_block ?_) | (refine gX ?_; refine exitS ?_) | (refine gT ?_; refine retS ?_) | (refine gS ?_; refine skipS ?_) | (apply_assumption (exfalso := false) (symm := false))))
        refine aw_loop_at [12, 13, 14, 85, 86, 87, 88, 89, 90, 91, 92, 93, 94, 95, 96, 97, 98, 99, 100] (fun k : Nat => k ≤ L.length) (fun k => L.length - k) (fun k => [(13, .int k), (12, ints (canK s (L.take k) s))]) (fun _ => [(2, ⟨25, t.cs, true⟩)]) 0 (by omega) ?_ ?_
        · rw [show canK s (L.take 0) s = s from rfl]
          (refine atS ?_)
          (exact weakS)
        · rintro k hk K hK
          (refine atS ?_)
          by_cases hlt : k < L.length
          · have hpk := hL _ (List.getElem_mem hlt)
            have hpl := hpk.len
            have him := imgR_pc L[k] s (by have := hw.f1; omega)
            rw [hpk.len, imgR_eq hpk (by rw [hnat]; exact hs)] at him
            have hco := lessL_pc (imgF L[k] s) (canK s (L.take k) s)
            have hstp := canK_take (s := s) (b := s) hlt
            unfold canS at hstp
            generalize hca : canK s (L.take k) s = c at *
            generalize imgF L[k] s = x at *
            generalize lessB x c = b at *
            
            
            cases b with
            | true =>
              rw [if_pos rfl] at hstp
              (repeat' (first | (refine hK _ ?_; clear hK K) | (refine aw_seq (fun K hK => ?_)) | (refine gR ?_; refine regS ?_) | (refine gC 8 ?_; refine callS (htf) ?_) | (refine gC 15 ?_; refine callS (hrs) ?_) | (refine gC 10 ?_; refine callS (at_pc _ _) ?_) | (refine gC 16 ?_; refine callS (ha) ?_) | (refine gC 17 ?_; refine callS (hcn) ?_) | (refine gC 13 ?_; refine callS (mirrors_pc) ?_) | (refine gC 18 ?_; refine callS (hsy) ?_) | (refine gC 19 ?_; refine callS (hls) ?_) | (refine gC 20 ?_; refine callS (him) ?_) | (refine gC 21 ?_; refine callS (hco) ?_) | (refine stk_op (fun K hK => ?_); (first | (refine aop_pv (pv_fieldAddrF (by rfl) (by rfl) (by first | decide | (simp; done) | (simp; omega))) ?_) | (refine aop_pv (pv_fieldAddrIF (by rfl) (by rfl) (by first | decide | (simp; done) | (simp; omega))) ?_) | (refine aop_pv (pv_eql (by rfl) (by rfl)) ?_) | (refine aop_pv (pv_eqlB (by rfl) (by rfl)) ?_) | (refine aop_pv (pv_eqlA (by rfl) (by rfl) (by kernel_rfl)) ?_) | (refine aop_pv (pv_neq (by rfl) (by rfl)) ?_) | (refine aop_pv (pv_neqB (by rfl) (by rfl)) ?_) | (refine aop_pv (pv_neqA (by rfl) (by rfl) (by kernel_rfl)) ?_))) | (refine gE ?_; (first | (refine exN ?_) | (refine exS (fun _ => ?_)))) | (refine gG ?_; refine guardS (fun hc => ?_) (fun hc => ?_) <;> (try (first | contradiction | (exfalso; omega)))) | (refine gQ ?_; (first | (refine condT ?_) | (refine condF ?_) | (refine condS (fun hc => ?_) (fun hc => ?_) <;> (try (first | contradiction | (exfalso; omega)))))) | (refine gW ?_; refine wopsS ?_) | (refine aw_block ?_) | (refine gX ?_; refine exitS ?_) | (refine gT ?_; refine retS ?_) | (refine gS ?_; refine skipS ?_) | (apply_assumption (exfalso := false) (symm := false))))
              refine ⟨k + 1, by omega, by omega, ?_⟩
              rw [hstp]
              (refine atS ?_)
              (exact weakS)
            | false =>
              rw [if_neg (by simp)] at hstp
              (repeat' (first | (refine hK _ ?_; clear hK K) | (refine aw_seq (fun K hK => ?_)) | (refine gR ?_; refine regS ?_) | (refine gC 8 ?_; refine callS (htf) ?_) | (refine gC 15 ?_; refine callS (hrs) ?_) | (refine gC 10 ?_; refine callS (at_pc _ _) ?_) | (refine gC 16 ?_; refine callS (ha) ?_) | (refine gC 17 ?_; refine callS (hcn) ?_) | (refine gC 13 ?_; refine callS (mirrors_pc) ?_) | (refine gC 18 ?_; refine callS (hsy) ?_) | (refine gC 19 ?_; refine callS (hls) ?_) | (refine gC 20 ?_; refine callS (him) ?_) | (refine gC 21 ?_; refine callS (hco) ?_) | (refine stk_op (fun K hK => ?_); (first | (refine aop_pv (pv_fieldAddrF (by rfl) (by rfl) (by first | decide | (simp; done) | (simp; omega))) ?_) | (refine aop_pv (pv_fieldAddrIF (by rfl) (by rfl) (by first | decide | (simp; done) | (simp; omega))) ?_) | (refine aop_pv (pv_eql (by rfl) (by rfl)) ?_) | (refine aop_pv (pv_eqlB (by rfl) (by rfl)) ?_) | (refine aop_pv (pv_eqlA (by rfl) (by rfl) (by kernel_rfl)) ?_) | (refine aop_pv (pv_neq (by rfl) (by rfl)) ?_) | (refine aop_pv (pv_neqB (by rfl) (by rfl)) ?_) | (refine aop_pv (pv_neqA (by rfl) (by rfl) (by kernel_rfl)) ?_))) | (refine gE ?_; (first | (refine exN ?_) | (refine exS (fun _ => ?_)))) | (refine gG ?_; refine guardS (fun hc => ?_) (fun hc => ?_) <;> (try (first | contradiction | (exfalso; omega)))) | (refine gQ ?_; (first | (refine condT ?_) | (refine condF ?_) | (refine condS (fun hc => ?_) (fun hc => ?_) <;> (try (first | contradiction | (exfalso; omega)))))) | (refine gW ?_; refine wopsS ?_) | (refine aw_block ?_) | (refine gX ?_; refine exitS ?_) | (refine gT ?_; refine retS ?_) | (refine gS ?_; refine skipS ?_) | (apply_assumption (exfalso := false) (symm := false))))
              refine ⟨k + 1, by omega, by omega, ?_⟩
              rw [hstp]
              (refine atS ?_)
              (exact weakS)
          · obtain rfl : k = L.length := by omega
            have hii := intsS_pc (canK s (L.take L.length) s)
            generalize canK s (L.take L.length) s = c at *
            
            (repeat' (first | (refine hK _ ?_; clear hK K) | (refine aw_seq (fun K hK => ?_)) | (refine gR ?_; refine regS ?_) | (refine gC 8 ?_; refine callS (htf) ?_) | (refine gC 15 ?_; refine callS (hrs) ?_) | (refine gC 10 ?_; refine callS (at_pc _ _) ?_) | (refine gC 16 ?_; refine callS (ha) ?_) | (refine gC 17 ?_; refine callS (hcn) ?_) | (refine gC 13 ?_; refine callS (mirrors_pc) ?_) | (refine gC 18 ?_; refine callS (hsy) ?_) | (refine gC 19 ?_; refine callS (hls) ?_) | (refine gC 20 ?_; refine callS (him) ?_) | (refine gC 21 ?_; refine callS (hco) ?_) | (refine gC 14 ?_; refine callS (hii) ?_) | (refine stk_op (fun K hK => ?_); (first | (refine aop_pv (pv_fieldAddrF (by rfl) (by rfl) (by first | decide | (simp; done) | (simp; omega))) ?_) | (refine aop_pv (pv_fieldAddrIF (by rfl) (by rfl) (by first | decide | (simp; done) | (simp; omega))) ?_) | (refine aop_pv (pv_eql (by rfl) (by rfl)) ?_) | (refine aop_pv (pv_eqlB (by rfl) (by rfl)) ?_) | (refine aop_pv (pv_eqlA (by rfl) (by rfl) (by kernel_rfl)) ?_) | (refine aop_pv (pv_neq (by rfl) (by rfl)) ?_) | (refine aop_pv (pv_neqB (by rfl) (by rfl)) ?_) | (refine aop_pv (pv_neqA (by rfl) (by rfl) (by kernel_rfl)) ?_))) | (refine gE ?_; (first | (refine exN ?_) | (refine exS (fun _ => ?_)))) | (refine gG ?_; refine guardS (fun hc => ?_) (fun hc => ?_) <;> (try (first | contradiction | (exfalso; omega)))) | (refine gQ ?_; (first | (refine condT ?_) | (refine condF ?_) | (refine condS (fun hc => ?_) (fun hc => ?_) <;> (try (first | contradiction | (exfalso; omega)))))) | (refine gW ?_; refine wopsS ?_) | (refine aw_block ?_) | (refine gX ?_; refine exitS ?_) | (refine gT ?_; refine retS ?_) | (refine gS ?_; refine skipS ?_) | (apply_assumption (exfalso := false) (symm := false))))
            (refine fin_le (Le.refl _) (rv_one (rv1_tmp (by rfl))) (by first | rfl | (simp only [go_sem, Nat.reduceAdd, Nat.reduceMul, reduceIte, Nat.reduceEqDiff, Nat.reduceLeDiff, Int.reduceToNat, Int.reducePow, Int.reduceBEq, Int.reduceBNe, Int.reduceLT, Int.reduceLE, decide_true, decide_false])) ?_)
            rfl
      · have hrs := rst_s hst
        have hcn := can_bad t s _ hst (by decide)
        have hls := listsS_pc (symL t)
        generalize symL t = L at *
        
        
        
        
        
        
        (refine enterS Try.func4 Try.ntmps4 ?_)
        (repeat' (first | (refine hK _ ?_; clear hK K) | (refine aw_seq (fun K hK => ?_)) | (refine gR ?_; refine regS ?_) | (refine gC 8 ?_; refine callS (htf) ?_) | (refine gC 15 ?_; refine callS (hrs) ?_) | (refine gC 10 ?_; refine callS (at_pc _ _) ?_) | (refine gC 16 ?_; refine callS (ha) ?_) | (refine gC 17 ?_; refine callS (hcn) ?_) | (refine gC 13 ?_; refine callS (mirrors_pc) ?_) | (refine gC 18 ?_; refine callS (hsy) ?_) | (refine gC 19 ?_; refine callS (hls) ?_) | (refine gC 20 ?_; refine callS (him) ?_) | (refine gC 21 ?_; refine callS (hco) ?_) | (refine gC 14 ?_; refine callS (hii) ?_) | (refine stk_op (fun K hK => ?_); (first | (refine aop_pv (pv_fieldAddrF (by rfl) (by rfl) (by first | decide | (simp; done) | (simp; omega))) ?_) | (refine aop_pv (pv_fieldAddrIF (by rfl) (by rfl) (by first | decide | (simp; done) | (simp; omega))) ?_) | (refine aop_pv (pv_eql (by rfl) (by rfl)) ?_) | (refine aop_pv (pv_eqlB (by rfl) (by rfl)) ?_) | (refine aop_pv (pv_eqlA (by rfl) (by rfl) (by kernel_rfl)) ?_) | (refine aop_pv (pv_neq (by rfl) (by rfl)) ?_) | (refine aop_pv (pv_neqB (by rfl) (by rfl)) ?_) | (refine aop_pv (pv_neqA (by rfl) (by rfl) (by kernel_rfl)) ?_))) | (refine gE ?_; (first | (refine exN ?_) | (refine exS (fun _ => ?_)))) | (refine gG ?_; refine guardS (fun hc => ?_) (fun hc => ?_) <;> (try (first | contradiction | (exfalso; omega)))) | (refine gQ ?_; (first | (refine condT ?_) | (refine condF ?_) | (refine condS (fun hc => ?_) (fun hc => ?_) <;> (try (first | contradiction | (exfalso; omega)))))) | (refine gW ?_; refine wopsS ?_) | (refine aw_block ?_) | (refine gX ?_; refine exitS ?_) | (refine gT ?_; refine retS ?_) | (refine gS ?_; refine skipS ?_) | (apply_assumption (exfalso := false) (symm := false))))
        (refine fin_le (Le.refl _) (rv_one (rv1_tmp (by rfl))) (by first | rfl | (simp only [go_sem, Nat.reduceAdd, Nat.reduceMul, reduceIte, Nat.reduceEqDiff, Nat.reduceLeDiff, Int.reduceToNat, Int.reducePow, Int.reduceBEq, Int.reduceBNe, Int.reduceLT, Int.reduceLE, decide_true, decide_false])) ?_)
        rfl
    · have ha := all_big t hf h6
      rcases st_cases (s := s) hf with hst | hst
      · have hrs := rst_s hst
        have hcn := can_big t s hst h6
        
        
        
        
        (refine enterS Try.func4 Try.ntmps4 ?_)
        (repeat' (first | (refine hK _ ?_; clear hK K) | (refine aw_seq (fun K hK => ?_)) | (refine gR ?_; refine regS ?_) | (refine gC 8 ?_; refine callS (htf) ?_) | (refine gC 15 ?_; refine callS (hrs) ?_) | (refine gC 10 ?_; refine callS (at_pc _ _) ?_) | (refine gC 16 ?_; refine callS (ha) ?_) | (refine gC 17 ?_; refine callS (hcn) ?_) | (refine gC 13 ?_; refine callS (mirrors_pc) ?_) | (refine gC 20 ?_; refine callS (him) ?_) | (refine gC 21 ?_; refine callS (hco) ?_) | (refine gC 14 ?_; refine callS (hii) ?_) | (refine stk_op (fun K hK => ?_); (first | (refine aop_pv (pv_fieldAddrF (by rfl) (by rfl) (by first | decide | (simp; done) | (simp; omega))) ?_) | (refine aop_pv (pv_fieldAddrIF (by rfl) (by rfl) (by first | decide | (simp; done) | (simp; omega))) ?_) | (refine aop_pv (pv_eql (by rfl) (by rfl)) ?_) | (refine aop_pv (pv_eqlB (by rfl) (by rfl)) ?_) | (refine aop_pv (pv_eqlA (by rfl) (by rfl) (by kernel_rfl)) ?_) | (refine aop_pv (pv_neq (by rfl) (by rfl)) ?_) | (refine aop_pv (pv_neqB (by rfl) (by rfl)) ?_) | (refine aop_pv (pv_neqA (by rfl) (by rfl) (by kernel_rfl)) ?_))) | (refine gE ?_; (first | (refine exN ?_) | (refine exS (fun _ => ?_)))) | (refine gG ?_; refine guardS (fun hc => ?_) (fun hc => ?_) <;> (try (first | contradiction | (exfalso; omega)))) | (refine gQ ?_; (first | (refine condT ?_) | (refine condF ?_) | (refine condS (fun hc => ?_) (fun hc => ?_) <;> (try (first | contradiction | (exfalso; omega)))))) | (refine gW ?_; refine wopsS ?_) | (refine aw_block ?_) | (refine gX ?_; refine exitS ?_) | (refine gT ?_; refine retS ?_) | (refine gS ?_; refine skipS ?_) | (apply_assumption (exfalso := false) (symm := false))))
        (refine fin_le (Le.refl _) (rv_one (rv1_tmp (by rfl))) (by first | rfl | (simp only [go_sem, Nat.reduceAdd, Nat.reduceMul, reduceIte, Nat.reduceEqDiff, Nat.reduceLeDiff, Int.reduceToNat, Int.reducePow, Int.reduceBEq, Int.reduceBNe, Int.reduceLT, Int.reduceLE, decide_true, decide_false])) ?_)
        rfl
      · have hrs := rst_s hst
        have hcn := can_bad t s _ hst (by decide)
        (refine enterS Try.func4 Try.ntmps4 ?_)
        (repeat' (first | (refine hK _ ?_; clear hK K) | (refine aw_seq (fun K hK => ?_)) | (refine gR ?_; refine regS ?_) | (refine gC 8 ?_; refine callS (htf) ?_) | (refine gC 15 ?_; refine callS (hrs) ?_) | (refine gC 10 ?_; refine callS (at_pc _ _) ?_) | (refine gC 16 ?_; refine callS (ha) ?_) | (refine gC 17 ?_; refine callS (hcn) ?_) | (refine gC 13 ?_; refine callS (mirrors_pc) ?_) | (refine gC 20 ?_; refine callS (him) ?_) | (refine gC 21 ?_; refine callS (hco) ?_) | (refine gC 14 ?_; refine callS (hii) ?_) | (refine stk_op (fun K hK => ?_); (first | (refine aop_pv (pv_fieldAddrF (by rfl) (by rfl) (by first | decide | (simp; done) | (simp; omega))) ?_) | (refine aop_pv (pv_fieldAddrIF (by rfl) (by rfl) (by first | decide | (simp; done) | (simp; omega))) ?_) | (refine aop_pv (pv_eql (by rfl) (by rfl)) ?_) | (refine aop_pv (pv_eqlB (by rfl) (by rfl)) ?_) | (refine aop_pv (pv_eqlA (by rfl) (by rfl) (by kernel_rfl)) ?_) | (refine aop_pv (pv_neq (by rfl) (by rfl)) ?_) | (refine aop_pv (pv_neqB (by rfl) (by rfl)) ?_) | (refine aop_pv (pv_neqA (by rfl) (by rfl) (by kernel_rfl)) ?_))) | (refine gE ?_; (first | (refine exN ?_) | (refine exS (fun _ => ?_)))) | (refine gG ?_; refine guardS (fun hc => ?_) (fun hc => ?_) <;> (try (first | contradiction | (exfalso; omega)))) | (refine gQ ?_; (first | (refine condT ?_) | (refine condF ?_) | (refine condS (fun hc => ?_) (fun hc => ?_) <;> (try (first | contradiction | (exfalso; omega)))))) | (refine gW ?_; refine wopsS ?_) | (refine aw_block ?_) | (refine gX ?_; refine exitS ?_) | (refine gT ?_; refine retS ?_) | (refine gS ?_; refine skipS ?_) | (apply_assumption (exfalso := false) (symm := false))))
        (refine fin_le (Le.refl _) (rv_one (rv1_tmp (by rfl))) (by first | rfl | (simp only [go_sem, Nat.reduceAdd, Nat.reduceMul, reduceIte, Nat.reduceEqDiff, Nat.reduceLeDiff, Int.reduceToNat, Int.reducePow, Int.reduceBEq, Int.reduceBNe, Int.reduceLT, Int.reduceLE, decide_true, decide_false])) ?_)
        rfl
  · have hc := tf_codeS hf
    have htf := tf_s (t := t) rfl
    have ha := all_bad t _ rfl hc
    have hst : stFault t s = taskFault t := by unfold stFault; rw [if_pos hf]
    have hrs := rst_s hst
    have hcn := can_bad t s _ hst hc
    generalize taskFault t = p at *
    
    
    
    
    
    (refine enterS Try.func4 Try.ntmps4 ?_)
    (repeat' (first | (refine hK _ ?_; clear hK K) | (refine aw_seq (fun K hK => ?_)) | (refine gR ?_; refine regS ?_) | (refine gC 8 ?_; refine callS (htf) ?_) | (refine gC 15 ?_; refine callS (hrs) ?_) | (refine gC 10 ?_; refine callS (at_pc _ _) ?_) | (refine gC 16 ?_; refine callS (ha) ?_) | (refine gC 17 ?_; refine callS (hcn) ?_) | (refine gC 13 ?_; refine callS (mirrors_pc) ?_) | (refine gC 20 ?_; refine callS (him) ?_) | (refine gC 21 ?_; refine callS (hco) ?_) | (refine gC 14 ?_; refine callS (hii) ?_) | (refine stk_op (fun K hK => ?_); (first | (refine aop_pv (pv_fieldAddrF (by rfl) (by rfl) (by first | decide | (simp; done) | (simp; omega))) ?_) | (refine aop_pv (pv_fieldAddrIF (by rfl) (by rfl) (by first | decide | (simp; done) | (simp; omega))) ?_) | (refine aop_pv (pv_eql (by rfl) (by rfl)) ?_) | (refine aop_pv (pv_eqlB (by rfl) (by rfl)) ?_) | (refine aop_pv (pv_eqlA (by rfl) (by rfl) (by kernel_rfl)) ?_) | (refine aop_pv (pv_neq (by rfl) (by rfl)) ?_) | (refine aop_pv (pv_neqB (by rfl) (by rfl)) ?_) | (refine aop_pv (pv_neqA (by rfl) (by rfl) (by kernel_rfl)) ?_))) | (refine gE ?_; (first | (refine exN ?_) | (refine exS (fun _ => ?_)))) | (refine gG ?_; refine guardS (fun hc => ?_) (fun hc => ?_) <;> (try (first | contradiction | (exfalso; omega)))) | (refine gQ ?_; (first | (refine condT ?_) | (refine condF ?_) | (refine condS (fun hc => ?_) (fun hc => ?_) <;> (try (first | contradiction | (exfalso; omega)))))) | (refine gW ?_; refine wopsS ?_) | (refine aw_block ?_) | (refine gX ?_; refine exitS ?_) | (refine gT ?_; refine retS ?_) | (refine gS ?_; refine skipS ?_) | (apply_assumption (exfalso := false) (symm := false))))
    all_goals (refine fin_le (Le.refl _) (rv_one (rv1_tmp (by rfl))) (by first | rfl | (simp only [go_sem, Nat.reduceAdd, Nat.reduceMul, reduceIte, Nat.reduceEqDiff, Nat.reduceLeDiff, Int.reduceToNat, Int.reducePow, Int.reduceBEq, Int.reduceBNe, Int.reduceLT, Int.reduceLE, decide_true, decide_false])) ?_)
    all_goals rfl

end Go.Proofs.Ytbeceabheahpnaa
