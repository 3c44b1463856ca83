import Derived.Test.YtokmhfjledbglaaStw



namespace Go.Proofs.Ytokmhfjledbglaa
open Go.Ab
open Go
set_option linter.unusedSimpArgs false
set_option linter.unusedVariables false
set_option maxRecDepth 10000
attribute [local irreducible] PV AOp AOps AW PCall OCall MCall WCall Ab.Fin OFin OFin2 MFin RV RV1 Le AStk AGrd ADr ADx ADo AOpX AAny
set_option maxHeartbeats 4000000
/-! row 42 -/
def grpK (sz : List Int) (v x : Nat) : List Int := (List.range x).map fun (y : Nat) => baseK sz v + (y : Int)
theorem grpK_len (sz : List Int) (v x : Nat) : (grpK sz v x).length = x := by simp [grpK]
theorem grpK_succ (sz : List Int) (v x : Nat) : grpK sz v (x + 1) = grpK sz v x ++ [baseK sz v + (x : Int)] := by
  unfold grpK; rw [List.range_succ, List.map_append]; rfl

theorem varsLaw_pc (m : MTask) : PCall Try.prog 6 [m.av] (fun r => r = .bool true) := by
  by_cases hok : MValid m ∧ baseK m.sizes m.sizes.length ≤ 24
  · obtain ⟨hm, h24⟩ := hok
    have hst : PCall Try.prog 22 [m.av] (fun r => (∃ a b : Int, a ≠ 0 ∧ r = .tup [.agg [.int 0, .nilS, .nilS, .nilS], fault a b]) ∨ r = .tup [(stripsT m).av, fault 0 0]) := (strips_pc m).mono fun r h => h.imp (fun h => h) fun h => h.2.2
    have hw := strips_wf hm h24
    have hg : ∀ v, v < m.sizes.length → PCall Try.prog 10 [(stripsT m).av, ints (grpM m.sizes v)] (fun r => r = .tup [.bool true, fault 0 0]) := fun v hv => by
      have := ind_ok (stripsT m) (grpM m.sizes v) hw (grp_set hm hv)
      rwa [group_var hm hv] at this
    have hB0 : ∀ i, i ≤ m.sizes.length → 0 ≤ baseK m.sizes i ∧ baseK m.sizes i ≤ 24 := fun i h => ⟨base_nn hm h, by have := base_le hm h (Nat.le_refl _); omega⟩
    have h8 := hm.n8
    generalize stripsT m = T at *
    
    (refine enterS Try.func6 Try.ntmps6 ?_)
    
    (repeat' (first | (refine hK _ ?_; clear hK K) | (refine aw_seq (fun K hK => ?_)) | (refine gR ?_; refine regS ?_) | (refine gC 11 ?_; refine callS (groups_pc) ?_) | (refine stk_op (fun K hK => ?_); (first | (refine aop_call (hst) (by rfl) (fun x hx => ?_); obtain (⟨a, b, hab, rfl⟩ | rfl) := hx) | (refine aop_pv (pv_fieldAddrF (by rfl) (by rfl) (by first | decide | (simp; done) | (simp; omega))) ?_) | (refine aop_pv (pv_fieldAddrIF (by rfl) (by rfl) (by first | decide | (simp; done) | (simp; omega))) ?_) | (refine aop_pv (pv_neq (by rfl) (by rfl)) ?_) | (refine aop_pv (pv_neqB (by rfl) (by rfl)) ?_) | (refine aop_pv (pv_neqA (by rfl) (by rfl) (by kernel_rfl)) ?_) | (refine aop_pv (pv_eql (by rfl) (by rfl)) ?_) | (refine aop_pv (pv_eqlB (by rfl) (by rfl)) ?_) | (refine aop_pv (pv_eqlA (by rfl) (by rfl) (by kernel_rfl)) ?_))) | (refine gE ?_; (first | (refine exN ?_) | (refine exS (fun _ => ?_)))) | (refine gG ?_; refine guardS (fun hc => ?_) (fun hc => ?_) <;> (try (first | contradiction | (exfalso; omega)))) | (refine gQ ?_; (first | (refine condT ?_) | (refine condF ?_) | (refine condS (fun hc => ?_) (fun hc => ?_) <;> (try (first | contradiction | (exfalso; omega)))))) | (refine gW ?_; refine wopsS ?_) | (refine aw_block ?_) | (refine gX ?_; refine exitS ?_) | (refine gT ?_; refine retS ?_) | (refine gS ?_; refine skipS ?_) | (apply_assumption (exfalso := false) (symm := false))))
    all_goals try ((refine fin_le (Le.refl _) (rv_one (rv1_tmp (by rfl))) (by first | rfl | (simp only [go_sem, Nat.reduceAdd, Nat.reduceMul, reduceIte, Nat.reduceEqDiff, Nat.reduceLeDiff, Int.reduceToNat, Int.reducePow, Int.reduceBEq, Int.reduceBNe, Int.reduceLT, Int.reduceLE, decide_true, decide_false])) ?_); rfl; done)
    refine aw_loop_at [2, 5, 6, 7, 8, 9, 10, 29, 30, 31, 32, 33, 34, 35, 36, 37, 38, 39, 40, 41, 42, 43, 44, 45, 46, 47, 48, 49, 50, 51, 52, 53, 54, 55, 56, 57, 58, 59, 60, 61, 62, 63, 64, 65, 66, 67, 68, 69, 70] (fun v : Nat => v ≤ m.sizes.length) (fun v => m.sizes.length - v) (fun v => [(6, .int v), (5, .int (baseK m.sizes v))]) (fun _ => [(1, ⟨50, m.cs, true⟩), (3, ⟨25, T.cs, true⟩), (4, ⟨27, [.int 0, .int 0], true⟩)]) 0 (by omega) ?_ ?_
    · (refine atS ?_)
      (exact weakS)
    · rintro v hv K hK
      (refine atS ?_)
      by_cases hvt : v < m.sizes.length
      · have hb0 := hB0 v hv
        have hsv := sz_at hm hvt
        have hbs := baseK_succ hvt
        rw [getElem!_pos m.sizes v hvt] at hsv hbs
        have hgv := hg v hvt
        have hgk : grpM m.sizes v = grpK m.sizes v m.sizes[v].toNat := by unfold grpM grpK; rw [getElem!_pos m.sizes v hvt]
        rw [hgk] at hgv
        
        
        (repeat' (first | (refine hK _ ?_; clear hK K) | (refine aw_seq (fun K hK => ?_)) | (refine gR ?_; refine regS ?_) | (refine stk_op (fun K hK => ?_); (first | (refine aop_pv (pv_fieldAddrF (by rfl) (by rfl) (by first | decide | (simp; done) | (simp; omega))) ?_) | (refine aop_pv (pv_fieldAddrIF (by rfl) (by rfl) (by first | decide | (simp; done) | (simp; omega))) ?_))) | (refine gE ?_; (first | (refine exN ?_) | (refine exS (fun _ => ?_)))) | (refine gQ ?_; (first | (refine condT ?_) | (refine condF ?_) | (refine condS (fun hc => ?_) (fun hc => ?_) <;> (try (first | contradiction | (exfalso; omega)))))) | (refine gW ?_; refine wopsS ?_) | (refine aw_block ?_) | (refine gX ?_; refine exitS ?_) | (refine gT ?_; refine retS ?_) | (refine gS ?_; refine skipS ?_) | (apply_assumption (exfalso := false) (symm := false))))
        (refine awVirt 7 100 1 8 3 ?_)
        refine aw_loop_at [7, 8, 36, 37, 38, 39, 40, 41, 42, 43, 44, 45, 46, 47, 48, 49, 50] (fun x : Nat => (x : Int) ≤ m.sizes[v]) (fun x => m.sizes[v].toNat - x) (fun x => [(8, .int x), (7, .sl 1 8 100 0 (grpK m.sizes v x).length)]) (fun x => [(1, ⟨50, m.cs, true⟩), (3, ⟨25, T.cs, true⟩), (4, ⟨27, [.int 0, .int 0], true⟩), (100, ⟨3, (grpK m.sizes v x).map AV.int, false⟩)]) 0 (by omega) ?_ ?_
        · (refine atS ?_)
          (exact weakS)
        · rintro x hx K hK
          (refine atS ?_)
          have hkl := grpK_len m.sizes v x
          by_cases hxt : (x : Int) < m.sizes[v]
          · have hks := grpK_succ m.sizes v x
            
            (repeat' (first | (refine hK _ ?_; clear hK K) | (refine aw_seq (fun K hK => ?_)) | (refine gR ?_; refine regS ?_) | (refine stk_op (fun K hK => ?_); (first | (refine aop_pv (pv_fieldAddrF (by rfl) (by rfl) (by first | decide | (simp; done) | (simp; omega))) ?_) | (refine aop_pv (pv_fieldAddrIF (by rfl) (by rfl) (by first | decide | (simp; done) | (simp; omega))) ?_) | (refine appendS ?_) | (refine virtS 45 50 1 8 3 ?_; refine appendS ?_))) | (refine gE ?_; (first | (refine exN ?_) | (refine exS (fun _ => ?_)))) | (refine gQ ?_; (first | (refine condT ?_) | (refine condF ?_) | (refine condS (fun hc => ?_) (fun hc => ?_) <;> (try (first | contradiction | (exfalso; omega)))))) | (refine gW ?_; refine wopsS ?_) | (refine aw_block ?_) | (refine gX ?_; refine exitS ?_) | (refine gT ?_; refine retS ?_) | (refine gS ?_; refine skipS ?_) | (apply_assumption (exfalso := false) (symm := false))))
            refine ⟨x + 1, by omega, by omega, ?_⟩
            rw [hks]
            (refine atS ?_)
            (exact weakS)
          · obtain rfl : x = m.sizes[v].toNat := by omega
            
            (repeat' (first | (refine hK _ ?_; clear hK K) | (refine aw_seq (fun K hK => ?_)) | (refine gRx 13 (by rfl) ?_; refine regS ?_) | (refine stk_op (fun K hK => ?_); (first | (refine aop_pv (pv_fieldAddrF (by rfl) (by rfl) (by first | decide | (simp; done) | (simp; omega))) ?_) | (refine aop_pv (pv_fieldAddrIF (by rfl) (by rfl) (by first | decide | (simp; done) | (simp; omega))) ?_))) | (refine gE ?_; (first | (refine exN ?_) | (refine exS (fun _ => ?_)))) | (refine gQ ?_; (first | (refine condT ?_) | (refine condF ?_) | (refine condS (fun hc => ?_) (fun hc => ?_) <;> (try (first | contradiction | (exfalso; omega)))))) | (refine gW ?_; refine wopsS ?_) | (refine aw_block ?_) | (refine gX ?_; refine exitS ?_) | (refine gT ?_; refine retS ?_) | (refine gS ?_; refine skipS ?_) | (apply_assumption (exfalso := false) (symm := false))))
            (refine aw_le (le_sealDI 100 (grpK m.sizes v m.sizes[v].toNat).length (grpK m.sizes v m.sizes[v].toNat) (by rfl) (by first | rfl | simp)) ?_; simp only [go_sem, Nat.reduceAdd, Nat.reduceMul, reduceIte, Nat.reduceEqDiff, Nat.reduceLeDiff, Int.reduceToNat, Int.reducePow, Int.reduceBEq, Int.reduceBNe, Int.reduceLT, Int.reduceLE, decide_true, decide_false])
            
            (repeat' (first | (refine hK _ ?_; clear hK K) | (refine aw_seq (fun K hK => ?_)) | (refine gR ?_; refine regS ?_) | (refine gC 10 ?_; refine callS (hgv) ?_) | (refine stk_op (fun K hK => ?_); (first | (refine aop_pv (pv_fieldAddrF (by rfl) (by rfl) (by first | decide | (simp; done) | (simp; omega))) ?_) | (refine aop_pv (pv_fieldAddrIF (by rfl) (by rfl) (by first | decide | (simp; done) | (simp; omega))) ?_) | (refine aop_pv (pv_neq (by rfl) (by rfl)) ?_) | (refine aop_pv (pv_neqB (by rfl) (by rfl)) ?_) | (refine aop_pv (pv_neqA (by rfl) (by rfl) (by kernel_rfl)) ?_))) | (refine gE ?_; (first | (refine exN ?_) | (refine exS (fun _ => ?_)))) | (refine gG ?_; refine guardS (fun hc => ?_) (fun hc => ?_) <;> (try (first | contradiction | (exfalso; omega)))) | (refine gQ ?_; (first | (refine condT ?_) | (refine condF ?_) | (refine condS (fun hc => ?_) (fun hc => ?_) <;> (try (first | contradiction | (exfalso; omega)))))) | (refine gW ?_; refine wopsS ?_) | (refine aw_block ?_) | (refine gX ?_; refine exitS ?_) | (refine gT ?_; refine retS ?_) | (refine gS ?_; refine skipS ?_) | (apply_assumption (exfalso := false) (symm := false))))
            refine ⟨v + 1, by omega, by omega, ?_⟩
            rw [hbs]
            (refine atS ?_)
            (exact weakS)
      · 
        (repeat' (first | (refine hK _ ?_; clear hK K) | (refine aw_seq (fun K hK => ?_)) | (refine gR ?_; refine regS ?_) | (refine stk_op (fun K hK => ?_); (first | (refine aop_pv (pv_fieldAddrF (by rfl) (by rfl) (by first | decide | (simp; done) | (simp; omega))) ?_) | (refine aop_pv (pv_fieldAddrIF (by rfl) (by rfl) (by first | decide | (simp; done) | (simp; omega))) ?_))) | (refine gE ?_; (first | (refine exN ?_) | (refine exS (fun _ => ?_)))) | (refine gQ ?_; (first | (refine condT ?_) | (refine condF ?_) | (refine condS (fun hc => ?_) (fun hc => ?_) <;> (try (first | contradiction | (exfalso; omega)))))) | (refine gW ?_; refine wopsS ?_) | (refine aw_block ?_) | (refine gX ?_; refine exitS ?_) | (refine gT ?_; refine retS ?_) | (refine gS ?_; refine skipS ?_) | (apply_assumption (exfalso := false) (symm := false))))
        (refine fin_le (Le.refl _) (rv_one (rv1_tmp (by rfl))) (by first | rfl | (simp only [go_sem, Nat.reduceAdd, Nat.reduceMul, reduceIte, Nat.reduceEqDiff, Nat.reduceLeDiff, Int.reduceToNat, Int.reducePow, Int.reduceBEq, Int.reduceBNe, Int.reduceLT, Int.reduceLE, decide_true, decide_false])) ?_)
        rfl
  · have hst : PCall Try.prog 22 [m.av] (fun r => ∃ a b : Int, a ≠ 0 ∧ r = .tup [.agg [.int 0, .nilS, .nilS, .nilS], fault a b]) := (strips_pc m).mono fun r h => h.elim (fun h => h) fun h => absurd ⟨h.1, h.2.1⟩ hok
    
    
    (refine enterS Try.func6 Try.ntmps6 ?_)
    
    (repeat' (first | (refine hK _ ?_; clear hK K) | (refine aw_seq (fun K hK => ?_)) | (refine gR ?_; refine regS ?_) | (refine gC 11 ?_; refine callS (groups_pc) ?_) | (refine stk_op (fun K hK => ?_); (first | (refine aop_call (hst) (by rfl) (fun x hx => ?_); obtain ⟨a, b, hab, rfl⟩ := hx) | (refine aop_pv (pv_fieldAddrF (by rfl) (by rfl) (by first | decide | (simp; done) | (simp; omega))) ?_) | (refine aop_pv (pv_fieldAddrIF (by rfl) (by rfl) (by first | decide | (simp; done) | (simp; omega))) ?_) | (refine aop_pv (pv_neq (by rfl) (by rfl)) ?_) | (refine aop_pv (pv_neqB (by rfl) (by rfl)) ?_) | (refine aop_pv (pv_neqA (by rfl) (by rfl) (by kernel_rfl)) ?_) | (refine aop_pv (pv_eql (by rfl) (by rfl)) ?_) | (refine aop_pv (pv_eqlB (by rfl) (by rfl)) ?_) | (refine aop_pv (pv_eqlA (by rfl) (by rfl) (by kernel_rfl)) ?_))) | (refine gE ?_; (first | (refine exN ?_) | (refine exS (fun _ => ?_)))) | (refine gG ?_; refine guardS (fun hc => ?_) (fun hc => ?_) <;> (try (first | contradiction | (exfalso; omega)))) | (refine gQ ?_; (first | (refine condT ?_) | (refine condF ?_) | (refine condS (fun hc => ?_) (fun hc => ?_) <;> (try (first | contradiction | (exfalso; omega)))))) | (refine gW ?_; refine wopsS ?_) | (refine aw_block ?_) | (refine gX ?_; refine exitS ?_) | (refine gT ?_; refine retS ?_) | (refine gS ?_; refine skipS ?_) | (apply_assumption (exfalso := false) (symm := false))))
    all_goals (refine fin_le (Le.refl _) (rv_one (rv1_tmp (by rfl))) (by first | rfl | (simp only [go_sem, Nat.reduceAdd, Nat.reduceMul, reduceIte, Nat.reduceEqDiff, Nat.reduceLeDiff, Int.reduceToNat, Int.reducePow, Int.reduceBEq, Int.reduceBNe, Int.reduceLT, Int.reduceLE, decide_true, decide_false])) ?_)
    all_goals rfl

end Go.Proofs.Ytokmhfjledbglaa
