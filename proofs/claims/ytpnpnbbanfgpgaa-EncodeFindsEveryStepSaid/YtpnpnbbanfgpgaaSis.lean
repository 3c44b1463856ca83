import Derived.Test.YtpnpnbbanfgpgaaSir
import Derived.Test.YtpnpnbbanfgpgaaEnl




namespace Go.Proofs.Ytpnpnbbanfgpgaa
open Go.Ab
open Go
set_option linter.unusedSimpArgs false
set_option linter.unusedVariables false
set_option maxRecDepth 10000
attribute [local irreducible] PV AOp AOps AW PCall OCall MCall WCall HCall Ab.Fin OFin OFin2 MFin HFin RV RV1 Le AStk AGrd ADr ADx ADo AOpX AAny
set_option maxHeartbeats 40000000
attribute [local go_sem] purge_appV cells_intsV cast_0 sealDL_app
/-! row 38 -/
theorem state_in {t : Task} {ls : List (List Int)} {s : List Int} (h : groupsFault t ls = (0, 0)) (hi : InvG t ls s) : PCall Try.prog 19 [t.av, rows ls, ints s] (fun r => r = .tup [ints (valsF (coverT t.facts.toNat ls) s), fault 0 0]) := by
  have e : stateF t ls s = (valsF (coverT t.facts.toNat ls) s, (0, 0)) := by
    unfold stateF
    rw [if_neg (by simp [h]), if_neg (by simp [hi.1]), if_neg (by simp [inv_free hi])]
  exact (state_pc t ls s).mono fun r hr => by rw [hr, e]
theorem count_take {p : Int → Bool} {l : List Int} {j : Nat} (h : j < l.length) : (l.take (j + 1)).countP p = (l.take j).countP p + if p l[j] = true then 1 else 0 := by
  rw [List.take_succ_eq_append_getElem h, List.countP_append, List.countP_cons, List.countP_nil, Nat.zero_add]
theorem count_le {p : Int → Bool} {l : List Int} (j : Nat) : (l.take j).countP p ≤ l.countP p := (List.take_sublist j l).countP_le

theorem findsLaw_pc (t : Task) (ls : List (List Int)) (plan : List Int) : PCall Try.prog 5 [t.av, rows ls, ints plan] (fun r => r = .bool true) := by
  by_cases h : groupsFault t ls = (0, 0)
  · have hm := multi_ok t ls h
    by_cases hb : badC (coverT t.facts.toNat ls)
    · rw [mf_bad hb] at hm
      
      (refine enterS Try.func5 Try.ntmps5 ?_)
      
      (repeat' (first | (refine hK _ ?_; clear hK K) | (refine aw_seq (fun K hK => ?_)) | (refine gR ?_; refine regS ?_) | (refine gC 11 ?_; refine callS (hm) ?_) | (refine gC 7 ?_; refine callS (encodes_pc) ?_) | (refine stk_op (fun K hK => ?_); (first | (refine aop_pv (pv_fieldAddrF (by rfl) (by rfl) (by first | decide | (simp; done) | (simp; omega))) ?_) | (refine aop_pv (pv_fieldAddrIF (by rfl) (by rfl) (by first | decide | (simp; done) | (simp; omega))) ?_) | (refine aop_pv (pv_neq (by rfl) (by rfl)) ?_) | (refine aop_pv (pv_neqB (by rfl) (by rfl)) ?_) | (refine aop_pv (pv_neqA (by rfl) (by rfl) (by kernel_rfl)) ?_) | (refine aop_pv (pv_eql (by rfl) (by rfl)) ?_) | (refine aop_pv (pv_eqlB (by rfl) (by rfl)) ?_) | (refine aop_pv (pv_eqlA (by rfl) (by rfl) (by kernel_rfl)) ?_))) | (refine gE ?_; (first | (refine exN ?_) | (refine exS (fun _ => ?_)))) | (refine gG ?_; refine guardS (fun hc => ?_) (fun hc => ?_) <;> (try (first | contradiction | (exfalso; omega)))) | (refine gQ ?_; (first | (refine condT ?_) | (refine condF ?_) | (refine condS (fun hc => ?_) (fun hc => ?_) <;> (try (first | contradiction | (exfalso; omega)))))) | (refine gW ?_; refine wopsS ?_) | (refine aw_block ?_) | (refine gX ?_; refine exitS ?_) | (refine gT ?_; refine retS ?_) | (refine gS ?_; refine skipS ?_) | (apply_assumption (exfalso := false) (symm := false))))
      (refine fin_le (Le.refl _) (rv_one (rv1_tmp (by rfl))) (by first | rfl | (simp only [go_sem, Nat.reduceAdd, Nat.reduceMul, reduceIte, Nat.reduceEqDiff, Nat.reduceLeDiff, Int.reduceToNat, Int.reducePow, Int.reduceBEq, Int.reduceBNe, Int.reduceLT, Int.reduceLE, decide_true, decide_false])) ?_)
      rfl
    cases hng : crowdB (coverT t.facts.toNat ls) t.goal with
    | true =>
      rw [mf_goal hb hng] at hm
      (refine enterS Try.func5 Try.ntmps5 ?_)
      
      (repeat' (first | (refine hK _ ?_; clear hK K) | (refine aw_seq (fun K hK => ?_)) | (refine gR ?_; refine regS ?_) | (refine gC 11 ?_; refine callS (hm) ?_) | (refine gC 7 ?_; refine callS (encodes_pc) ?_) | (refine stk_op (fun K hK => ?_); (first | (refine aop_pv (pv_fieldAddrF (by rfl) (by rfl) (by first | decide | (simp; done) | (simp; omega))) ?_) | (refine aop_pv (pv_fieldAddrIF (by rfl) (by rfl) (by first | decide | (simp; done) | (simp; omega))) ?_) | (refine aop_pv (pv_neq (by rfl) (by rfl)) ?_) | (refine aop_pv (pv_neqB (by rfl) (by rfl)) ?_) | (refine aop_pv (pv_neqA (by rfl) (by rfl) (by kernel_rfl)) ?_) | (refine aop_pv (pv_eql (by rfl) (by rfl)) ?_) | (refine aop_pv (pv_eqlB (by rfl) (by rfl)) ?_) | (refine aop_pv (pv_eqlA (by rfl) (by rfl) (by kernel_rfl)) ?_))) | (refine gE ?_; (first | (refine exN ?_) | (refine exS (fun _ => ?_)))) | (refine gG ?_; refine guardS (fun hc => ?_) (fun hc => ?_) <;> (try (first | contradiction | (exfalso; omega)))) | (refine gQ ?_; (first | (refine condT ?_) | (refine condF ?_) | (refine condS (fun hc => ?_) (fun hc => ?_) <;> (try (first | contradiction | (exfalso; omega)))))) | (refine gW ?_; refine wopsS ?_) | (refine aw_block ?_) | (refine gX ?_; refine exitS ?_) | (refine gT ?_; refine retS ?_) | (refine gS ?_; refine skipS ?_) | (apply_assumption (exfalso := false) (symm := false))))
      (refine fin_le (Le.refl _) (rv_one (rv1_tmp (by rfl))) (by first | rfl | (simp only [go_sem, Nat.reduceAdd, Nat.reduceMul, reduceIte, Nat.reduceEqDiff, Nat.reduceLeDiff, Int.reduceToNat, Int.reducePow, Int.reduceBEq, Int.reduceBNe, Int.reduceLT, Int.reduceLE, decide_true, decide_false])) ?_)
      rfl
    | false =>
      by_cases h40 : 40 < (pairsK t (coverT t.facts.toNat ls) t.ops.length).length
      · rw [mf_many hb hng h40] at hm
        (refine enterS Try.func5 Try.ntmps5 ?_)
        
        (repeat' (first | (refine hK _ ?_; clear hK K) | (refine aw_seq (fun K hK => ?_)) | (refine gR ?_; refine regS ?_) | (refine gC 11 ?_; refine callS (hm) ?_) | (refine gC 7 ?_; refine callS (encodes_pc) ?_) | (refine stk_op (fun K hK => ?_); (first | (refine aop_pv (pv_fieldAddrF (by rfl) (by rfl) (by first | decide | (simp; done) | (simp; omega))) ?_) | (refine aop_pv (pv_fieldAddrIF (by rfl) (by rfl) (by first | decide | (simp; done) | (simp; omega))) ?_) | (refine aop_pv (pv_neq (by rfl) (by rfl)) ?_) | (refine aop_pv (pv_neqB (by rfl) (by rfl)) ?_) | (refine aop_pv (pv_neqA (by rfl) (by rfl) (by kernel_rfl)) ?_) | (refine aop_pv (pv_eql (by rfl) (by rfl)) ?_) | (refine aop_pv (pv_eqlB (by rfl) (by rfl)) ?_) | (refine aop_pv (pv_eqlA (by rfl) (by rfl) (by kernel_rfl)) ?_))) | (refine gE ?_; (first | (refine exN ?_) | (refine exS (fun _ => ?_)))) | (refine gG ?_; refine guardS (fun hc => ?_) (fun hc => ?_) <;> (try (first | contradiction | (exfalso; omega)))) | (refine gQ ?_; (first | (refine condT ?_) | (refine condF ?_) | (refine condS (fun hc => ?_) (fun hc => ?_) <;> (try (first | contradiction | (exfalso; omega)))))) | (refine gW ?_; refine wopsS ?_) | (refine aw_block ?_) | (refine gX ?_; refine exitS ?_) | (refine gT ?_; refine retS ?_) | (refine gS ?_; refine skipS ?_) | (apply_assumption (exfalso := false) (symm := false))))
        (refine fin_le (Le.refl _) (rv_one (rv1_tmp (by rfl))) (by first | rfl | (simp only [go_sem, Nat.reduceAdd, Nat.reduceMul, reduceIte, Nat.reduceEqDiff, Nat.reduceLeDiff, Int.reduceToNat, Int.reducePow, Int.reduceBEq, Int.reduceBNe, Int.reduceLT, Int.reduceLE, decide_true, decide_false])) ?_)
        rfl
      have hm2 : PCall Try.prog 11 [t.av, rows ls] (fun r => r = mres (taskM t (coverT t.facts.toNat ls), fromL t (coverT t.facts.toNat ls), 0, 0)) := by
        rw [mf_ok hb hng h40] at hm
        exact hm
      clear hm
      have h40' : (pairsK t (coverT t.facts.toNat ls) t.ops.length).length ≤ 40 := by omega
      by_cases hpl : playF t t.init plan = (0, 0)
      · have hplay := play_ok t t.init plan hpl
        obtain ⟨hw, hs, h60, hin, hall⟩ := playF_ok hpl
        have hrs := run_steps h plan t.init hin (inv_init h) hall
        have hone := fun s i hi hv hpre => one_step (s := s) (i := i) h h40' hi hv hpre
        have hst := fun s (hi : InvG t ls s) => state_in h hi
        have hsv := fun s => st_vals (t := t) (cs := coverT t.facts.toNat ls) (s := s)
        have hv := task_valid h hb h40'
        have hfl : (fromL t (coverT t.facts.toNat ls)).length = (taskM t (coverT t.facts.toNat ls)).ops.length := by simp [fromL, taskM]
        generalize runL t t.init plan = l at *
        generalize coverT t.facts.toNat ls = cs at *
        generalize taskM t cs = m at *
        generalize fromL t cs = f at *
        have hn40 := hv.n40
        
        
        
        (refine enterS Try.func5 Try.ntmps5 ?_)
        
        (repeat' (first | (refine hK _ ?_; clear hK K) | (refine aw_seq (fun K hK => ?_)) | (refine gR ?_; refine regS ?_) | (refine gC 11 ?_; refine callS (hm2) ?_) | (refine gC 7 ?_; refine callS (encodes_pc) ?_) | (refine gC 18 ?_; refine callS (hplay) ?_) | (refine stk_op (fun K hK => ?_); (first | (refine aop_pv (pv_fieldAddrF (by rfl) (by rfl) (by first | decide | (simp; done) | (simp; omega))) ?_) | (refine aop_pv (pv_fieldAddrIF (by rfl) (by rfl) (by first | decide | (simp; done) | (simp; omega))) ?_) | (refine aop_pv (pv_neq (by rfl) (by rfl)) ?_) | (refine aop_pv (pv_neqB (by rfl) (by rfl)) ?_) | (refine aop_pv (pv_neqA (by rfl) (by rfl) (by kernel_rfl)) ?_) | (refine aop_pv (pv_eql (by rfl) (by rfl)) ?_) | (refine aop_pv (pv_eqlB (by rfl) (by rfl)) ?_) | (refine aop_pv (pv_eqlA (by rfl) (by rfl) (by kernel_rfl)) ?_))) | (refine gE ?_; (first | (refine exN ?_) | (refine exS (fun _ => ?_)))) | (refine gG ?_; refine guardS (fun hc => ?_) (fun hc => ?_) <;> (try (first | contradiction | (exfalso; omega)))) | (refine gQ ?_; (first | (refine condT ?_) | (refine condF ?_) | (refine condS (fun hc => ?_) (fun hc => ?_) <;> (try (first | contradiction | (exfalso; omega)))))) | (refine gW ?_; refine wopsS ?_) | (refine aw_block ?_) | (refine gX ?_; refine exitS ?_) | (refine gT ?_; refine retS ?_) | (refine gS ?_; refine skipS ?_) | (apply_assumption (exfalso := false) (symm := false))))
        refine aw_loop_at [6, 12, 13, 14, 15, 16, 17, 18, 19, 20, 21, 22, 57, 58, 59, 60, 61, 62, 63, 64, 65, 66, 67, 68, 69, 70, 71, 72, 73, 74, 75, 76, 77, 78, 79, 80, 81, 82, 83, 84, 85, 86, 87, 88, 89, 90, 91, 92, 93, 94, 95, 96, 97, 98, 99, 100, 101, 102, 103, 104, 105, 106, 107, 108, 109, 110, 111, 112, 113, 114, 115, 116, 117, 118, 119, 120, 121, 122, 123, 124, 125, 126, 127, 128, 129, 130, 131, 132, 133, 134, 135, 136, 137, 138, 139, 140, 141, 142, 143, 144, 145, 146, 147, 148, 149, 150, 151, 152, 153, 154, 155, 156, 157, 158, 159] (fun k : Nat => k ≤ plan.length) (fun k => plan.length - k) (fun k => [(12, .int k)]) (fun _ => [(3, ⟨25, t.cs, true⟩), (7, ⟨40, m.cs, true⟩), (9, ⟨28, [.int 0, .int 0], true⟩), (11, ⟨28, [.int 0, .int 0], true⟩)]) 0 (by omega) ?_ ?_
        · (refine atS ?_)
          (exact weakS)
        · rintro k hk K hK
          (refine atS ?_)
          by_cases hlt : k < plan.length
          · obtain ⟨hv1, hpre, hnx, hv2⟩ := hrs k hlt
            have hx := hin _ (List.getElem_mem hlt)
            have hxl : plan[k].toNat < t.ops.length := by omega
            have hgl : l[k]! = l[k] := getElem!_pos l k (by omega)
            have hgl2 : l[k + 1]! = l[k + 1] := getElem!_pos l (k + 1) (by omega)
            have hgo : t.ops[plan[k].toNat]! = t.ops[plan[k].toNat] := getElem!_pos t.ops _ hxl
            rw [hgo] at hpre hnx
            obtain ⟨hcount, happ⟩ := hone l[k]! plan[k].toNat hxl hv1 hpre
            rw [← hnx, show ((plan[k].toNat : Nat) : Int) = plan[k] by omega] at happ
            rw [show ((plan[k].toNat : Nat) : Int) = plan[k] by omega] at hcount
            have hs1 := hst _ hv1
            have hs2 := hst _ hv2
            have hv3 := hsv l[k]!
            have hap := applicable_pc m _ hv hv3
            have hmem := fun x hx => appl_mem (m := m) (σ := valsF cs l[k]!) (k := m.ops.length) (x := x) hx
            have hal := applL_len m (valsF cs l[k]!) m.ops.length
            have hapm := fun x h0 h1 hho => applyM_pc m (valsF cs l[k]!) x hv hv3 h0 h1 hho
            generalize valsF cs l[k + 1]! = σ' at *
            generalize valsF cs l[k]! = σ at *
            generalize applL m σ m.ops.length = L at *
            rw [hgl] at hs1
            rw [hgl2] at hs2
            
            
            
            
            have hk1 : k < l.length := by omega
            have hk2 : k + 1 < l.length := by omega
            have hk3 : 0 ≤ (k : Int) + 1 ∧ ((k : Int) + 1).toNat < l.length := ⟨by omega, by omega⟩
            have hk4 : 0 ≤ (k : Int) + 1 ∧ ((k : Int) + 1).toNat < (l.map fun x => ints x).length := ⟨by omega, by rw [List.length_map]; omega⟩
            
            
            (repeat' (first | (refine hK _ ?_; clear hK K) | (refine aw_seq (fun K hK => ?_)) | (refine gR ?_; refine regS ?_) | (refine gD 10 ?_; refine drE (s1 := ?_) (.it 0 0 (.it 1 0 (.it 2 0 (.it 3 0 (.it 4 0 (.it 5 0 (.fk 6 10 (.it 7 0 (.it 8 0 (.it 9 0 (.it 10 1 (.it 11 0 (.it 12 3 .nil)))))) (.it 6 1 (.it 7 0 (.it 8 0 (.it 9 0 (.it 11 0 (.it 12 3 .nil))))))))))))) [0, 1, 2, 3, 4, 5, 7, 8, 9, 11] ?_ ?_; rotate_left) | (refine gD 11 ?_; refine drE (s1 := ?_) (.it 0 0 (.it 1 0 (.it 2 0 (.it 3 0 (.it 4 0 (.it 5 0 (.it 6 0 (.fk 7 11 (.it 8 0 (.it 9 0 (.it 10 0 (.it 11 1 (.it 12 0 (.it 13 3 .nil)))))) (.it 7 1 (.it 8 0 (.it 9 0 (.it 10 0 (.it 12 0 (.it 13 3 .nil)))))))))))))) [0, 1, 2, 3, 4, 5, 6, 8, 9, 10, 12] ?_ ?_; rotate_left) | (refine gCd 19 ?_; refine callD (hs1) ?_) | (refine gCd 19 ?_; refine callD (hs2) ?_) | (refine gC 20 ?_; refine callS (hap) ?_) | (refine stk_op (fun K hK => ?_); (first | (refine aop_pv (pv_fieldAddrF (by rfl) (by rfl) (by first | decide | (simp; done) | (simp; omega))) ?_) | (refine aop_pv (pv_fieldAddrIF (by rfl) (by rfl) (by first | decide | (simp; done) | (simp; omega))) ?_) | (refine aop_pv (pv_neq (by rfl) (by rfl)) ?_) | (refine aop_pv (pv_neqB (by rfl) (by rfl)) ?_) | (refine aop_pv (pv_neqA (by rfl) (by rfl) (by kernel_rfl)) ?_))) | (refine adx_op (fun K hK => ?_); (first | (refine aopx_alloc (d := 14) 14 (by first | rfl | (simp only [go_sem, Nat.reduceAdd, Nat.reduceMul, reduceIte, Nat.reduceEqDiff, Nat.reduceLeDiff, Int.reduceToNat, Int.reducePow, Int.reduceBEq, Int.reduceBNe, Int.reduceLT, Int.reduceLE, decide_true, decide_false]; done) | (simp only [go_sem, Nat.reduceAdd, Nat.reduceMul, reduceIte, Nat.reduceEqDiff, Nat.reduceLeDiff, Int.reduceToNat, Int.reducePow, Int.reduceBEq, Int.reduceBNe, Int.reduceLT, Int.reduceLE, decide_true, decide_false]; rfl) | (simp [St.free, mentHp, AV.mentL, AV.ment])) ?_) | (refine aopx_alloc (d := 16) 16 (by first | rfl | (simp only [go_sem, Nat.reduceAdd, Nat.reduceMul, reduceIte, Nat.reduceEqDiff, Nat.reduceLeDiff, Int.reduceToNat, Int.reducePow, Int.reduceBEq, Int.reduceBNe, Int.reduceLT, Int.reduceLE, decide_true, decide_false]; done) | (simp only [go_sem, Nat.reduceAdd, Nat.reduceMul, reduceIte, Nat.reduceEqDiff, Nat.reduceLeDiff, Int.reduceToNat, Int.reducePow, Int.reduceBEq, Int.reduceBNe, Int.reduceLT, Int.reduceLE, decide_true, decide_false]; rfl) | (simp [St.free, mentHp, AV.mentL, AV.ment])) ?_))) | (refine And.intro ?_ ?_) | (refine gDx ?_; refine adxS ?_) | (refine gO ?_; refine adoS ?_) | (refine gL ?_; (first | exact Le.refl _ | exact weakS)) | (refine gE ?_; (first | (refine Exists.intro hk1 ?_) | (refine Exists.intro hk2 ?_) | (refine Exists.intro hk3 ?_) | (refine Exists.intro hk4 ?_) | (refine exN ?_) | (refine exS (fun _ => ?_)))) | (refine gG ?_; refine guardS (fun hc => ?_) (fun hc => ?_) <;> (try (first | contradiction | (exfalso; omega)))) | (refine gQ ?_; (first | (refine condT ?_) | (refine condF ?_) | (refine condS (fun hc => ?_) (fun hc => ?_) <;> (try (first | contradiction | (exfalso; omega)))))) | (refine gWd ?_; refine wdrS ?_) | (refine gW ?_; refine wopsS ?_) | (refine aw_block ?_) | (refine gX ?_; refine exitS ?_) | (refine gT ?_; refine retS ?_) | (refine gS ?_; refine skipS ?_) | (apply_assumption (exfalso := false) (symm := false))))
            
            refine aw_loop_at [6, 19, 20, 21, 22, 110, 111, 112, 113, 114, 115, 116, 117, 118, 119, 120, 121, 122, 123, 124, 125, 126, 127, 128, 129, 130, 131, 132, 133, 134, 135, 136, 137, 138, 139, 140, 141, 142, 143, 144, 145, 146, 147, 148, 149, 150, 151, 152, 153, 154, 155, 156, 157] (fun j : Nat => j ≤ L.length) (fun j => L.length - j) (fun j => [(20, .int j), (19, .int ((L.take j).countP (fun x => decide (f[x.toNat]! = plan[k])) : Nat))]) (fun _ => [(3, ⟨25, t.cs, true⟩), (7, ⟨40, m.cs, true⟩), (9, ⟨28, [.int 0, .int 0], true⟩), (11, ⟨28, [.int 0, .int 0], true⟩), (14, ⟨28, [.int 0, .int 0], true⟩), (16, ⟨28, [.int 0, .int 0], true⟩), (18, ⟨28, [.int 0, .int 0], true⟩)]) 0 (by omega) ?_ ?_
            · (refine atS ?_)
              (exact weakS)
            · rintro j hj K hK
              (refine atS ?_)
              by_cases hjl : j < L.length
              · obtain ⟨hx0, hx1, hho⟩ := hmem _ (List.getElem_mem hjl)
                have hct := count_take (p := fun x => decide (f[x.toNat]! = plan[k])) hjl
                have hcl := count_le (p := fun x => decide (f[x.toNat]! = plan[k])) (l := L) j
                have hml : L[j].toNat < m.ops.length := by omega
                have hfx : L[j].toNat < f.length := by omega
                have hfg : f[L[j].toNat]! = f[L[j].toNat] := getElem!_pos f _ hfx
                have hmg : m.ops[L[j].toNat]! = m.ops[L[j].toNat] := getElem!_pos m.ops _ hml
                simp only [hfg, decide_eq_true_eq] at hct
                rw [hmg] at hho
                have hap1 := hapm _ hx0 hx1 hho
                
                by_cases hfe : f[L[j].toNat] = plan[k]
                · have hp2 := happ L[j] hx0 hx1 (by rw [opM_at hx0 hx1]; exact hho) (by rw [hfg]; exact hfe)
                  rw [opM_at hx0 hx1] at hp2
                  rw [hp2] at hap1
                  rw [if_pos hfe] at hct
                  have hsame : PCall Try.prog 23 [ints σ', ints σ'] (fun r => r = .bool true) := (ints_pc _ _).mono fun r hr => by rw [hr]; simp
                  
                  
                  
                  
                  (repeat' (first | (refine hK _ ?_; clear hK K) | (refine aw_seq (fun K hK => ?_)) | (refine gR ?_; refine regS ?_) | (refine gD 21 ?_; refine drS (.it 0 0 (.it 1 0 (.it 2 0 (.it 3 0 (.it 4 0 (.it 5 0 (.it 6 0 (.it 7 0 (.it 8 0 (.it 9 0 (.it 10 0 (.it 11 0 .nil)))))))))))) [0, 1, 2, 3, 4, 5, 6, 7, 8, 9, 10, 11] ?_) | (refine gD 22 ?_; refine drE (s1 := ?_) (.it 0 0 (.it 1 0 (.it 2 0 (.it 3 0 (.it 4 0 (.it 5 0 (.fk 6 10 (.it 7 0 (.it 8 0 (.it 9 0 (.it 10 1 (.it 11 0 (.it 12 3 .nil)))))) (.it 6 1 (.it 7 0 (.it 8 0 (.it 9 0 (.it 11 0 (.it 12 3 .nil))))))))))))) [0, 1, 2, 3, 4, 5, 7, 8, 9, 11] ?_ ?_; rotate_left) | (refine gC 21 ?_; refine callS (in_pc _ _ _) ?_) | (refine gCd 22 ?_; refine callD (hap1) ?_) | (refine gC 23 ?_; refine callS (hsame) ?_) | (refine stk_op (fun K hK => ?_); (first | (refine aop_pv (pv_fieldAddrF (by rfl) (by rfl) (by first | decide | (simp; done) | (simp; omega))) ?_) | (refine aop_pv (pv_fieldAddrIF (by rfl) (by rfl) (by first | decide | (simp; done) | (simp; omega))) ?_) | (refine aop_pv (pv_neq (by rfl) (by rfl)) ?_) | (refine aop_pv (pv_neqB (by rfl) (by rfl)) ?_) | (refine aop_pv (pv_neqA (by rfl) (by rfl) (by kernel_rfl)) ?_))) | (refine adx_op (fun K hK => ?_); (first | (refine aopx_pv (pv_neq (by rfl) (by rfl)) ?_) | (refine aopx_pv (pv_neqB (by rfl) (by rfl)) ?_) | (refine aopx_pv (pv_neqA (by rfl) (by rfl) (by kernel_rfl)) ?_) | (refine aopx_alloc (d := 22) 22 (by first | rfl | (simp only [go_sem, Nat.reduceAdd, Nat.reduceMul, reduceIte, Nat.reduceEqDiff, Nat.reduceLeDiff, Int.reduceToNat, Int.reducePow, Int.reduceBEq, Int.reduceBNe, Int.reduceLT, Int.reduceLE, decide_true, decide_false]; done) | (simp only [go_sem, Nat.reduceAdd, Nat.reduceMul, reduceIte, Nat.reduceEqDiff, Nat.reduceLeDiff, Int.reduceToNat, Int.reducePow, Int.reduceBEq, Int.reduceBNe, Int.reduceLT, Int.reduceLE, decide_true, decide_false]; rfl) | (simp [St.free, mentHp, AV.mentL, AV.ment])) ?_))) | (refine And.intro ?_ ?_) | (refine gDx ?_; refine adxS ?_) | (refine gO ?_; refine adoS ?_) | (refine gL ?_; (first | exact Le.refl _ | exact weakS)) | (refine gE ?_; (first | (refine Exists.intro hjl ?_) | (refine exN ?_) | (refine exS (fun _ => ?_)))) | (refine gG ?_; refine guardS (fun hc => ?_) (fun hc => ?_) <;> (try (first | contradiction | (exfalso; omega)))) | (refine gQ ?_; (first | (refine condT ?_) | (refine condF ?_) | (refine condS (fun hc => ?_) (fun hc => ?_) <;> (try (first | contradiction | (exfalso; omega)))))) | (refine gWd ?_; refine wdrS ?_) | (refine gW ?_; refine wopsS ?_) | (refine aw_block ?_) | (refine gX ?_; refine exitS ?_) | (refine gT ?_; refine retS ?_) | (refine gS ?_; refine skipS ?_) | (apply_assumption (exfalso := false) (symm := false))))
                  
                  refine ⟨j + 1, by omega, by omega, ?_⟩
                  rw [hct]
                  (refine atS ?_)
                  (exact weakS)
                · rw [if_neg hfe] at hct
                  (repeat' (first | (refine hK _ ?_; clear hK K) | (refine aw_seq (fun K hK => ?_)) | (refine gR ?_; refine regS ?_) | (refine gD 21 ?_; refine drS (.it 0 0 (.it 1 0 (.it 2 0 (.it 3 0 (.it 4 0 (.it 5 0 (.it 6 0 (.it 7 0 (.it 8 0 (.it 9 0 (.it 10 0 (.it 11 0 .nil)))))))))))) [0, 1, 2, 3, 4, 5, 6, 7, 8, 9, 10, 11] ?_) | (refine gD 22 ?_; refine drE (s1 := ?_) (.it 0 0 (.it 1 0 (.it 2 0 (.it 3 0 (.it 4 0 (.it 5 0 (.fk 6 10 (.it 7 0 (.it 8 0 (.it 9 0 (.it 10 1 (.it 11 0 (.it 12 3 .nil)))))) (.it 6 1 (.it 7 0 (.it 8 0 (.it 9 0 (.it 11 0 (.it 12 3 .nil))))))))))))) [0, 1, 2, 3, 4, 5, 7, 8, 9, 11] ?_ ?_; rotate_left) | (refine gC 21 ?_; refine callS (in_pc _ _ _) ?_) | (refine gCd 22 ?_; refine callD (hap1) ?_) | (refine gC 23 ?_; refine callS (hsame) ?_) | (refine stk_op (fun K hK => ?_); (first | (refine aop_pv (pv_fieldAddrF (by rfl) (by rfl) (by first | decide | (simp; done) | (simp; omega))) ?_) | (refine aop_pv (pv_fieldAddrIF (by rfl) (by rfl) (by first | decide | (simp; done) | (simp; omega))) ?_) | (refine aop_pv (pv_neq (by rfl) (by rfl)) ?_) | (refine aop_pv (pv_neqB (by rfl) (by rfl)) ?_) | (refine aop_pv (pv_neqA (by rfl) (by rfl) (by kernel_rfl)) ?_))) | (refine adx_op (fun K hK => ?_); (first | (refine aopx_pv (pv_neq (by rfl) (by rfl)) ?_) | (refine aopx_pv (pv_neqB (by rfl) (by rfl)) ?_) | (refine aopx_pv (pv_neqA (by rfl) (by rfl) (by kernel_rfl)) ?_) | (refine aopx_alloc (d := 22) 22 (by first | rfl | (simp only [go_sem, Nat.reduceAdd, Nat.reduceMul, reduceIte, Nat.reduceEqDiff, Nat.reduceLeDiff, Int.reduceToNat, Int.reducePow, Int.reduceBEq, Int.reduceBNe, Int.reduceLT, Int.reduceLE, decide_true, decide_false]; done) | (simp only [go_sem, Nat.reduceAdd, Nat.reduceMul, reduceIte, Nat.reduceEqDiff, Nat.reduceLeDiff, Int.reduceToNat, Int.reducePow, Int.reduceBEq, Int.reduceBNe, Int.reduceLT, Int.reduceLE, decide_true, decide_false]; rfl) | (simp [St.free, mentHp, AV.mentL, AV.ment])) ?_))) | (refine And.intro ?_ ?_) | (refine gDx ?_; refine adxS ?_) | (refine gO ?_; refine adoS ?_) | (refine gL ?_; (first | exact Le.refl _ | exact weakS)) | (refine gE ?_; (first | (refine exN ?_) | (refine exS (fun _ => ?_)))) | (refine gG ?_; refine guardS (fun hc => ?_) (fun hc => ?_) <;> (try (first | contradiction | (exfalso; omega)))) | (refine gQ ?_; (first | (refine condT ?_) | (refine condF ?_) | (refine condS (fun hc => ?_) (fun hc => ?_) <;> (try (first | contradiction | (exfalso; omega)))))) | (refine gWd ?_; refine wdrS ?_) | (refine gW ?_; refine wopsS ?_) | (refine aw_block ?_) | (refine gX ?_; refine exitS ?_) | (refine gT ?_; refine retS ?_) | (refine gS ?_; refine skipS ?_) | (apply_assumption (exfalso := false) (symm := false))))
                  refine ⟨j + 1, by omega, by omega, ?_⟩
                  rw [hct]
                  (refine atS ?_)
                  (exact weakS)
              · obtain rfl : j = L.length := by omega
                rw [List.take_length, hcount] at *
                
                (repeat' (first | (refine hK _ ?_; clear hK K) | (refine aw_seq (fun K hK => ?_)) | (refine gR ?_; refine regS ?_) | (refine stk_op (fun K hK => ?_); (first | (refine aop_pv (pv_neq (by rfl) (by rfl)) ?_) | (refine aop_pv (pv_neqB (by rfl) (by rfl)) ?_) | (refine aop_pv (pv_neqA (by rfl) (by rfl) (by kernel_rfl)) ?_))) | (refine gE ?_; (first | (refine exN ?_) | (refine exS (fun _ => ?_)))) | (refine gQ ?_; (first | (refine condT ?_) | (refine condF ?_) | (refine condS (fun hc => ?_) (fun hc => ?_) <;> (try (first | contradiction | (exfalso; omega)))))) | (refine gW ?_; refine wopsS ?_) | (refine aw_block ?_) | (refine gX ?_; refine exitS ?_) | (refine gT ?_; refine retS ?_) | (refine gS ?_; refine skipS ?_) | (apply_assumption (exfalso := false) (symm := false))))
                refine ⟨k + 1, by omega, by omega, ?_⟩
                (refine atS ?_)
                (exact weakS)
          · obtain rfl : k = plan.length := by omega
            
            (repeat' (first | (refine hK _ ?_; clear hK K) | (refine aw_seq (fun K hK => ?_)) | (refine gR ?_; refine regS ?_) | (refine gE ?_; (first | (refine exN ?_) | (refine exS (fun _ => ?_)))) | (refine gG ?_; refine guardS (fun hc => ?_) (fun hc => ?_) <;> (try (first | contradiction | (exfalso; omega)))) | (refine gQ ?_; (first | (refine condT ?_) | (refine condF ?_) | (refine condS (fun hc => ?_) (fun hc => ?_) <;> (try (first | contradiction | (exfalso; omega)))))) | (refine gW ?_; refine wopsS ?_) | (refine aw_block ?_) | (refine gX ?_; refine exitS ?_) | (refine gT ?_; refine retS ?_) | (refine gS ?_; refine skipS ?_) | (apply_assumption (exfalso := false) (symm := false))))
            (refine fin_le (Le.refl _) (rv_one (rv1_tmp (by rfl))) (by first | rfl | (simp only [go_sem, Nat.reduceAdd, Nat.reduceMul, reduceIte, Nat.reduceEqDiff, Nat.reduceLeDiff, Int.reduceToNat, Int.reducePow, Int.reduceBEq, Int.reduceBNe, Int.reduceLT, Int.reduceLE, decide_true, decide_false])) ?_)
            rfl
      · have hplay := play_no t t.init plan hpl
        have hpc := playF_code hpl
        generalize playF t t.init plan = p at *
        generalize coverT t.facts.toNat ls = cs at *
        generalize taskM t cs = m at *
        generalize fromL t cs = f at *
        
        
        
        (refine enterS Try.func5 Try.ntmps5 ?_)
        
        (repeat' (first | (refine hK _ ?_; clear hK K) | (refine aw_seq (fun K hK => ?_)) | (refine gR ?_; refine regS ?_) | (refine gC 11 ?_; refine callS (hm2) ?_) | (refine gC 7 ?_; refine callS (encodes_pc) ?_) | (refine gC 18 ?_; refine callS (hplay) ?_) | (refine stk_op (fun K hK => ?_); (first | (refine aop_pv (pv_fieldAddrF (by rfl) (by rfl) (by first | decide | (simp; done) | (simp; omega))) ?_) | (refine aop_pv (pv_fieldAddrIF (by rfl) (by rfl) (by first | decide | (simp; done) | (simp; omega))) ?_) | (refine aop_pv (pv_neq (by rfl) (by rfl)) ?_) | (refine aop_pv (pv_neqB (by rfl) (by rfl)) ?_) | (refine aop_pv (pv_neqA (by rfl) (by rfl) (by kernel_rfl)) ?_) | (refine aop_pv (pv_eql (by rfl) (by rfl)) ?_) | (refine aop_pv (pv_eqlB (by rfl) (by rfl)) ?_) | (refine aop_pv (pv_eqlA (by rfl) (by rfl) (by kernel_rfl)) ?_))) | (refine gE ?_; (first | (refine exN ?_) | (refine exS (fun _ => ?_)))) | (refine gG ?_; refine guardS (fun hc => ?_) (fun hc => ?_) <;> (try (first | contradiction | (exfalso; omega)))) | (refine gQ ?_; (first | (refine condT ?_) | (refine condF ?_) | (refine condS (fun hc => ?_) (fun hc => ?_) <;> (try (first | contradiction | (exfalso; omega)))))) | (refine gW ?_; refine wopsS ?_) | (refine aw_block ?_) | (refine gX ?_; refine exitS ?_) | (refine gT ?_; refine retS ?_) | (refine gS ?_; refine skipS ?_) | (apply_assumption (exfalso := false) (symm := false))))
        (refine fin_le (Le.refl _) (rv_one (rv1_tmp (by rfl))) (by first | rfl | (simp only [go_sem, Nat.reduceAdd, Nat.reduceMul, reduceIte, Nat.reduceEqDiff, Nat.reduceLeDiff, Int.reduceToNat, Int.reducePow, Int.reduceBEq, Int.reduceBNe, Int.reduceLT, Int.reduceLE, decide_true, decide_false])) ?_)
        rfl
  · have hc := gf_code h
    have hm := multi_no t ls h
    generalize groupsFault t ls = p at *
    
    
    (refine enterS Try.func5 Try.ntmps5 ?_)
    
    (repeat' (first | (refine hK _ ?_; clear hK K) | (refine aw_seq (fun K hK => ?_)) | (refine gR ?_; refine regS ?_) | (refine gC 11 ?_; refine callS (hm) ?_) | (refine gC 7 ?_; refine callS (encodes_pc) ?_) | (refine stk_op (fun K hK => ?_); (first | (refine aop_pv (pv_fieldAddrF (by rfl) (by rfl) (by first | decide | (simp; done) | (simp; omega))) ?_) | (refine aop_pv (pv_fieldAddrIF (by rfl) (by rfl) (by first | decide | (simp; done) | (simp; omega))) ?_) | (refine aop_pv (pv_neq (by rfl) (by rfl)) ?_) | (refine aop_pv (pv_neqB (by rfl) (by rfl)) ?_) | (refine aop_pv (pv_neqA (by rfl) (by rfl) (by kernel_rfl)) ?_) | (refine aop_pv (pv_eql (by rfl) (by rfl)) ?_) | (refine aop_pv (pv_eqlB (by rfl) (by rfl)) ?_) | (refine aop_pv (pv_eqlA (by rfl) (by rfl) (by kernel_rfl)) ?_))) | (refine gE ?_; (first | (refine exN ?_) | (refine exS (fun _ => ?_)))) | (refine gG ?_; refine guardS (fun hc => ?_) (fun hc => ?_) <;> (try (first | contradiction | (exfalso; omega)))) | (refine gQ ?_; (first | (refine condT ?_) | (refine condF ?_) | (refine condS (fun hc => ?_) (fun hc => ?_) <;> (try (first | contradiction | (exfalso; omega)))))) | (refine gW ?_; refine wopsS ?_) | (refine aw_block ?_) | (refine gX ?_; refine exitS ?_) | (refine gT ?_; refine retS ?_) | (refine gS ?_; refine skipS ?_) | (apply_assumption (exfalso := false) (symm := false))))
    (refine fin_le (Le.refl _) (rv_one (rv1_tmp (by rfl))) (by first | rfl | (simp only [go_sem, Nat.reduceAdd, Nat.reduceMul, reduceIte, Nat.reduceEqDiff, Nat.reduceLeDiff, Int.reduceToNat, Int.reducePow, Int.reduceBEq, Int.reduceBNe, Int.reduceLT, Int.reduceLE, decide_true, decide_false])) ?_)
    rfl


end Go.Proofs.Ytpnpnbbanfgpgaa
