import Derived.Test.YtokmhfjledbglaaWth



namespace Go.Proofs.Ytokmhfjledbglaa
open Go.Ab
open Go
set_option linter.unusedSimpArgs false
set_option linter.unusedVariables false
set_option maxRecDepth 10000
attribute [local irreducible] PV AOp AOps AW PCall OCall MCall WCall Ab.Fin OFin OFin2 MFin RV RV1 Le AStk AGrd ADr ADx ADo AOpX AAny
set_option maxHeartbeats 4000000
/-! row 40 -/
theorem found_nodup {G : List Int → Bool} {n : Nat} : (foundL G n).Nodup := by
  have hp2 : 0 < 2 ^ n := Nat.pow_pos (by omega)
  unfold foundL
  refine List.Pairwise.map _ (fun a b h => h) (((foundK_pw (Nat.sub_le _ _)).imp_of_mem fun {a b} ha hb h => ?_))
  exact fun he => by
    have := setW_inj ((mem_foundK (Nat.sub_le _ _)).1 ha).2.1 ((mem_foundK (Nat.sub_le _ _)).1 hb).2.1 he
    omega
/-- What the law asks of the groups that are found. -/
structure LargeOk (t : Task) (ls : List (List Int)) : Prop where
  set : ∀ l ∈ ls, isSet l t.facts = true
  grp : ∀ l ∈ ls, groupB t l = true
  two : ∀ l ∈ ls, 2 ≤ l.length
  more : ∀ l ∈ ls, ∀ p : Int, 0 ≤ p → p < t.facts → ¬ p ∈ l → isSet (insL l p) t.facts = true ∧ groupB t (insL l p) = false
  anti : ∀ i k (hi : i < ls.length) (hk : k < ls.length), i ≠ k → subB ls[i] ls[k] = false
  few : ls.length ≤ 1024
theorem large_ok {t : Task} {ls : List (List Int)} (hw : WfT t) (h10 : t.facts ≤ 10) (hp : ls.Perm (foundL (groupB t) t.facts.toNat)) : LargeOk t ls := by
  have h0 := hw.f0
  have hf : ((t.facts.toNat : Nat) : Int) = t.facts := by omega
  have hm : ∀ l ∈ ls, (l.Pairwise (· < ·) ∧ (∀ x ∈ l, 0 ≤ x ∧ x < t.facts) ∧ 2 ≤ l.length ∧ groupB t l = true) ∧ ∀ b ∈ candL (groupB t) t.facts.toNat, (∀ x ∈ l, x ∈ b) → b = l := fun l hl => by
    have := mem_found.1 (hp.mem_iff.1 hl)
    rw [mem_cand, hf] at this
    exact this
  refine ⟨fun l hl => ?_, fun l hl => (hm l hl).1.2.2.2, fun l hl => (hm l hl).1.2.2.1, fun l hl p h1 h2 h3 => ?_, fun i k hi hk hne => ?_, ?_⟩
  · exact isSet_iff.2 ⟨(hm l hl).1.2.1, (hm l hl).1.1⟩
  · obtain ⟨⟨q1, q2, q3, q4⟩, q5⟩ := hm l hl
    have hpw := insL_pw q1 h3
    have hr : ∀ x ∈ insL l p, 0 ≤ x ∧ x < t.facts := fun x hx => by
      rcases insL_mem.1 hx with h | rfl
      · exact q2 x h
      · exact ⟨h1, h2⟩
    refine ⟨isSet_iff.2 ⟨hr, hpw⟩, ?_⟩
    cases hg : groupB t (insL l p) with
    | false => rfl
    | true =>
      exfalso
      have hlen : 2 ≤ (insL l p).length := by
        have := sub_list q1 hpw fun x hx => insL_mem.2 (.inl hx)
        have := this.length_le
        omega
      have := q5 (insL l p) (by rw [mem_cand, hf]; exact ⟨hpw, hr, hlen, hg⟩) fun x hx => insL_mem.2 (.inl hx)
      apply h3
      rw [← this]
      exact insL_mem.2 (.inr rfl)
  · cases hs : subB ls[i] ls[k] with
    | false => rfl
    | true =>
      exfalso
      have he := found_anti (hp.mem_iff.1 (List.getElem_mem hi)) (hp.mem_iff.1 (List.getElem_mem hk)) (subB_iff.1 hs)
      have hnd : ls.Nodup := hp.nodup_iff.2 found_nodup
      rw [List.Nodup, List.pairwise_iff_getElem] at hnd
      rcases Nat.lt_or_gt_of_ne hne with h | h
      · exact hnd i k hi hk h he
      · exact hnd k i hk hi h he.symm
  · have hn : 2 ^ t.facts.toNat ≤ 1024 := Nat.pow_le_pow_right (i := t.facts.toNat) (j := 10) (by omega) (by omega)
    rw [hp.length_eq]
    unfold foundL
    rw [List.length_map]
    have := foundK_len (good := goodW (groupB t) t.facts.toNat) (n := t.facts.toNat) (k := 2 ^ t.facts.toNat - 1)
    omega

theorem largeLaw_pc (t : Task) (p : Int) (hp : -9223372036854775808 ≤ p ∧ p ≤ 9223372036854775807) : PCall Try.prog 4 [t.av, .int p] (fun r => r = .bool true) := by
  by_cases hf : taskFault t = (0, 0)
  · have hw := taskFault_ok.1 hf
    have h0 := hw.f0
    by_cases h10 : t.facts ≤ 10
    · have hfind := (find_ok t hw h10).mono fun r ⟨ls, h1, _, h3⟩ => (⟨ls, large_ok hw h10 h1, h3⟩ : ∃ ls : List (List Int), LargeOk t ls ∧ r = AV.tup [rows ls, fault 0 0])
      
      (refine enterS Try.func4 Try.ntmps4 ?_)
      
      (repeat' (first | (refine hK _ ?_; clear hK K) | (refine aw_seq (fun K hK => ?_)) | (refine gR ?_; refine regS ?_) | (refine gC 11 ?_; refine callS (groups_pc) ?_) | (refine stk_op (fun K hK => ?_); (first | (refine aop_call (hfind) (by rfl) (fun x hx => ?_); obtain ⟨ls, hl, rfl⟩ := hx) | (refine aop_pv (pv_fieldAddrF (by rfl) (by rfl) (by first | decide | (simp; done) | (simp; omega))) ?_) | (refine aop_pv (pv_fieldAddrIF (by rfl) (by rfl) (by first | decide | (simp; done) | (simp; omega))) ?_) | (refine aop_pv (pv_neq (by rfl) (by rfl)) ?_) | (refine aop_pv (pv_neqB (by rfl) (by rfl)) ?_) | (refine aop_pv (pv_neqA (by rfl) (by rfl) (by kernel_rfl)) ?_) | (refine aop_pv (pv_eql (by rfl) (by rfl)) ?_) | (refine aop_pv (pv_eqlB (by rfl) (by rfl)) ?_) | (refine aop_pv (pv_eqlA (by rfl) (by rfl) (by kernel_rfl)) ?_))) | (refine gE ?_; (first | (refine exN ?_) | (refine exS (fun _ => ?_)))) | (refine gG ?_; refine guardS (fun hc => ?_) (fun hc => ?_) <;> (try (first | contradiction | (exfalso; omega)))) | (refine gQ ?_; (first | (refine condT ?_) | (refine condF ?_) | (refine condS (fun hc => ?_) (fun hc => ?_) <;> (try (first | contradiction | (exfalso; omega)))))) | (refine gW ?_; refine wopsS ?_) | (refine aw_block ?_) | (refine gX ?_; refine exitS ?_) | (refine gT ?_; refine retS ?_) | (refine gS ?_; refine skipS ?_) | (apply_assumption (exfalso := false) (symm := false))))
      have hfew := hl.few
      refine aw_loop_at [4, 7, 8, 9, 10, 11, 12, 31, 32, 33, 34, 35, 36, 37, 38, 39, 40, 41, 42, 43, 44, 45, 46, 47, 48, 49, 50, 51, 52, 53, 54, 55, 56, 57, 58, 59, 60, 61, 62, 63, 64, 65, 66, 67, 68, 69, 70, 71, 72, 73, 74, 75, 76, 77, 78, 79, 80, 81, 82, 83, 84, 85, 86, 87, 88, 89, 90, 91, 92, 93, 94, 95, 96, 97, 98, 99, 100, 101, 102, 103, 104, 105, 106, 107, 108, 109, 110, 111] (fun i : Nat => i ≤ ls.length) (fun i => ls.length - i) (fun i => [(7, .int i)]) (fun _ => [(2, ⟨25, t.cs, true⟩), (6, ⟨27, [.int 0, .int 0], true⟩)]) 0 (by omega) ?_ ?_
      · (refine atS ?_)
        (exact weakS)
      · rintro i hi K hK
        (refine atS ?_)
        by_cases hlt : i < ls.length
        · have hm := List.getElem_mem hlt
          have h1 := hl.set _ hm
          have hi1 := ind_ok t ls[i] hw h1
          rw [hl.grp _ hm] at hi1
          have h2 := hl.two _ hm
          have hll := set_len h1 hw.f0 hw.f1
          have hmo := hl.more _ hm p
          have hant := fun k (hk : k < ls.length) (hne : i ≠ k) => hl.anti i k hlt hk hne
          
          
          
          have hin := in_pc p 0 (t.facts - 1)
          have hhs := has_pc ls[i] p
          have hmo2 : inB p 0 (t.facts - 1) = true → hasB ls[i] p = false → (isSet (insL ls[i] p) t.facts = true ∧ groupB t (insL ls[i] p) = false) ∧ ¬ p ∈ ls[i] := fun h1 h2 => by
            rw [inB_t] at h1
            rw [hasB_f] at h2
            exact ⟨hmo (by omega) (by omega) h2, h2⟩
          clear hmo
          generalize inB p 0 (t.facts - 1) = b1 at *
          generalize hasB ls[i] p = b2 at *
          
          
          
          cases b1
          · clear hmo2
            
            (repeat' (first | (refine hK _ ?_; clear hK K) | (refine aw_seq (fun K hK => ?_)) | (refine gR ?_; refine regS ?_) | (refine gD 7 ?_; refine drE (s1 := ?_) (.it 0 0 (.it 1 0 (.it 2 0 (.it 3 0 (.it 4 0 (.fk 5 9 (.it 6 0 (.it 7 0 (.it 8 0 (.it 9 1 (.it 10 0 (.it 11 3 .nil)))))) (.it 5 1 (.it 6 0 (.it 7 0 (.it 8 0 (.it 10 0 (.it 11 3 .nil)))))))))))) [0, 1, 2, 3, 4, 6, 7, 8, 10] ?_ ?_; rotate_left) | (refine gD 11 ?_; refine drE (s1 := ?_) (.it 0 0 (.it 1 0 (.it 2 0 (.it 3 0 (.it 4 0 (.it 5 0 (.fk 6 11 (.fk 7 11 (.it 8 0 (.it 9 0 (.it 10 0 (.it 11 1 (.it 12 0 (.it 13 3 .nil)))))) (.it 7 1 (.it 8 0 (.it 9 0 (.it 10 0 (.it 12 0 (.it 13 3 .nil))))))) (.it 6 1 (.it 7 1 (.it 8 0 (.it 9 0 (.it 10 0 (.it 12 0 (.it 13 3 .nil)))))))))))))) [0, 1, 2, 3, 4, 5, 8, 9, 10, 12] ?_ ?_; rotate_left) | (refine gCd 10 ?_; refine callD (hi1) ?_) | (refine gC 16 ?_; refine callS (hin) ?_) | (refine gC 17 ?_; refine callS (hhs) ?_) | (refine stk_op (fun K hK => ?_); (first | (refine aop_pv (pv_fieldAddrF (by rfl) (by rfl) (by first | decide | (simp; done) | (simp; omega))) ?_) | (refine aop_pv (pv_fieldAddrIF (by rfl) (by rfl) (by first | decide | (simp; done) | (simp; omega))) ?_) | (refine aop_pv (pv_neq (by rfl) (by rfl)) ?_) | (refine aop_pv (pv_neqB (by rfl) (by rfl)) ?_) | (refine aop_pv (pv_neqA (by rfl) (by rfl) (by kernel_rfl)) ?_))) | (refine adx_op (fun K hK => ?_); (first | (refine aopx_alloc (d := 9) 9 (by first | rfl | (simp only [go_sem, Nat.reduceAdd, Nat.reduceMul, reduceIte, Nat.reduceEqDiff, Nat.reduceLeDiff, Int.reduceToNat, Int.reducePow, Int.reduceBEq, Int.reduceBNe, Int.reduceLT, Int.reduceLE, decide_true, decide_false]; done) | (simp only [go_sem, Nat.reduceAdd, Nat.reduceMul, reduceIte, Nat.reduceEqDiff, Nat.reduceLeDiff, Int.reduceToNat, Int.reducePow, Int.reduceBEq, Int.reduceBNe, Int.reduceLT, Int.reduceLE, decide_true, decide_false]; rfl) | (simp [St.free, mentHp, AV.mentL, AV.ment])) ?_) | (refine aopx_alloc (d := 11) 11 (by first | rfl | (simp only [go_sem, Nat.reduceAdd, Nat.reduceMul, reduceIte, Nat.reduceEqDiff, Nat.reduceLeDiff, Int.reduceToNat, Int.reducePow, Int.reduceBEq, Int.reduceBNe, Int.reduceLT, Int.reduceLE, decide_true, decide_false]; done) | (simp only [go_sem, Nat.reduceAdd, Nat.reduceMul, reduceIte, Nat.reduceEqDiff, Nat.reduceLeDiff, Int.reduceToNat, Int.reducePow, Int.reduceBEq, Int.reduceBNe, Int.reduceLT, Int.reduceLE, decide_true, decide_false]; rfl) | (simp [St.free, mentHp, AV.mentL, AV.ment])) ?_))) | (refine And.intro ?_ ?_) | (refine gDx ?_; refine adxS ?_) | (refine gO ?_; refine adoS ?_) | (refine gL ?_; (first | exact Le.refl _ | exact weakS)) | (refine gE ?_; (first | (refine Exists.intro hlt ?_) | (refine exN ?_) | (refine exS (fun _ => ?_)))) | (refine gG ?_; refine guardS (fun hc => ?_) (fun hc => ?_) <;> (try (first | contradiction | (exfalso; omega)))) | (refine gQ ?_; (first | (refine condT ?_) | (refine condF ?_) | (refine condS (fun hc => ?_) (fun hc => ?_) <;> (try (first | contradiction | (exfalso; omega)))))) | (refine gWd ?_; refine wdrS ?_) | (refine gW ?_; refine wopsS ?_) | (refine aw_block ?_) | (refine gX ?_; refine exitS ?_) | (refine gT ?_; refine retS ?_) | (refine gS ?_; refine skipS ?_) | (apply_assumption (exfalso := false) (symm := false))))
            refine aw_loop_at [4, 12, 92, 93, 94, 95, 96, 97, 98, 99, 100, 101, 102, 103, 104, 105, 106, 107, 108, 109, 110, 111] (fun k : Nat => k ≤ ls.length) (fun k => ls.length - k) (fun k => [(12, .int k)]) (fun _ => [(2, ⟨25, t.cs, true⟩), (6, ⟨27, [.int 0, .int 0], true⟩)]) 0 (by omega) ?_ ?_
            · (refine atS ?_)
              (exact weakS)
            · rintro k hk K hK
              (refine atS ?_)
              by_cases hkt : k < ls.length
              · have hkk := hant k hkt
                
                
                by_cases hik : k = i
                · (repeat' (first | (refine hK _ ?_; clear hK K) | (refine aw_seq (fun K hK => ?_)) | (refine gR ?_; refine regS ?_) | (refine gD 17 ?_; refine drS (.it 0 0 (.it 1 0 (.it 2 0 (.it 3 0 (.it 4 0 (.it 5 0 (.it 6 0 (.it 7 0 (.it 8 0 (.it 9 0 (.it 10 0 (.it 11 0 (.it 12 2 (.it 13 0 .nil)))))))))))))) [0, 1, 2, 3, 4, 5, 6, 7, 8, 9, 10, 11, 12, 13] ?_) | (refine adx_op (fun K hK => ?_); (first | (refine aopx_pv (pv_neq (by rfl) (by rfl)) ?_) | (refine aopx_pv (pv_neqB (by rfl) (by rfl)) ?_) | (refine aopx_pv (pv_neqA (by rfl) (by rfl) (by kernel_rfl)) ?_))) | (refine And.intro ?_ ?_) | (refine gDx ?_; refine adxS ?_) | (refine gE ?_; (first | (refine Exists.intro hlt ?_) | (refine Exists.intro hkt ?_) | (refine exN ?_) | (refine exS (fun _ => ?_)))) | (refine gGd ?_; refine guardD (fun hc => ?_) (fun hc => ?_) <;> (try (first | contradiction | (exfalso; omega)))) | (refine gQ ?_; (first | (refine condT ?_) | (refine condF ?_) | (refine condS (fun hc => ?_) (fun hc => ?_) <;> (try (first | contradiction | (exfalso; omega)))))) | (refine gWd ?_; refine wdrS ?_) | (refine gW ?_; refine wopsS ?_) | (refine aw_block ?_) | (refine gX ?_; refine exitS ?_) | (refine gT ?_; refine retS ?_) | (refine gS ?_; refine skipS ?_) | (apply_assumption (exfalso := false) (symm := false))))
                  (refine ⟨k + 1, by omega, by omega, ?_⟩; (refine atS ?_); (exact weakS))
                · have hss := subset_pc ls[i] ls[k]
                  rw [hkk (by omega)] at hss
                  
                  
                  (repeat' (first | (refine hK _ ?_; clear hK K) | (refine aw_seq (fun K hK => ?_)) | (refine gR ?_; refine regS ?_) | (refine gD 17 ?_; refine drS (.it 0 0 (.it 1 0 (.it 2 0 (.it 3 0 (.it 4 0 (.it 5 0 (.it 6 0 (.it 7 0 (.it 8 0 (.it 9 0 (.it 10 0 (.it 11 0 (.it 12 2 (.it 13 0 .nil)))))))))))))) [0, 1, 2, 3, 4, 5, 6, 7, 8, 9, 10, 11, 12, 13] ?_) | (refine gCd 19 ?_; refine callD (hss) ?_) | (refine adx_op (fun K hK => ?_); (first | (refine aopx_pv (pv_neq (by rfl) (by rfl)) ?_) | (refine aopx_pv (pv_neqB (by rfl) (by rfl)) ?_) | (refine aopx_pv (pv_neqA (by rfl) (by rfl) (by kernel_rfl)) ?_))) | (refine And.intro ?_ ?_) | (refine gDx ?_; refine adxS ?_) | (refine gE ?_; (first | (refine Exists.intro hlt ?_) | (refine Exists.intro hkt ?_) | (refine exN ?_) | (refine exS (fun _ => ?_)))) | (refine gGd ?_; refine guardD (fun hc => ?_) (fun hc => ?_) <;> (try (first | contradiction | (exfalso; omega)))) | (refine gQ ?_; (first | (refine condT ?_) | (refine condF ?_) | (refine condS (fun hc => ?_) (fun hc => ?_) <;> (try (first | contradiction | (exfalso; omega)))))) | (refine gWd ?_; refine wdrS ?_) | (refine gW ?_; refine wopsS ?_) | (refine aw_block ?_) | (refine gX ?_; refine exitS ?_) | (refine gT ?_; refine retS ?_) | (refine gS ?_; refine skipS ?_) | (apply_assumption (exfalso := false) (symm := false))))
                  (refine ⟨k + 1, by omega, by omega, ?_⟩; (refine atS ?_); (exact weakS))
              · 
                (repeat' (first | (refine hK _ ?_; clear hK K) | (refine aw_seq (fun K hK => ?_)) | (refine gR ?_; refine regS ?_) | (refine gE ?_; (first | (refine Exists.intro hlt ?_) | (refine Exists.intro hkt ?_) | (refine exN ?_) | (refine exS (fun _ => ?_)))) | (refine gQ ?_; (first | (refine condT ?_) | (refine condF ?_) | (refine condS (fun hc => ?_) (fun hc => ?_) <;> (try (first | contradiction | (exfalso; omega)))))) | (refine gW ?_; refine wopsS ?_) | (refine aw_block ?_) | (refine gX ?_; refine exitS ?_) | (refine gT ?_; refine retS ?_) | (refine gS ?_; refine skipS ?_) | (apply_assumption (exfalso := false) (symm := false))))
                (refine ⟨i + 1, by omega, by omega, ?_⟩; (refine atS ?_); (exact weakS))
          cases b2
          · obtain ⟨⟨h3, h4⟩, h5⟩ := hmo2 rfl rfl
            clear hmo2
            have hwi := withI_pc ls[i] p h5 hll
            have hi2 := ind_ok t (insL ls[i] p) hw h3
            rw [h4] at hi2
            
            
            
            (repeat' (first | (refine hK _ ?_; clear hK K) | (refine aw_seq (fun K hK => ?_)) | (refine gR ?_; refine regS ?_) | (refine gD 7 ?_; refine drE (s1 := ?_) (.it 0 0 (.it 1 0 (.it 2 0 (.it 3 0 (.it 4 0 (.fk 5 9 (.it 6 0 (.it 7 0 (.it 8 0 (.it 9 1 (.it 10 0 (.it 11 3 .nil)))))) (.it 5 1 (.it 6 0 (.it 7 0 (.it 8 0 (.it 10 0 (.it 11 3 .nil)))))))))))) [0, 1, 2, 3, 4, 6, 7, 8, 10] ?_ ?_; rotate_left) | (refine gD 11 ?_; refine drE (s1 := ?_) (.it 0 0 (.it 1 0 (.it 2 0 (.it 3 0 (.it 4 0 (.it 5 0 (.fk 6 11 (.fk 7 11 (.it 8 0 (.it 9 0 (.it 10 0 (.it 11 1 (.it 12 0 (.it 13 3 .nil)))))) (.it 7 1 (.it 8 0 (.it 9 0 (.it 10 0 (.it 12 0 (.it 13 3 .nil))))))) (.it 6 1 (.it 7 1 (.it 8 0 (.it 9 0 (.it 10 0 (.it 12 0 (.it 13 3 .nil)))))))))))))) [0, 1, 2, 3, 4, 5, 8, 9, 10, 12] ?_ ?_; rotate_left) | (refine gCd 10 ?_; refine callD (hi1) ?_) | (refine gCd 10 ?_; refine callD (hi2) ?_) | (refine gC 16 ?_; refine callS (hin) ?_) | (refine gC 17 ?_; refine callS (hhs) ?_) | (refine gCd 18 ?_; refine callD (hwi) ?_) | (refine stk_op (fun K hK => ?_); (first | (refine aop_pv (pv_fieldAddrF (by rfl) (by rfl) (by first | decide | (simp; done) | (simp; omega))) ?_) | (refine aop_pv (pv_fieldAddrIF (by rfl) (by rfl) (by first | decide | (simp; done) | (simp; omega))) ?_) | (refine aop_pv (pv_neq (by rfl) (by rfl)) ?_) | (refine aop_pv (pv_neqB (by rfl) (by rfl)) ?_) | (refine aop_pv (pv_neqA (by rfl) (by rfl) (by kernel_rfl)) ?_))) | (refine adx_op (fun K hK => ?_); (first | (refine aopx_alloc (d := 9) 9 (by first | rfl | (simp only [go_sem, Nat.reduceAdd, Nat.reduceMul, reduceIte, Nat.reduceEqDiff, Nat.reduceLeDiff, Int.reduceToNat, Int.reducePow, Int.reduceBEq, Int.reduceBNe, Int.reduceLT, Int.reduceLE, decide_true, decide_false]; done) | (simp only [go_sem, Nat.reduceAdd, Nat.reduceMul, reduceIte, Nat.reduceEqDiff, Nat.reduceLeDiff, Int.reduceToNat, Int.reducePow, Int.reduceBEq, Int.reduceBNe, Int.reduceLT, Int.reduceLE, decide_true, decide_false]; rfl) | (simp [St.free, mentHp, AV.mentL, AV.ment])) ?_) | (refine aopx_alloc (d := 11) 11 (by first | rfl | (simp only [go_sem, Nat.reduceAdd, Nat.reduceMul, reduceIte, Nat.reduceEqDiff, Nat.reduceLeDiff, Int.reduceToNat, Int.reducePow, Int.reduceBEq, Int.reduceBNe, Int.reduceLT, Int.reduceLE, decide_true, decide_false]; done) | (simp only [go_sem, Nat.reduceAdd, Nat.reduceMul, reduceIte, Nat.reduceEqDiff, Nat.reduceLeDiff, Int.reduceToNat, Int.reducePow, Int.reduceBEq, Int.reduceBNe, Int.reduceLT, Int.reduceLE, decide_true, decide_false]; rfl) | (simp [St.free, mentHp, AV.mentL, AV.ment])) ?_))) | (refine And.intro ?_ ?_) | (refine gDx ?_; refine adxS ?_) | (refine gO ?_; refine adoS ?_) | (refine gL ?_; (first | exact Le.refl _ | exact weakS)) | (refine gE ?_; (first | (refine Exists.intro hlt ?_) | (refine Exists.intro hkt ?_) | (refine exN ?_) | (refine exS (fun _ => ?_)))) | (refine gG ?_; refine guardS (fun hc => ?_) (fun hc => ?_) <;> (try (first | contradiction | (exfalso; omega)))) | (refine gQ ?_; (first | (refine condT ?_) | (refine condF ?_) | (refine condS (fun hc => ?_) (fun hc => ?_) <;> (try (first | contradiction | (exfalso; omega)))))) | (refine gWd ?_; refine wdrS ?_) | (refine gW ?_; refine wopsS ?_) | (refine aw_block ?_) | (refine gX ?_; refine exitS ?_) | (refine gT ?_; refine retS ?_) | (refine gS ?_; refine skipS ?_) | (apply_assumption (exfalso := false) (symm := false))))
            refine aw_loop_at [4, 12, 92, 93, 94, 95, 96, 97, 98, 99, 100, 101, 102, 103, 104, 105, 106, 107, 108, 109, 110, 111] (fun k : Nat => k ≤ ls.length) (fun k => ls.length - k) (fun k => [(12, .int k)]) (fun _ => [(2, ⟨25, t.cs, true⟩), (6, ⟨27, [.int 0, .int 0], true⟩)]) 0 (by omega) ?_ ?_
            · (refine atS ?_)
              (exact weakS)
            · rintro k hk K hK
              (refine atS ?_)
              by_cases hkt : k < ls.length
              · have hkk := hant k hkt
                
                
                by_cases hik : k = i
                · (repeat' (first | (refine hK _ ?_; clear hK K) | (refine aw_seq (fun K hK => ?_)) | (refine gR ?_; refine regS ?_) | (refine gD 17 ?_; refine drS (.it 0 0 (.it 1 0 (.it 2 0 (.it 3 0 (.it 4 0 (.it 5 0 (.it 6 0 (.it 7 0 (.it 8 0 (.it 9 0 (.it 10 0 (.it 11 0 (.it 12 2 (.it 13 0 .nil)))))))))))))) [0, 1, 2, 3, 4, 5, 6, 7, 8, 9, 10, 11, 12, 13] ?_) | (refine gCd 19 ?_; refine callD (hss) ?_) | (refine adx_op (fun K hK => ?_); (first | (refine aopx_pv (pv_neq (by rfl) (by rfl)) ?_) | (refine aopx_pv (pv_neqB (by rfl) (by rfl)) ?_) | (refine aopx_pv (pv_neqA (by rfl) (by rfl) (by kernel_rfl)) ?_))) | (refine And.intro ?_ ?_) | (refine gDx ?_; refine adxS ?_) | (refine gE ?_; (first | (refine Exists.intro hlt ?_) | (refine Exists.intro hkt ?_) | (refine exN ?_) | (refine exS (fun _ => ?_)))) | (refine gGd ?_; refine guardD (fun hc => ?_) (fun hc => ?_) <;> (try (first | contradiction | (exfalso; omega)))) | (refine gQ ?_; (first | (refine condT ?_) | (refine condF ?_) | (refine condS (fun hc => ?_) (fun hc => ?_) <;> (try (first | contradiction | (exfalso; omega)))))) | (refine gWd ?_; refine wdrS ?_) | (refine gW ?_; refine wopsS ?_) | (refine aw_block ?_) | (refine gX ?_; refine exitS ?_) | (refine gT ?_; refine retS ?_) | (refine gS ?_; refine skipS ?_) | (apply_assumption (exfalso := false) (symm := false))))
                  (refine ⟨k + 1, by omega, by omega, ?_⟩; (refine atS ?_); (exact weakS))
                · have hss := subset_pc ls[i] ls[k]
                  rw [hkk (by omega)] at hss
                  
                  
                  (repeat' (first | (refine hK _ ?_; clear hK K) | (refine aw_seq (fun K hK => ?_)) | (refine gR ?_; refine regS ?_) | (refine gD 17 ?_; refine drS (.it 0 0 (.it 1 0 (.it 2 0 (.it 3 0 (.it 4 0 (.it 5 0 (.it 6 0 (.it 7 0 (.it 8 0 (.it 9 0 (.it 10 0 (.it 11 0 (.it 12 2 (.it 13 0 .nil)))))))))))))) [0, 1, 2, 3, 4, 5, 6, 7, 8, 9, 10, 11, 12, 13] ?_) | (refine gCd 19 ?_; refine callD (hss) ?_) | (refine adx_op (fun K hK => ?_); (first | (refine aopx_pv (pv_neq (by rfl) (by rfl)) ?_) | (refine aopx_pv (pv_neqB (by rfl) (by rfl)) ?_) | (refine aopx_pv (pv_neqA (by rfl) (by rfl) (by kernel_rfl)) ?_))) | (refine And.intro ?_ ?_) | (refine gDx ?_; refine adxS ?_) | (refine gE ?_; (first | (refine Exists.intro hlt ?_) | (refine Exists.intro hkt ?_) | (refine exN ?_) | (refine exS (fun _ => ?_)))) | (refine gGd ?_; refine guardD (fun hc => ?_) (fun hc => ?_) <;> (try (first | contradiction | (exfalso; omega)))) | (refine gQ ?_; (first | (refine condT ?_) | (refine condF ?_) | (refine condS (fun hc => ?_) (fun hc => ?_) <;> (try (first | contradiction | (exfalso; omega)))))) | (refine gWd ?_; refine wdrS ?_) | (refine gW ?_; refine wopsS ?_) | (refine aw_block ?_) | (refine gX ?_; refine exitS ?_) | (refine gT ?_; refine retS ?_) | (refine gS ?_; refine skipS ?_) | (apply_assumption (exfalso := false) (symm := false))))
                  (refine ⟨k + 1, by omega, by omega, ?_⟩; (refine atS ?_); (exact weakS))
              · 
                (repeat' (first | (refine hK _ ?_; clear hK K) | (refine aw_seq (fun K hK => ?_)) | (refine gR ?_; refine regS ?_) | (refine gE ?_; (first | (refine Exists.intro hlt ?_) | (refine Exists.intro hkt ?_) | (refine exN ?_) | (refine exS (fun _ => ?_)))) | (refine gQ ?_; (first | (refine condT ?_) | (refine condF ?_) | (refine condS (fun hc => ?_) (fun hc => ?_) <;> (try (first | contradiction | (exfalso; omega)))))) | (refine gW ?_; refine wopsS ?_) | (refine aw_block ?_) | (refine gX ?_; refine exitS ?_) | (refine gT ?_; refine retS ?_) | (refine gS ?_; refine skipS ?_) | (apply_assumption (exfalso := false) (symm := false))))
                (refine ⟨i + 1, by omega, by omega, ?_⟩; (refine atS ?_); (exact weakS))
          · clear hmo2
            
            
            
            (repeat' (first | (refine hK _ ?_; clear hK K) | (refine aw_seq (fun K hK => ?_)) | (refine gR ?_; refine regS ?_) | (refine gD 7 ?_; refine drE (s1 := ?_) (.it 0 0 (.it 1 0 (.it 2 0 (.it 3 0 (.it 4 0 (.fk 5 9 (.it 6 0 (.it 7 0 (.it 8 0 (.it 9 1 (.it 10 0 (.it 11 3 .nil)))))) (.it 5 1 (.it 6 0 (.it 7 0 (.it 8 0 (.it 10 0 (.it 11 3 .nil)))))))))))) [0, 1, 2, 3, 4, 6, 7, 8, 10] ?_ ?_; rotate_left) | (refine gD 11 ?_; refine drE (s1 := ?_) (.it 0 0 (.it 1 0 (.it 2 0 (.it 3 0 (.it 4 0 (.it 5 0 (.fk 6 11 (.fk 7 11 (.it 8 0 (.it 9 0 (.it 10 0 (.it 11 1 (.it 12 0 (.it 13 3 .nil)))))) (.it 7 1 (.it 8 0 (.it 9 0 (.it 10 0 (.it 12 0 (.it 13 3 .nil))))))) (.it 6 1 (.it 7 1 (.it 8 0 (.it 9 0 (.it 10 0 (.it 12 0 (.it 13 3 .nil)))))))))))))) [0, 1, 2, 3, 4, 5, 8, 9, 10, 12] ?_ ?_; rotate_left) | (refine gCd 10 ?_; refine callD (hi1) ?_) | (refine gC 16 ?_; refine callS (hin) ?_) | (refine gC 17 ?_; refine callS (hhs) ?_) | (refine stk_op (fun K hK => ?_); (first | (refine aop_pv (pv_fieldAddrF (by rfl) (by rfl) (by first | decide | (simp; done) | (simp; omega))) ?_) | (refine aop_pv (pv_fieldAddrIF (by rfl) (by rfl) (by first | decide | (simp; done) | (simp; omega))) ?_) | (refine aop_pv (pv_neq (by rfl) (by rfl)) ?_) | (refine aop_pv (pv_neqB (by rfl) (by rfl)) ?_) | (refine aop_pv (pv_neqA (by rfl) (by rfl) (by kernel_rfl)) ?_))) | (refine adx_op (fun K hK => ?_); (first | (refine aopx_alloc (d := 9) 9 (by first | rfl | (simp only [go_sem, Nat.reduceAdd, Nat.reduceMul, reduceIte, Nat.reduceEqDiff, Nat.reduceLeDiff, Int.reduceToNat, Int.reducePow, Int.reduceBEq, Int.reduceBNe, Int.reduceLT, Int.reduceLE, decide_true, decide_false]; done) | (simp only [go_sem, Nat.reduceAdd, Nat.reduceMul, reduceIte, Nat.reduceEqDiff, Nat.reduceLeDiff, Int.reduceToNat, Int.reducePow, Int.reduceBEq, Int.reduceBNe, Int.reduceLT, Int.reduceLE, decide_true, decide_false]; rfl) | (simp [St.free, mentHp, AV.mentL, AV.ment])) ?_) | (refine aopx_alloc (d := 11) 11 (by first | rfl | (simp only [go_sem, Nat.reduceAdd, Nat.reduceMul, reduceIte, Nat.reduceEqDiff, Nat.reduceLeDiff, Int.reduceToNat, Int.reducePow, Int.reduceBEq, Int.reduceBNe, Int.reduceLT, Int.reduceLE, decide_true, decide_false]; done) | (simp only [go_sem, Nat.reduceAdd, Nat.reduceMul, reduceIte, Nat.reduceEqDiff, Nat.reduceLeDiff, Int.reduceToNat, Int.reducePow, Int.reduceBEq, Int.reduceBNe, Int.reduceLT, Int.reduceLE, decide_true, decide_false]; rfl) | (simp [St.free, mentHp, AV.mentL, AV.ment])) ?_))) | (refine And.intro ?_ ?_) | (refine gDx ?_; refine adxS ?_) | (refine gO ?_; refine adoS ?_) | (refine gL ?_; (first | exact Le.refl _ | exact weakS)) | (refine gE ?_; (first | (refine Exists.intro hlt ?_) | (refine Exists.intro hkt ?_) | (refine exN ?_) | (refine exS (fun _ => ?_)))) | (refine gG ?_; refine guardS (fun hc => ?_) (fun hc => ?_) <;> (try (first | contradiction | (exfalso; omega)))) | (refine gQ ?_; (first | (refine condT ?_) | (refine condF ?_) | (refine condS (fun hc => ?_) (fun hc => ?_) <;> (try (first | contradiction | (exfalso; omega)))))) | (refine gWd ?_; refine wdrS ?_) | (refine gW ?_; refine wopsS ?_) | (refine aw_block ?_) | (refine gX ?_; refine exitS ?_) | (refine gT ?_; refine retS ?_) | (refine gS ?_; refine skipS ?_) | (apply_assumption (exfalso := false) (symm := false))))
            refine aw_loop_at [4, 12, 92, 93, 94, 95, 96, 97, 98, 99, 100, 101, 102, 103, 104, 105, 106, 107, 108, 109, 110, 111] (fun k : Nat => k ≤ ls.length) (fun k => ls.length - k) (fun k => [(12, .int k)]) (fun _ => [(2, ⟨25, t.cs, true⟩), (6, ⟨27, [.int 0, .int 0], true⟩)]) 0 (by omega) ?_ ?_
            · (refine atS ?_)
              (exact weakS)
            · rintro k hk K hK
              (refine atS ?_)
              by_cases hkt : k < ls.length
              · have hkk := hant k hkt
                
                
                by_cases hik : k = i
                · (repeat' (first | (refine hK _ ?_; clear hK K) | (refine aw_seq (fun K hK => ?_)) | (refine gR ?_; refine regS ?_) | (refine gD 17 ?_; refine drS (.it 0 0 (.it 1 0 (.it 2 0 (.it 3 0 (.it 4 0 (.it 5 0 (.it 6 0 (.it 7 0 (.it 8 0 (.it 9 0 (.it 10 0 (.it 11 0 (.it 12 2 (.it 13 0 .nil)))))))))))))) [0, 1, 2, 3, 4, 5, 6, 7, 8, 9, 10, 11, 12, 13] ?_) | (refine gCd 19 ?_; refine callD (hss) ?_) | (refine adx_op (fun K hK => ?_); (first | (refine aopx_pv (pv_neq (by rfl) (by rfl)) ?_) | (refine aopx_pv (pv_neqB (by rfl) (by rfl)) ?_) | (refine aopx_pv (pv_neqA (by rfl) (by rfl) (by kernel_rfl)) ?_))) | (refine And.intro ?_ ?_) | (refine gDx ?_; refine adxS ?_) | (refine gE ?_; (first | (refine Exists.intro hlt ?_) | (refine Exists.intro hkt ?_) | (refine exN ?_) | (refine exS (fun _ => ?_)))) | (refine gGd ?_; refine guardD (fun hc => ?_) (fun hc => ?_) <;> (try (first | contradiction | (exfalso; omega)))) | (refine gQ ?_; (first | (refine condT ?_) | (refine condF ?_) | (refine condS (fun hc => ?_) (fun hc => ?_) <;> (try (first | contradiction | (exfalso; omega)))))) | (refine gWd ?_; refine wdrS ?_) | (refine gW ?_; refine wopsS ?_) | (refine aw_block ?_) | (refine gX ?_; refine exitS ?_) | (refine gT ?_; refine retS ?_) | (refine gS ?_; refine skipS ?_) | (apply_assumption (exfalso := false) (symm := false))))
                  (refine ⟨k + 1, by omega, by omega, ?_⟩; (refine atS ?_); (exact weakS))
                · have hss := subset_pc ls[i] ls[k]
                  rw [hkk (by omega)] at hss
                  
                  
                  (repeat' (first | (refine hK _ ?_; clear hK K) | (refine aw_seq (fun K hK => ?_)) | (refine gR ?_; refine regS ?_) | (refine gD 17 ?_; refine drS (.it 0 0 (.it 1 0 (.it 2 0 (.it 3 0 (.it 4 0 (.it 5 0 (.it 6 0 (.it 7 0 (.it 8 0 (.it 9 0 (.it 10 0 (.it 11 0 (.it 12 2 (.it 13 0 .nil)))))))))))))) [0, 1, 2, 3, 4, 5, 6, 7, 8, 9, 10, 11, 12, 13] ?_) | (refine gCd 19 ?_; refine callD (hss) ?_) | (refine adx_op (fun K hK => ?_); (first | (refine aopx_pv (pv_neq (by rfl) (by rfl)) ?_) | (refine aopx_pv (pv_neqB (by rfl) (by rfl)) ?_) | (refine aopx_pv (pv_neqA (by rfl) (by rfl) (by kernel_rfl)) ?_))) | (refine And.intro ?_ ?_) | (refine gDx ?_; refine adxS ?_) | (refine gE ?_; (first | (refine Exists.intro hlt ?_) | (refine Exists.intro hkt ?_) | (refine exN ?_) | (refine exS (fun _ => ?_)))) | (refine gGd ?_; refine guardD (fun hc => ?_) (fun hc => ?_) <;> (try (first | contradiction | (exfalso; omega)))) | (refine gQ ?_; (first | (refine condT ?_) | (refine condF ?_) | (refine condS (fun hc => ?_) (fun hc => ?_) <;> (try (first | contradiction | (exfalso; omega)))))) | (refine gWd ?_; refine wdrS ?_) | (refine gW ?_; refine wopsS ?_) | (refine aw_block ?_) | (refine gX ?_; refine exitS ?_) | (refine gT ?_; refine retS ?_) | (refine gS ?_; refine skipS ?_) | (apply_assumption (exfalso := false) (symm := false))))
                  (refine ⟨k + 1, by omega, by omega, ?_⟩; (refine atS ?_); (exact weakS))
              · 
                (repeat' (first | (refine hK _ ?_; clear hK K) | (refine aw_seq (fun K hK => ?_)) | (refine gR ?_; refine regS ?_) | (refine gE ?_; (first | (refine Exists.intro hlt ?_) | (refine Exists.intro hkt ?_) | (refine exN ?_) | (refine exS (fun _ => ?_)))) | (refine gQ ?_; (first | (refine condT ?_) | (refine condF ?_) | (refine condS (fun hc => ?_) (fun hc => ?_) <;> (try (first | contradiction | (exfalso; omega)))))) | (refine gW ?_; refine wopsS ?_) | (refine aw_block ?_) | (refine gX ?_; refine exitS ?_) | (refine gT ?_; refine retS ?_) | (refine gS ?_; refine skipS ?_) | (apply_assumption (exfalso := false) (symm := false))))
                (refine ⟨i + 1, by omega, by omega, ?_⟩; (refine atS ?_); (exact weakS))
        · 
          
          (repeat' (first | (refine hK _ ?_; clear hK K) | (refine aw_seq (fun K hK => ?_)) | (refine gR ?_; refine regS ?_) | (refine gE ?_; (first | (refine exN ?_) | (refine exS (fun _ => ?_)))) | (refine gQ ?_; (first | (refine condT ?_) | (refine condF ?_) | (refine condS (fun hc => ?_) (fun hc => ?_) <;> (try (first | contradiction | (exfalso; omega)))))) | (refine gW ?_; refine wopsS ?_) | (refine aw_block ?_) | (refine gX ?_; refine exitS ?_) | (refine gT ?_; refine retS ?_) | (refine gS ?_; refine skipS ?_) | (apply_assumption (exfalso := false) (symm := false))))
          (refine fin_le (Le.refl _) (rv_one (rv1_tmp (by rfl))) (by first | rfl | (simp only [go_sem, Nat.reduceAdd, Nat.reduceMul, reduceIte, Nat.reduceEqDiff, Nat.reduceLeDiff, Int.reduceToNat, Int.reducePow, Int.reduceBEq, Int.reduceBNe, Int.reduceLT, Int.reduceLE, decide_true, decide_false])) ?_)
          rfl
    · have hfind := find_many t hw (by omega)
      
      
      (refine enterS Try.func4 Try.ntmps4 ?_)
      
      (repeat' (first | (refine hK _ ?_; clear hK K) | (refine aw_seq (fun K hK => ?_)) | (refine gR ?_; refine regS ?_) | (refine gC 13 ?_; refine callS (hfind) ?_) | (refine gC 11 ?_; refine callS (groups_pc) ?_) | (refine stk_op (fun K hK => ?_); (first | (refine aop_pv (pv_fieldAddrF (by rfl) (by rfl) (by first | decide | (simp; done) | (simp; omega))) ?_) | (refine aop_pv (pv_fieldAddrIF (by rfl) (by rfl) (by first | decide | (simp; done) | (simp; omega))) ?_) | (refine aop_pv (pv_neq (by rfl) (by rfl)) ?_) | (refine aop_pv (pv_neqB (by rfl) (by rfl)) ?_) | (refine aop_pv (pv_neqA (by rfl) (by rfl) (by kernel_rfl)) ?_) | (refine aop_pv (pv_eql (by rfl) (by rfl)) ?_) | (refine aop_pv (pv_eqlB (by rfl) (by rfl)) ?_) | (refine aop_pv (pv_eqlA (by rfl) (by rfl) (by kernel_rfl)) ?_))) | (refine gE ?_; (first | (refine exN ?_) | (refine exS (fun _ => ?_)))) | (refine gG ?_; refine guardS (fun hc => ?_) (fun hc => ?_) <;> (try (first | contradiction | (exfalso; omega)))) | (refine gQ ?_; (first | (refine condT ?_) | (refine condF ?_) | (refine condS (fun hc => ?_) (fun hc => ?_) <;> (try (first | contradiction | (exfalso; omega)))))) | (refine gW ?_; refine wopsS ?_) | (refine aw_block ?_) | (refine gX ?_; refine exitS ?_) | (refine gT ?_; refine retS ?_) | (refine gS ?_; refine skipS ?_) | (apply_assumption (exfalso := false) (symm := false))))
      all_goals (refine fin_le (Le.refl _) (rv_one (rv1_tmp (by rfl))) (by first | rfl | (simp only [go_sem, Nat.reduceAdd, Nat.reduceMul, reduceIte, Nat.reduceEqDiff, Nat.reduceLeDiff, Int.reduceToNat, Int.reducePow, Int.reduceBEq, Int.reduceBNe, Int.reduceLT, Int.reduceLE, decide_true, decide_false])) ?_)
      all_goals rfl
  · have hfind := find_no t hf
    have hc := tf_code hf
    generalize taskFault t = q at *
    
    
    (refine enterS Try.func4 Try.ntmps4 ?_)
    
    (repeat' (first | (refine hK _ ?_; clear hK K) | (refine aw_seq (fun K hK => ?_)) | (refine gR ?_; refine regS ?_) | (refine gC 13 ?_; refine callS (hfind) ?_) | (refine gC 11 ?_; refine callS (groups_pc) ?_) | (refine stk_op (fun K hK => ?_); (first | (refine aop_pv (pv_fieldAddrF (by rfl) (by rfl) (by first | decide | (simp; done) | (simp; omega))) ?_) | (refine aop_pv (pv_fieldAddrIF (by rfl) (by rfl) (by first | decide | (simp; done) | (simp; omega))) ?_) | (refine aop_pv (pv_neq (by rfl) (by rfl)) ?_) | (refine aop_pv (pv_neqB (by rfl) (by rfl)) ?_) | (refine aop_pv (pv_neqA (by rfl) (by rfl) (by kernel_rfl)) ?_) | (refine aop_pv (pv_eql (by rfl) (by rfl)) ?_) | (refine aop_pv (pv_eqlB (by rfl) (by rfl)) ?_) | (refine aop_pv (pv_eqlA (by rfl) (by rfl) (by kernel_rfl)) ?_))) | (refine gE ?_; (first | (refine exN ?_) | (refine exS (fun _ => ?_)))) | (refine gG ?_; refine guardS (fun hc => ?_) (fun hc => ?_) <;> (try (first | contradiction | (exfalso; omega)))) | (refine gQ ?_; (first | (refine condT ?_) | (refine condF ?_) | (refine condS (fun hc => ?_) (fun hc => ?_) <;> (try (first | contradiction | (exfalso; omega)))))) | (refine gW ?_; refine wopsS ?_) | (refine aw_block ?_) | (refine gX ?_; refine exitS ?_) | (refine gT ?_; refine retS ?_) | (refine gS ?_; refine skipS ?_) | (apply_assumption (exfalso := false) (symm := false))))
    all_goals (refine fin_le (Le.refl _) (rv_one (rv1_tmp (by rfl))) (by first | rfl | (simp only [go_sem, Nat.reduceAdd, Nat.reduceMul, reduceIte, Nat.reduceEqDiff, Nat.reduceLeDiff, Int.reduceToNat, Int.reducePow, Int.reduceBEq, Int.reduceBNe, Int.reduceLT, Int.reduceLE, decide_true, decide_false])) ?_)
    all_goals rfl




end Go.Proofs.Ytokmhfjledbglaa
