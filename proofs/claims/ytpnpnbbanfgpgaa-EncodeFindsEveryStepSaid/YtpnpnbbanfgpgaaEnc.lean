import Derived.Test.YtpnpnbbanfgpgaaMul



namespace Go.Proofs.Ytpnpnbbanfgpgaa
open Go.Ab
open Go
set_option linter.unusedSimpArgs false
set_option linter.unusedVariables false
set_option maxRecDepth 10000
attribute [local irreducible] PV AOp AOps AW PCall OCall MCall WCall HCall Ab.Fin OFin OFin2 MFin HFin RV RV1 Le AStk AGrd ADr ADx ADo AOpX AAny
set_option maxHeartbeats 4000000
attribute [local go_sem] purge_appV cells_intsV cast_0 sealDL_app
/-! groups without a fault -/
theorem gf_ok {t : Task} {ls : List (List Int)} (h : groupsFault t ls = (0, 0)) : WfT t ∧ ls.length ≤ 24 ∧ ∀ l ∈ ls, isSet l t.facts = true ∧ groupB t l = true := by
  by_cases hf : taskFault t = (0, 0)
  · by_cases hl : 24 < ls.length
    · rw [gf_b hf hl] at h; cases h
    · rw [gf_c hf hl] at h
      cases hs : firstSome (gAt t ls) ls.length with
      | some v =>
        rw [hs] at h
        obtain ⟨i, hi, hv⟩ := firstSome_of hs
        rw [gAt_eq hi] at hv
        simp only [Option.getD_some] at h
        subst h
        split at hv
        · cases hv
        · split at hv <;> cases hv
      | none =>
        rw [firstSome_none] at hs
        refine ⟨taskFault_ok.1 hf, by omega, fun l hm => ?_⟩
        obtain ⟨i, hi, rfl⟩ := List.getElem_of_mem hm
        have hv := hs i hi
        rw [gAt_eq hi] at hv
        split at hv
        · cases hv
        · split at hv
          · cases hv
          · rename_i h1 h2
            exact ⟨by simpa using h1, by simpa using h2⟩
  · rw [gf_a hf] at h
    exact absurd h hf
theorem gf_code {t : Task} {ls : List (List Int)} (h : groupsFault t ls ≠ (0, 0)) : (groupsFault t ls).1 ≠ 0 := by
  by_cases hf : taskFault t = (0, 0)
  · by_cases hl : 24 < ls.length
    · rw [gf_b hf hl]; simp
    · rw [gf_c hf hl] at h ⊢
      cases hs : firstSome (gAt t ls) ls.length with
      | some v =>
        obtain ⟨i, hi, hv⟩ := firstSome_of hs
        rw [gAt_eq hi] at hv
        split at hv
        · cases hv; simp
        · split at hv <;> cases hv
          simp
      | none => rw [hs] at h; exact absurd rfl h
  · rw [gf_a hf]
    exact tf_code hf
/-! the classes are parts of groups or single facts -/
theorem covStep_sub {L : List (List Int)} {p : List (List Int) × List Int} {l : List Int} (hl : l ∈ L) (h : ∀ c ∈ p.1, ∃ x ∈ L, c.Sublist x) : ∀ c ∈ (covStep p l).1, ∃ x ∈ L, c.Sublist x := by
  unfold covStep
  split
  · exact h
  · intro c hc
    rw [List.mem_append] at hc
    rcases hc with hc | hc
    · exact h c hc
    · simp only [List.mem_singleton] at hc
      subst hc
      exact ⟨l, hl, List.filter_sublist⟩
theorem covFold_sub {L : List (List Int)} : ∀ (m : List (List Int)) (p : List (List Int) × List Int), (∀ l ∈ m, l ∈ L) → (∀ c ∈ p.1, ∃ x ∈ L, c.Sublist x) → ∀ c ∈ (m.foldl covStep p).1, ∃ x ∈ L, c.Sublist x
  | [], _, _, h => h
  | l :: r, p, hm, h => by
    rw [List.foldl_cons]
    exact covFold_sub r _ (fun x hx => hm x (by simp [hx])) (covStep_sub (hm l (by simp)) h)
theorem cover_sub {n : Nat} {ls : List (List Int)} : ∀ c ∈ coverT n ls, ∃ x ∈ ls ++ singles n, c.Sublist x := by
  rw [coverT_app]
  exact covFold_sub _ _ (fun _ h => h) (by simp)
theorem cntIn_sub {c x s : List Int} (h : c.Sublist x) : cntIn c s ≤ cntIn x s := by
  have := (h.filter (hasB s)).length_le
  unfold cntIn capB; omega
theorem cnt_comm {a b : List Int} (ha : a.Nodup) (hb : b.Nodup) : (capB a b).length = (capB b a).length := by
  refine List.Perm.length_eq ((List.perm_ext_iff_of_nodup (ha.filter _) (hb.filter _)).2 fun x => ?_)
  have h1 := mem_capB (a := a) (b := b) (x := x)
  have h2 := mem_capB (a := b) (b := a) (x := x)
  unfold capB at h1 h2
  rw [h1, h2, and_comm]
theorem set_nodup {s : List Int} (h : s.Pairwise (· < ·)) : s.Nodup := h.imp fun hab he => by omega
theorem single_cnt {p : Int} {s : List Int} : cntIn [p] s ≤ 1 := by
  have := List.length_filter_le (hasB s) [p]
  unfold cntIn capB; simp at this ⊢; omega
theorem cover_cnt {t : Task} {ls : List (List Int)} {s : List Int} (h : ∀ l ∈ ls, cntIn l s ≤ 1) : crowdB (coverT t.facts.toNat ls) s = false := by
  rw [crowd_f]
  intro c hc
  obtain ⟨x, hx, hsub⟩ := cover_sub c hc
  have h1 := cntIn_sub (s := s) hsub
  rw [List.mem_append] at hx
  rcases hx with hx | hx
  · have := h x hx; omega
  · unfold singles at hx
    rw [List.mem_map] at hx
    obtain ⟨p, _, rfl⟩ := hx
    have := single_cnt (p := (p : Int)) (s := s); omega
theorem init_free {t : Task} {ls : List (List Int)} (h : groupsFault t ls = (0, 0)) : crowdB (coverT t.facts.toNat ls) t.init = false := by
  obtain ⟨hw, _, hl⟩ := gf_ok h
  refine cover_cnt fun l hm => ?_
  obtain ⟨h1, h2⟩ := hl l hm
  unfold groupB at h2
  have h3 : (capB t.init l).length ≤ 1 := by simp_all
  rw [cnt_comm (set_nodup (isSet_iff.1 hw.init).2) (set_nodup (isSet_iff.1 h1).2)] at h3
  unfold cntIn; omega
/-! Lists, Cover and State -/
theorem lists_pc (a b : List (List Int)) : PCall Try.prog 28 [rows a, rows b] (fun r => r = .bool (decide (a = b))) := by
  (refine enterS Try.func28 Try.ntmps28 ?_)
  (refine aw_bound (i := 0) rfl (fun hb0 => ?_); (try simp only [List.length_map] at hb0))
  (refine aw_bound (i := 1) rfl (fun hb1 => ?_); (try simp only [List.length_map] at hb1))
  (repeat' (first | (refine hK _ ?_; clear hK K) | (refine aw_seq (fun K hK => ?_)) | (refine gR ?_; refine regS ?_) | (refine gQ ?_; refine condS (fun hc => ?_) (fun hc => ?_) <;> (try (first | contradiction | (exfalso; omega)))) | (refine aw_block ?_) | (refine gT ?_; refine retS ?_) | (refine gS ?_; refine skipS ?_)))
  · (refine fin_le (Le.refl _) (rv_one (rv1_tmp (by rfl))) (by first | rfl | (simp only [go_sem, Nat.reduceAdd, Nat.reduceMul, reduceIte, Nat.reduceEqDiff, Nat.reduceLeDiff, Int.reduceToNat, Int.reducePow, Int.reduceBEq, Int.reduceBNe, Int.reduceLT, Int.reduceLE, decide_true, decide_false])) ?_)
    rw [decide_eq_false (by rintro rfl; omega)]
  refine aw_loop_at [4, 5, 11, 12, 13, 14, 15, 16, 17, 18, 19, 20, 21, 22, 23, 24, 25, 26] (fun k : Nat => k ≤ a.length ∧ a.take k = b.take k) (fun k => a.length - k) (fun k => [(5, .int k)]) (fun _ => []) 0 ⟨by omega, by simp⟩ ?_ ?_
  · (refine atS ?_)
    (exact weakS)
  · rintro k ⟨hk, hn⟩ K hK
    (refine atS ?_)
    by_cases hlt : k < a.length
    · have hlb : k < b.length := by omega
      (repeat' (first | (refine hK _ ?_; clear hK K) | (refine aw_seq (fun K hK => ?_)) | (refine gR ?_; refine regS ?_) | (refine gD 6 ?_; refine drS (.it 0 0 (.it 1 0 (.it 2 0 (.it 3 0 (.it 4 0 (.it 5 0 (.it 6 0 (.it 7 0 (.it 8 1 (.it 9 0 .nil)))))))))) [0, 1, 2, 3, 4, 5, 6, 7, 9] ?_) | (refine gCd 23 ?_; refine callD (ints_pc _ _) ?_) | (refine gE ?_; (first | (refine exN ?_) | (refine exS (fun _ => ?_)))) | (refine gQ ?_; refine condS (fun hc => ?_) (fun hc => ?_) <;> (try (first | contradiction | (exfalso; omega)))) | (refine aw_block ?_) | (refine gT ?_; refine retS ?_) | (refine gS ?_; refine skipS ?_)))
      · (refine fin_le (Le.refl _) (rv_one (rv1_tmp (by rfl))) (by first | rfl | (simp only [go_sem, Nat.reduceAdd, Nat.reduceMul, reduceIte, Nat.reduceEqDiff, Nat.reduceLeDiff, Int.reduceToNat, Int.reducePow, Int.reduceBEq, Int.reduceBNe, Int.reduceLT, Int.reduceLE, decide_true, decide_false])) ?_)
        rw [decide_eq_false]
        rintro rfl
        simp_all
      · have hc2 : a[k] = b[k] := by simp_all
        (refine ⟨k + 1, ⟨by omega, by rw [List.take_succ_eq_append_getElem hlt, List.take_succ_eq_append_getElem hlb, hn, hc2]⟩, by omega, ?_⟩; (refine atS ?_); (exact weakS))
    · (repeat' (first | (refine hK _ ?_; clear hK K) | (refine aw_seq (fun K hK => ?_)) | (refine gR ?_; refine regS ?_) | (refine gQ ?_; refine condS (fun hc => ?_) (fun hc => ?_) <;> (try (first | contradiction | (exfalso; omega)))) | (refine gX ?_; refine exitS ?_) | (refine gT ?_; refine retS ?_) | (apply_assumption (exfalso := false) (symm := false))))
      (refine fin_le (Le.refl _) (rv_one (rv1_tmp (by rfl))) (by first | rfl | (simp only [go_sem, Nat.reduceAdd, Nat.reduceMul, reduceIte, Nat.reduceEqDiff, Nat.reduceLeDiff, Int.reduceToNat, Int.reducePow, Int.reduceBEq, Int.reduceBNe, Int.reduceLT, Int.reduceLE, decide_true, decide_false])) ?_)
      rw [List.take_of_length_le (by omega), List.take_of_length_le (by omega)] at hn
      rw [hn]; simp

theorem cover_ok (t : Task) (ls : List (List Int)) (h : groupsFault t ls = (0, 0)) : PCall Try.prog 6 [t.av, rows ls] (fun r => r = .tup [rows (coverT t.facts.toNat ls), faultP (0, 0)]) := by
  obtain ⟨hw, h24, hl⟩ := gf_ok h
  have hv := check_pc t ls
  rw [h] at hv
  
  
  (refine enterS Try.func6 Try.ntmps6 ?_)
  (repeat' (first | (refine hK _ ?_; clear hK K) | (refine aw_seq (fun K hK => ?_)) | (refine gR ?_; refine regS ?_) | (refine gC 24 ?_; refine callS (hv) ?_) | (refine gC 25 ?_; refine callS (cover_pc t ls hw (fun l hm => (hl l hm).1) h24) ?_) | (refine gE ?_; refine exN ?_) | (refine gQ ?_; refine condF ?_) | (refine gT ?_; refine retS ?_) | (refine gS ?_; refine skipS ?_)))
  (refine fin_le (Le.refl _) (rv_two (rv1_tmp (by rfl)) (rv1_cell (by first | exact pv_load (by rfl) (by rfl) (by rfl) (by rfl) | exact pv_loadA (by rfl) (by rfl) (by rfl) (by first | decide | simp)))) (by first | rfl | (simp only [go_sem, Nat.reduceAdd, Nat.reduceMul, reduceIte, Nat.reduceEqDiff, Nat.reduceLeDiff, Int.reduceToNat, Int.reducePow, Int.reduceBEq, Int.reduceBNe, Int.reduceLT, Int.reduceLE, decide_true, decide_false])) ?_)
  rfl
theorem cover_no (t : Task) (ls : List (List Int)) (h : groupsFault t ls ≠ (0, 0)) : PCall Try.prog 6 [t.av, rows ls] (fun r => r = .tup [rows [], faultP (groupsFault t ls)]) := by
  have hv := check_pc t ls
  have hc := gf_code h
  generalize groupsFault t ls = p at *
  
  
  (refine enterS Try.func6 Try.ntmps6 ?_)
  (repeat' (first | (refine hK _ ?_; clear hK K) | (refine aw_seq (fun K hK => ?_)) | (refine gR ?_; refine regS ?_) | (refine gD 3 ?_; refine drS (.it 0 0 (.it 1 0 (.it 2 3 .nil))) [0, 1] ?_) | (refine gC 24 ?_; refine callS (hv) ?_) | (refine gO ?_; refine adoS ?_) | (refine gE ?_; refine exN ?_) | (refine gQ ?_; refine condS (fun hc => ?_) (fun hc => ?_) <;> (try (first | contradiction | (exfalso; omega)))) | (refine gT ?_; refine retS ?_)))
  refine fin_weak (le_aleF 4 rfl (ALe.nil 1 24)) ?_
  simp only [go_sem, Nat.reduceAdd, Nat.reduceMul, reduceIte, Nat.reduceEqDiff, Nat.reduceLeDiff, Int.reduceToNat, Int.reducePow, Int.reduceBEq, Int.reduceBNe, Int.reduceLT, Int.reduceLE, decide_true, decide_false, Nat.reduceBEq, Bool.or_self, Bool.or_true, Bool.true_or, Bool.or_false, Bool.false_or, Bool.and_true, Bool.true_and, Bool.and_false, Bool.false_and, Bool.and_self, Bool.not_true, Bool.not_false, List.cons_append, List.nil_append, List.append_nil, if_true, if_false, Bool.false_eq_true, keysH]
  (refine fin_le (Le.refl _) (rv_two (rv1_tmp (by rfl)) (rv1_cell (by first | exact pv_load (by rfl) (by rfl) (by rfl) (by rfl) | exact pv_loadA (by rfl) (by rfl) (by rfl) (by first | decide | simp)))) (by first | rfl | (simp only [go_sem, Nat.reduceAdd, Nat.reduceMul, reduceIte, Nat.reduceEqDiff, Nat.reduceLeDiff, Int.reduceToNat, Int.reducePow, Int.reduceBEq, Int.reduceBNe, Int.reduceLT, Int.reduceLE, decide_true, decide_false])) ?_)
  rfl
def stateF (t : Task) (ls : List (List Int)) (s : List Int) : List Int × Int × Int :=
  if groupsFault t ls ≠ (0, 0) then ([], groupsFault t ls)
  else if isSet s t.facts = false then ([], (5, -4))
  else if crowdB (coverT t.facts.toNat ls) s = true then ([], (13, -9))
  else (valsF (coverT t.facts.toNat ls) s, (0, 0))
theorem covT_len {t : Task} {ls : List (List Int)} (h24 : ls.length ≤ 24) (hw : WfT t) : (coverT t.facts.toNat ls).length ≤ 100 := by
  have h1 := hw.f1
  have h0 := hw.f0
  have := covF_len (ls ++ singles t.facts.toNat) ([], [])
  rw [← coverT_app, List.length_append, singles_len] at this
  simp at this
  omega
theorem state_pc (t : Task) (ls : List (List Int)) (s : List Int) : PCall Try.prog 19 [t.av, rows ls, ints s] (fun r => r = .tup [ints (stateF t ls s).1, faultP (stateF t ls s).2]) := by
  have hv := check_pc t ls
  by_cases h : groupsFault t ls = (0, 0)
  · obtain ⟨hw, h24, hl⟩ := gf_ok h
    have hlen := covT_len h24 hw
    have hcv := cover_pc t ls hw (fun l hm => (hl l hm).1) h24
    generalize hcs : coverT t.facts.toNat ls = cs at *
    rw [h] at hv
    
    
    
    by_cases hset : isSet s t.facts = true
    · (refine enterS Try.func19 Try.ntmps19 ?_)
      (repeat' (first | (refine hK _ ?_; clear hK K) | (refine aw_seq (fun K hK => ?_)) | (refine gR ?_; refine regS ?_) | (refine gC 24 ?_; refine callS (hv) ?_) | (refine gC 32 ?_; refine callS (isSet_pc _ _) ?_) | (refine gC 25 ?_; refine callS (hcv) ?_) | (refine gE ?_; refine exN ?_) | (refine gQ ?_; (first | (refine condF ?_) | (refine condS (fun hc => ?_) (fun hc => ?_) <;> (try (first | contradiction | (exfalso; omega)))))) | (refine aw_block ?_) | (refine gT ?_; refine retS ?_) | (refine gS ?_; refine skipS ?_)))
      · exfalso; simp_all
      (refine awVirt 9 100 1 8 3 ?_)
      refine aw_loop_at [6, 9, 11, 12, 13, 31, 32, 33, 34, 35, 36, 37, 38, 39, 40, 41, 42, 43, 44, 45, 46, 47, 48] (fun k : Nat => k ≤ cs.length ∧ ∀ i (hi : i < cs.length), i < k → cntIn cs[i] s ≤ 1) (fun k => cs.length - k) (fun k => [(31, .int k), (9, .sl 1 8 100 0 (valsF (cs.take k) s).length)]) (fun k => [(3, ⟨25, t.cs, true⟩), (7, ⟨28, [.int 0, .int 0], true⟩), (100, ⟨3, (valsF (cs.take k) s).map AV.int, false⟩)]) 0 ⟨by omega, by omega⟩ ?_ ?_
      · (refine atS ?_)
        (exact weakS)
      · rintro k ⟨hk, hn⟩ K hK
        (refine atS ?_)
        by_cases hlt : k < cs.length
        · have hvt := valsF_take (s := s) hlt
          have hvl : (valsF (cs.take k) s).length = k := by rw [valsF_len, List.length_take]; omega
          generalize valsF (cs.take k) s = vl at *
          by_cases hc1 : cntIn cs[k] s ≤ 1
          · 
            (repeat' (first | (refine hK _ ?_; clear hK K) | (refine aw_seq (fun K hK => ?_)) | (refine gR ?_; refine regS ?_) | (refine gC 37 ?_; refine callS (valueC_pc cs[k] s (isSet_iff.1 hset).2 hc1) ?_) | (refine stk_op (fun K hK => ?_); (refine appendS ?_; simp only [go_sem, Nat.reduceAdd, Nat.reduceMul, reduceIte, Nat.reduceEqDiff, Nat.reduceLeDiff, Int.reduceToNat, Int.reducePow, Int.reduceBEq, Int.reduceBNe, Int.reduceLT, Int.reduceLE, decide_true, decide_false, Nat.reduceBEq, Bool.or_self, Bool.or_true, Bool.true_or, Bool.or_false, Bool.false_or, Bool.and_true, Bool.true_and, Bool.and_false, Bool.false_and, Bool.and_self, Bool.not_true, Bool.not_false, List.cons_append, List.nil_append, List.append_nil, if_true, if_false, Bool.false_eq_true, keysH])) | (refine gE ?_; (first | (refine exN ?_) | (refine exS (fun _ => ?_)))) | (refine gQ ?_; refine condS (fun hc => ?_) (fun hc => ?_) <;> (try (first | contradiction | (exfalso; omega)))) | (refine aw_block ?_) | (refine gS ?_; refine skipS ?_)))
            refine ⟨k + 1, ⟨by omega, upto_step hn fun _ => hc1⟩, by omega, ?_⟩
            rw [hvt]
            (refine atS ?_)
            (refine le_weak (by (repeat (first | exact .nil | refine .drop ?_ | refine weak_keep ?_ (by first | rfl | (simp))))) (by (repeat refine hsub_hasE (by rfl) (by first | rfl | (simp)) ?_); exact hsub_nil _))
          · 
            
            (repeat' (first | (refine hK _ ?_; clear hK K) | (refine aw_seq (fun K hK => ?_)) | (refine gR ?_; refine regS ?_) | (refine gC 37 ?_; refine callS (value_pc cs[k] s (isSet_iff.1 hset).2) ?_) | (refine gE ?_; (first | (refine exN ?_) | (refine exS (fun _ => ?_)))) | (refine gQ ?_; refine condS (fun hc => ?_) (fun hc => ?_) <;> (try (first | contradiction | (exfalso; omega)))) | (refine aw_block ?_) | (refine gT ?_; refine retS ?_) | (refine gS ?_; refine skipS ?_)))
            refine fin_weak (le_aleF 6 rfl (ALe.nil 1 8)) ?_
            simp only [go_sem, Nat.reduceAdd, Nat.reduceMul, reduceIte, Nat.reduceEqDiff, Nat.reduceLeDiff, Int.reduceToNat, Int.reducePow, Int.reduceBEq, Int.reduceBNe, Int.reduceLT, Int.reduceLE, decide_true, decide_false, Nat.reduceBEq, Bool.or_self, Bool.or_true, Bool.true_or, Bool.or_false, Bool.false_or, Bool.and_true, Bool.true_and, Bool.and_false, Bool.false_and, Bool.and_self, Bool.not_true, Bool.not_false, List.cons_append, List.nil_append, List.append_nil, if_true, if_false, Bool.false_eq_true, keysH]
            (refine fin_le (Le.refl _) (rv_two (rv1_tmp (by rfl)) (rv1_cell (by first | exact pv_load (by rfl) (by rfl) (by rfl) (by rfl) | exact pv_loadA (by rfl) (by rfl) (by rfl) (by first | decide | simp)))) (by first | rfl | (simp only [go_sem, Nat.reduceAdd, Nat.reduceMul, reduceIte, Nat.reduceEqDiff, Nat.reduceLeDiff, Int.reduceToNat, Int.reducePow, Int.reduceBEq, Int.reduceBNe, Int.reduceLT, Int.reduceLE, decide_true, decide_false])) ?_)
            have hcr : crowdB cs s = true := List.any_eq_true.2 ⟨_, List.getElem_mem hlt, by simp; omega⟩
            unfold stateF
            rw [hcs, if_neg (by simp [h]), if_neg (by simp [hset]), if_pos hcr]
            rfl
        · obtain rfl : k = cs.length := by omega
          have hcr : crowdB cs s = false := crowd_f.2 fun c hc => by obtain ⟨i, hi, rfl⟩ := List.getElem_of_mem hc; exact hn i hi (by omega)
          rw [List.take_length] at *
          (repeat' (first | (refine hK _ ?_; clear hK K) | (refine aw_seq (fun K hK => ?_)) | (refine gRx 15 (by rfl) ?_; refine regS ?_) | (refine gQ ?_; refine condS (fun hc => ?_) (fun hc => ?_) <;> (try (first | contradiction | (exfalso; omega)))) | (refine gX ?_; refine exitS ?_) | (apply_assumption (exfalso := false) (symm := false))))
          (refine aw_le (le_sealDI 100 (valsF cs s).length (valsF cs s) (by rfl) (by first | rfl | simp)) ?_; simp only [go_sem, Nat.reduceAdd, Nat.reduceMul, reduceIte, Nat.reduceEqDiff, Nat.reduceLeDiff, Int.reduceToNat, Int.reducePow, Int.reduceBEq, Int.reduceBNe, Int.reduceLT, Int.reduceLE, decide_true, decide_false])
          (repeat' (first | (refine hK _ ?_; clear hK K) | (refine gR ?_; refine regS ?_) | (refine gE ?_; refine exN ?_) | (refine gT ?_; refine retS ?_)))
          (refine fin_le (Le.refl _) (rv_two (rv1_tmp (by rfl)) (rv1_cell (by first | exact pv_load (by rfl) (by rfl) (by rfl) (by rfl) | exact pv_loadA (by rfl) (by rfl) (by rfl) (by first | decide | simp)))) (by first | rfl | (simp only [go_sem, Nat.reduceAdd, Nat.reduceMul, reduceIte, Nat.reduceEqDiff, Nat.reduceLeDiff, Int.reduceToNat, Int.reducePow, Int.reduceBEq, Int.reduceBNe, Int.reduceLT, Int.reduceLE, decide_true, decide_false])) ?_)
          unfold stateF
          rw [hcs, if_neg (by simp [h]), if_neg (by simp [hset]), if_neg (by simp [hcr])]
          rfl
    · have hset' : isSet s t.facts = false := by simpa using hset
      (refine enterS Try.func19 Try.ntmps19 ?_)
      (repeat' (first | (refine hK _ ?_; clear hK K) | (refine aw_seq (fun K hK => ?_)) | (refine gR ?_; refine regS ?_) | (refine gC 24 ?_; refine callS (hv) ?_) | (refine gC 32 ?_; refine callS (isSet_pc _ _) ?_) | (refine gE ?_; refine exN ?_) | (refine gQ ?_; (first | (refine condF ?_) | (refine condS (fun hc => ?_) (fun hc => ?_) <;> (try (first | contradiction | (exfalso; omega)))))) | (refine gT ?_; refine retS ?_) | (refine gS ?_; refine skipS ?_)))
      refine fin_weak (le_aleF 6 rfl (ALe.nil 1 8)) ?_
      simp only [go_sem, Nat.reduceAdd, Nat.reduceMul, reduceIte, Nat.reduceEqDiff, Nat.reduceLeDiff, Int.reduceToNat, Int.reducePow, Int.reduceBEq, Int.reduceBNe, Int.reduceLT, Int.reduceLE, decide_true, decide_false, Nat.reduceBEq, Bool.or_self, Bool.or_true, Bool.true_or, Bool.or_false, Bool.false_or, Bool.and_true, Bool.true_and, Bool.and_false, Bool.false_and, Bool.and_self, Bool.not_true, Bool.not_false, List.cons_append, List.nil_append, List.append_nil, if_true, if_false, Bool.false_eq_true, keysH]
      (refine fin_le (Le.refl _) (rv_two (rv1_tmp (by rfl)) (rv1_cell (by first | exact pv_load (by rfl) (by rfl) (by rfl) (by rfl) | exact pv_loadA (by rfl) (by rfl) (by rfl) (by first | decide | simp)))) (by first | rfl | (simp only [go_sem, Nat.reduceAdd, Nat.reduceMul, reduceIte, Nat.reduceEqDiff, Nat.reduceLeDiff, Int.reduceToNat, Int.reducePow, Int.reduceBEq, Int.reduceBNe, Int.reduceLT, Int.reduceLE, decide_true, decide_false])) ?_)
      unfold stateF
      rw [if_neg (by simp [h]), if_pos hset']
      rfl
  · have hc := gf_code h
    have hst : stateF t ls s = ([], groupsFault t ls) := by unfold stateF; rw [if_pos h]
    rw [hst]
    generalize groupsFault t ls = p at *
    
    
    (refine enterS Try.func19 Try.ntmps19 ?_)
    (repeat' (first | (refine hK _ ?_; clear hK K) | (refine aw_seq (fun K hK => ?_)) | (refine gR ?_; refine regS ?_) | (refine gD 3 ?_; refine drS (.it 0 0 (.it 1 0 (.it 2 3 .nil))) [0, 1] ?_) | (refine gC 24 ?_; refine callS (hv) ?_) | (refine gO ?_; refine adoS ?_) | (refine gE ?_; refine exN ?_) | (refine gQ ?_; refine condS (fun hc => ?_) (fun hc => ?_) <;> (try (first | contradiction | (exfalso; omega)))) | (refine gT ?_; refine retS ?_)))
    refine fin_weak (le_aleF 6 rfl (ALe.nil 1 8)) ?_
    simp only [go_sem, Nat.reduceAdd, Nat.reduceMul, reduceIte, Nat.reduceEqDiff, Nat.reduceLeDiff, Int.reduceToNat, Int.reducePow, Int.reduceBEq, Int.reduceBNe, Int.reduceLT, Int.reduceLE, decide_true, decide_false, Nat.reduceBEq, Bool.or_self, Bool.or_true, Bool.true_or, Bool.or_false, Bool.false_or, Bool.and_true, Bool.true_and, Bool.and_false, Bool.false_and, Bool.and_self, Bool.not_true, Bool.not_false, List.cons_append, List.nil_append, List.append_nil, if_true, if_false, Bool.false_eq_true, keysH]
    (refine fin_le (Le.refl _) (rv_two (rv1_tmp (by rfl)) (rv1_cell (by first | exact pv_load (by rfl) (by rfl) (by rfl) (by rfl) | exact pv_loadA (by rfl) (by rfl) (by rfl) (by first | decide | simp)))) (by first | rfl | (simp only [go_sem, Nat.reduceAdd, Nat.reduceMul, reduceIte, Nat.reduceEqDiff, Nat.reduceLeDiff, Int.reduceToNat, Int.reducePow, Int.reduceBEq, Int.reduceBNe, Int.reduceLT, Int.reduceLE, decide_true, decide_false])) ?_)
    rfl

end Go.Proofs.Ytpnpnbbanfgpgaa
