import Derived.Test.YtpnpnbbanfgpgaaEnl



namespace Go.Proofs.Ytpnpnbbanfgpgaa
open Go.Ab
open Go
set_option linter.unusedSimpArgs false
set_option linter.unusedVariables false
set_option maxRecDepth 10000
attribute [local irreducible] PV AOp AOps AW PCall OCall MCall WCall HCall Ab.Fin OFin OFin2 MFin HFin RV RV1 Le AStk AGrd ADr ADx ADo AOpX AAny
set_option maxHeartbeats 40000000
attribute [local go_sem] purge_appV cells_intsV cast_0 sealDL_app
--BODY
/-! the classes are a division -/
theorem isSet_sub {c x : List Int} {n : Int} (h : c.Sublist x) (hx : isSet x n = true) : isSet c n = true := by
  rw [isSet_iff] at hx ⊢
  exact ⟨fun y hy => hx.1 y (h.subset hy), hx.2.sublist h⟩
theorem isSet_one {p n : Int} (h0 : 0 ≤ p) (h1 : p < n) : isSet [p] n = true := by
  rw [isSet_iff]
  exact ⟨fun y hy => by simp at hy; omega, List.pairwise_singleton _ _⟩
theorem cap_one {s : List Int} {p : Int} (h : s.Nodup) : (capB s [p]).length ≤ 1 := by
  rw [cnt_comm h (by simp)]
  have := List.length_filter_le (hasB s) [p]
  unfold capB; simpa using this
theorem group_one {t : Task} (hw : WfT t) (p : Int) : groupB t [p] = true := by
  unfold groupB
  rw [Bool.and_eq_true]
  refine ⟨by simpa using cap_one (set_nodup (isSet_iff.1 hw.init).2), ?_⟩
  rw [List.all_eq_true]
  intro o ho
  obtain ⟨s1, s2, s3, _⟩ := opOk_sets (hw.ops o ho).1
  have ha := set_nodup (isSet_iff.1 s2).2
  have hc := cap_one (p := p) ha
  rw [presB_iff]
  refine ⟨presAt_neg.2 fun _ => by unfold cntIn; omega, fun i hi => ?_⟩
  rw [presAt_at hi]
  intro _
  obtain rfl : i = 0 := by simp at hi; omega
  by_cases hm : p ∈ o.add
  · rw [if_neg (by simp [hm])]; unfold cntIn; omega
  · have h0 : capB o.add [p] = [] := by
      unfold capB
      rw [List.filter_eq_nil_iff]
      intro y hy
      simp [hasB]
      rintro rfl; exact hm hy
    unfold cntIn
    rw [h0]
    split <;> simp
theorem covStep_flat {p : List (List Int) × List Int} {l : List Int} (h : p.1.flatten = p.2) : (covStep p l).1.flatten = (covStep p l).2 := by
  unfold covStep
  split
  · exact h
  · simp [h]
theorem covFold_flat : ∀ (m : List (List Int)) (p : List (List Int) × List Int), p.1.flatten = p.2 → (m.foldl covStep p).1.flatten = (m.foldl covStep p).2
  | [], _, h => h
  | l :: r, p, h => by rw [List.foldl_cons]; exact covFold_flat r _ (covStep_flat h)
theorem covFold_ne : ∀ (m : List (List Int)) (p : List (List Int) × List Int), (∀ c ∈ p.1, c ≠ []) → ∀ c ∈ (m.foldl covStep p).1, c ≠ []
  | [], _, h => h
  | l :: r, p, h => by
    rw [List.foldl_cons]
    refine covFold_ne r _ ?_
    unfold covStep
    split
    · exact h
    · rename_i hne
      intro c hc
      rw [List.mem_append] at hc
      rcases hc with hc | hc
      · exact h c hc
      · simp only [List.mem_singleton] at hc; subst hc; exact hne
theorem covFold_nodup : ∀ (m : List (List Int)) (p : List (List Int) × List Int), (∀ l ∈ m, l.Nodup) → p.2.Nodup → (m.foldl covStep p).2.Nodup
  | [], _, _, h => h
  | l :: r, p, hm, h => by
    rw [List.foldl_cons]
    refine covFold_nodup r _ (fun x hx => hm x (by simp [hx])) ?_
    unfold covStep
    split
    · exact h
    · rw [List.nodup_append]
      refine ⟨h, (hm l (by simp)).filter _, fun a ha b hb e => ?_⟩
      subst e
      have := (List.mem_filter.1 hb).2
      simp [hasB] at this
      exact this ha
theorem covFold_mem : ∀ (m : List (List Int)) (p : List (List Int) × List Int) (x : Int), x ∈ (m.foldl covStep p).2 ↔ x ∈ p.2 ∨ ∃ l ∈ m, x ∈ l
  | [], p, x => by simp
  | l :: r, p, x => by
    rw [List.foldl_cons, covFold_mem r _ x]
    have hs : x ∈ (covStep p l).2 ↔ x ∈ p.2 ∨ x ∈ l := by
      unfold covStep
      split
      · rename_i h0
        constructor
        · exact .inl
        · rintro (h | h)
          · exact h
          · by_cases hx : x ∈ p.2
            · exact hx
            · have : x ∈ notIn p.2 l := List.mem_filter.2 ⟨h, by simp [hasB, hx]⟩
              rw [h0] at this; cases this
      · rw [List.mem_append]
        unfold notIn
        rw [List.mem_filter]
        constructor
        · rintro (h | h)
          · exact .inl h
          · exact .inr h.1
        · rintro (h | h)
          · exact .inl h
          · by_cases hx : x ∈ p.2
            · exact .inl hx
            · exact .inr ⟨h, by simp [hasB, hx]⟩
    rw [hs]
    simp only [List.mem_cons, exists_eq_or_imp, or_assoc]
def permB (n : Int) (l : List Int) : Bool := decide (∀ p, p < n.toNat → hasB l (p : Int) = true) && decide ((l.length : Int) = n)
theorem cover_perm {n : Nat} {ls : List (List Int)} (hs : ∀ l ∈ ls, isSet l n = true) : permB n (coverT n ls).flatten = true := by
  rw [coverT_app, covFold_flat _ _ rfl]
  have hnd : ((ls ++ singles n).foldl covStep ([], [])).2.Nodup := covFold_nodup _ _ (fun l hl => by
    rw [List.mem_append] at hl
    rcases hl with hl | hl
    · exact set_nodup (isSet_iff.1 (hs l hl)).2
    · unfold singles at hl
      rw [List.mem_map] at hl
      obtain ⟨p, _, rfl⟩ := hl
      simp) (by simp)
  have hmem := fun x => covFold_mem (ls ++ singles n) ([], []) x
  generalize ((ls ++ singles n).foldl covStep ([], [])).2 = u at *
  have hin : ∀ x, x ∈ u ↔ x ∈ (List.range n).map fun (i : Nat) => (i : Int) := fun x => by
    rw [hmem]
    simp only [List.not_mem_nil, false_or, List.mem_append, singles, List.mem_map, List.mem_range]
    constructor
    · rintro ⟨l, hl | ⟨p, hp, rfl⟩, hx⟩
      · have := (isSet_iff.1 (hs l hl)).1 x hx
        exact ⟨x.toNat, by omega, by omega⟩
      · simp at hx
        exact ⟨p, hp, hx.symm⟩
    · rintro ⟨p, hp, rfl⟩
      exact ⟨[(p : Int)], .inr ⟨p, hp, rfl⟩, by simp⟩
  have hnr : ((List.range n).map fun (i : Nat) => (i : Int)).Nodup := by
    rw [List.nodup_iff_pairwise_ne, List.pairwise_map]
    exact (List.nodup_range (n := n)).imp fun h e => h (by omega)
  have hperm := (List.perm_ext_iff_of_nodup hnd hnr).2 hin
  unfold permB
  rw [Bool.and_eq_true]
  refine ⟨by
    rw [decide_eq_true_eq]
    intro p hp
    rw [hasB_t, hin]
    exact List.mem_map.2 ⟨p, by simp at hp ⊢; omega, rfl⟩, by
    rw [decide_eq_true_eq, hperm.length_eq]; simp⟩
def insB (c : List Int) (ls : List (List Int)) (k : Nat) : Bool := decide (c.length = 1) || (ls.take k).any (subB c)
theorem insB_step {c : List Int} {ls : List (List Int)} {k : Nat} (h : k < ls.length) : insB c ls (k + 1) = (insB c ls k || subB c ls[k]) := by
  unfold insB
  rw [List.take_succ_eq_append_getElem h, List.any_append, Bool.or_assoc]; simp
theorem cover_ins {n : Nat} {ls : List (List Int)} {c : List Int} (hc : c ∈ coverT n ls) : insB c ls ls.length = true := by
  have hne : c ≠ [] := by rw [coverT_app] at hc; exact covFold_ne _ _ (by simp) c hc
  obtain ⟨x, hx, hsub⟩ := cover_sub c hc
  unfold insB
  rw [List.take_length, Bool.or_eq_true]
  rw [List.mem_append] at hx
  rcases hx with hx | hx
  · refine .inr (List.any_eq_true.2 ⟨x, hx, List.all_eq_true.2 fun y hy => by rw [hasB_t]; exact hsub.subset hy⟩)
  · unfold singles at hx
    rw [List.mem_map] at hx
    obtain ⟨p, _, rfl⟩ := hx
    have h1 := hsub.length_le
    have h2 : c.length ≠ 0 := by simpa using hne
    exact .inl (by simp at h1 ⊢; omega)
theorem cover_set {n : Nat} {ls : List (List Int)} (hs : ∀ l ∈ ls, isSet l n = true) {c : List Int} (hc : c ∈ coverT n ls) : isSet c n = true := by
  obtain ⟨x, hx, hsub⟩ := cover_sub c hc
  refine isSet_sub hsub ?_
  rw [List.mem_append] at hx
  rcases hx with hx | hx
  · exact hs x hx
  · unfold singles at hx
    rw [List.mem_map] at hx
    obtain ⟨p, hp, rfl⟩ := hx
    rw [List.mem_range] at hp
    exact isSet_one (by omega) (by omega)
theorem perm_pc (n : Int) (l : List Int) (h0 : 0 ≤ n) (h1 : n ≤ 1000) : PCall Try.prog 10 [.int n, ints l] (fun r => r = .bool (permB n l)) := by
  (refine enterS Try.func10 Try.ntmps10 ?_)
  (refine aw_bound (i := 1) rfl (fun hb => ?_); (try simp only [List.length_map] at hb))
  (repeat' (first | (refine hK _ ?_; clear hK K) | (refine aw_seq (fun K hK => ?_)) | (refine gR ?_; refine regS ?_) | (refine gC 30 ?_; refine callS (has_pc _ _) ?_) | (refine stk_op (fun K hK => ?_); (first | (refine aop_pv (pv_eql (by rfl) (by rfl)) ?_) | (refine aop_pv (pv_eqlB (by rfl) (by rfl)) ?_) | (refine aop_pv (pv_eqlA (by rfl) (by rfl) (by kernel_rfl)) ?_))) | (refine gE ?_; (first | (refine exN ?_) | (refine exS (fun _ => ?_)))) | (refine gQ ?_; (first | (refine condT ?_) | (refine condF ?_) | (refine condS (fun hc => ?_) (fun hc => ?_) <;> (try (first | contradiction | (exfalso; omega)))))) | (refine gW ?_; refine wopsS ?_) | (refine aw_block ?_) | (refine gX ?_; refine exitS ?_) | (refine gT ?_; refine retS ?_) | (refine gS ?_; refine skipS ?_) | (apply_assumption (exfalso := false) (symm := false))))
  refine aw_loop_at [4, 5, 6, 7, 8, 9, 10, 11, 12, 13, 14] (fun k : Nat => k ≤ n.toNat ∧ ∀ i : Nat, i < k → hasB l (i : Int) = true) (fun k => n.toNat - k) (fun k => [(5, .int k)]) (fun _ => []) 0 ⟨by omega, by omega⟩ ?_ ?_
  · (refine atS ?_)
    (exact weakS)
  · rintro k ⟨hk, hn⟩ K hK
    (refine atS ?_)
    by_cases hlt : (k : Int) < n
    · (repeat' (first | (refine hK _ ?_; clear hK K) | (refine aw_seq (fun K hK => ?_)) | (refine gR ?_; refine regS ?_) | (refine gC 30 ?_; refine callS (has_pc _ _) ?_) | (refine stk_op (fun K hK => ?_); (first | (refine aop_pv (pv_eql (by rfl) (by rfl)) ?_) | (refine aop_pv (pv_eqlB (by rfl) (by rfl)) ?_) | (refine aop_pv (pv_eqlA (by rfl) (by rfl) (by kernel_rfl)) ?_))) | (refine gE ?_; (first | (refine exN ?_) | (refine exS (fun _ => ?_)))) | (refine gQ ?_; (first | (refine condT ?_) | (refine condF ?_) | (refine condS (fun hc => ?_) (fun hc => ?_) <;> (try (first | contradiction | (exfalso; omega)))))) | (refine gW ?_; refine wopsS ?_) | (refine aw_block ?_) | (refine gX ?_; refine exitS ?_) | (refine gT ?_; refine retS ?_) | (refine gS ?_; refine skipS ?_) | (apply_assumption (exfalso := false) (symm := false))))
      · (refine fin_le (Le.refl _) (rv_one (rv1_tmp (by rfl))) (by first | rfl | (simp only [go_sem, Nat.reduceAdd, Nat.reduceMul, reduceIte, Nat.reduceEqDiff, Nat.reduceLeDiff, Int.reduceToNat, Int.reducePow, Int.reduceBEq, Int.reduceBNe, Int.reduceLT, Int.reduceLE, decide_true, decide_false])) ?_)
        have hx : hasB l (k : Int) = false := by assumption
        rw [show permB n l = false by unfold permB; rw [Bool.and_eq_false_iff]; exact .inl (decide_eq_false fun h => by have := h k (by omega); rw [hx] at this; cases this)]
      · have hx : hasB l (k : Int) = true := by assumption
        (refine ⟨k + 1, ⟨by omega, fun i hi => by
          rcases Nat.lt_or_ge i k with h' | h'
          · exact hn i h'
          · obtain rfl : i = k := by omega
            exact hx⟩, by omega, ?_⟩; (refine atS ?_); (exact weakS))
    · (repeat' (first | (refine hK _ ?_; clear hK K) | (refine aw_seq (fun K hK => ?_)) | (refine gR ?_; refine regS ?_) | (refine gC 30 ?_; refine callS (has_pc _ _) ?_) | (refine stk_op (fun K hK => ?_); (first | (refine aop_pv (pv_eql (by rfl) (by rfl)) ?_) | (refine aop_pv (pv_eqlB (by rfl) (by rfl)) ?_) | (refine aop_pv (pv_eqlA (by rfl) (by rfl) (by kernel_rfl)) ?_))) | (refine gE ?_; (first | (refine exN ?_) | (refine exS (fun _ => ?_)))) | (refine gQ ?_; (first | (refine condT ?_) | (refine condF ?_) | (refine condS (fun hc => ?_) (fun hc => ?_) <;> (try (first | contradiction | (exfalso; omega)))))) | (refine gW ?_; refine wopsS ?_) | (refine aw_block ?_) | (refine gX ?_; refine exitS ?_) | (refine gT ?_; refine retS ?_) | (refine gS ?_; refine skipS ?_) | (apply_assumption (exfalso := false) (symm := false))))
      (refine fin_le (Le.refl _) (rv_one (rv1_tmp (by rfl))) (by first | rfl | (simp only [go_sem, Nat.reduceAdd, Nat.reduceMul, reduceIte, Nat.reduceEqDiff, Nat.reduceLeDiff, Int.reduceToNat, Int.reducePow, Int.reduceBEq, Int.reduceBNe, Int.reduceLT, Int.reduceLE, decide_true, decide_false])) ?_)
      unfold permB
      rw [decide_eq_true (show ∀ p, p < n.toNat → hasB l (p : Int) = true from fun p hp => hn p (by omega)), Bool.true_and]
      rfl
theorem induct_pc (t : Task) (c : List Int) (hw : WfT t) (hc : isSet c t.facts = true) : PCall Try.prog 9 [t.av, ints c] (fun r => r = .tup [.bool (groupB t c), fault 0 0]) := by
  have hv := validate_pc t
  rw [taskFault_ok.2 hw] at hv
  have hset : PCall Try.prog 32 [ints c, .int t.facts] (fun r => r = .bool true) := (isSet_pc c t.facts).mono fun r hr => by rw [hr, hc]
  
  
  
  
  (refine enterS Try.func9 Try.ntmps9 ?_)
  (repeat' (first | (refine hK _ ?_; clear hK K) | (refine aw_seq (fun K hK => ?_)) | (refine gR ?_; refine regS ?_) | (refine gD 3 ?_; refine drS (.it 0 0 (.it 1 0 (.it 2 3 .nil))) [0, 1] ?_) | (refine gC 31 ?_; refine callS (hv) ?_) | (refine gC 32 ?_; refine callS (hset) ?_) | (refine gC 33 ?_; refine callS (holdsG_pc t c hw hc) ?_) | (refine stk_op (fun K hK => ?_); (first | (refine aop_pv (pv_neq (by rfl) (by rfl)) ?_) | (refine aop_pv (pv_neqB (by rfl) (by rfl)) ?_) | (refine aop_pv (pv_neqA (by rfl) (by rfl) (by kernel_rfl)) ?_) | (refine aop_pv (pv_fieldAddrF (by rfl) (by rfl) (by first | decide | (simp; done) | (simp; omega))) ?_) | (refine aop_pv (pv_fieldAddrIF (by rfl) (by rfl) (by first | decide | (simp; done) | (simp; omega))) ?_))) | (refine And.intro ?_ ?_) | (refine gDx ?_; refine adxS ?_) | (refine gO ?_; refine adoS ?_) | (refine gE ?_; (first | (refine exN ?_) | (refine exS (fun _ => ?_)))) | (refine gQ ?_; (first | (refine condT ?_) | (refine condF ?_) | (refine condS (fun hc => ?_) (fun hc => ?_) <;> (try (first | contradiction | (exfalso; omega)))))) | (refine gWd ?_; refine wdrS ?_) | (refine gW ?_; refine wopsS ?_) | (refine aw_block ?_) | (refine gX ?_; refine exitS ?_) | (refine gT ?_; refine retS ?_) | (refine gS ?_; refine skipS ?_) | (apply_assumption (exfalso := false) (symm := false))))
  (refine fin_le (Le.refl _) (rv_two (rv1_tmp (by rfl)) (rv1_cell (by first | exact pv_load (by rfl) (by rfl) (by rfl) (by rfl) | exact pv_loadA (by rfl) (by rfl) (by rfl) (by first | decide | simp)))) (by first | rfl | (simp only [go_sem, Nat.reduceAdd, Nat.reduceMul, reduceIte, Nat.reduceEqDiff, Nat.reduceLeDiff, Int.reduceToNat, Int.reducePow, Int.reduceBEq, Int.reduceBNe, Int.reduceLT, Int.reduceLE, decide_true, decide_false])) ?_)
  rfl


theorem flat_take {cs : List (List Int)} {k : Nat} (h : k < cs.length) : (cs.take (k + 1)).flatten = (cs.take k).flatten ++ cs[k] := by
  rw [List.take_succ_eq_append_getElem h, List.flatten_append]; simp
theorem flat_len {cs : List (List Int)} {k : Nat} (h : ∀ c ∈ cs, c.length ≤ 1000) (hl : cs.length ≤ 100) : (cs.take k).flatten.length ≤ 100000 := by
  have key : ∀ (l : List (List Int)), (∀ c ∈ l, c.length ≤ 1000) → l.flatten.length ≤ 1000 * l.length := by
    intro l
    induction l with
    | nil => simp
    | cons a r ih =>
      intro hh
      have h1 := hh a (by simp)
      have h2 := ih fun c hc => hh c (by simp [hc])
      rw [List.flatten_cons, List.length_append, List.length_cons]; omega
  have := key (cs.take k) fun c hc => h c (List.mem_of_mem_take hc)
  rw [List.length_take] at this
  omega
theorem classesLaw_pc (t : Task) (ls : List (List Int)) : PCall Try.prog 3 [t.av, rows ls] (fun r => r = .bool true) := by
  by_cases h : groupsFault t ls = (0, 0)
  · obtain ⟨hw, h24, hl⟩ := gf_ok h
    have h0 := hw.f0
    have h1 := hw.f1
    have hn : ((t.facts.toNat : Nat) : Int) = t.facts := by omega
    have hls : ∀ l ∈ ls, isSet l (t.facts.toNat : Nat) = true := fun l hm => by rw [hn]; exact (hl l hm).1
    have hco := cover_ok t ls h
    have hlen := covT_len h24 hw
    have hins := fun c hc => cover_ins (n := t.facts.toNat) (ls := ls) (c := c) hc
    have hset := fun c hc => cover_set (n := t.facts.toNat) hls (c := c) hc
    have hper := cover_perm (n := t.facts.toNat) hls
    have hnem : ∀ c ∈ coverT t.facts.toNat ls, c ≠ [] := fun c hc => by rw [coverT_app] at hc; exact covFold_ne _ _ (by simp) c hc
    rw [hn] at hset hper
    generalize coverT t.facts.toNat ls = cs at *
    have hcl : ∀ c ∈ cs, c.length ≤ 1000 := fun c hc => by
      have := set_len (hset c hc) h0 h1
      omega
    
    have hpp := perm_pc t.facts cs.flatten h0 (by omega)
    rw [hper] at hpp
    
    (refine enterS Try.func3 Try.ntmps3 ?_)
    
    (repeat' (first | (refine hK _ ?_; clear hK K) | (refine aw_seq (fun K hK => ?_)) | (refine gR ?_; refine regS ?_) | (refine gC 6 ?_; refine callS (hco) ?_) | (refine gC 7 ?_; refine callS (encodes_pc) ?_) | (refine stk_op (fun K hK => ?_); (first | (refine aop_pv (pv_fieldAddrF (by rfl) (by rfl) (by first | decide | (simp; done) | (simp; omega))) ?_) | (refine aop_pv (pv_fieldAddrIF (by rfl) (by rfl) (by first | decide | (simp; done) | (simp; omega))) ?_) | (refine aop_pv (pv_neq (by rfl) (by rfl)) ?_) | (refine aop_pv (pv_neqB (by rfl) (by rfl)) ?_) | (refine aop_pv (pv_neqA (by rfl) (by rfl) (by kernel_rfl)) ?_) | (refine aop_pv (pv_eql (by rfl) (by rfl)) ?_) | (refine aop_pv (pv_eqlB (by rfl) (by rfl)) ?_) | (refine aop_pv (pv_eqlA (by rfl) (by rfl) (by kernel_rfl)) ?_))) | (refine gE ?_; (first | (refine exN ?_) | (refine exS (fun _ => ?_)))) | (refine gG ?_; refine guardS (fun hc => ?_) (fun hc => ?_) <;> (try (first | contradiction | (exfalso; omega)))) | (refine gQ ?_; (first | (refine condT ?_) | (refine condF ?_) | (refine condS (fun hc => ?_) (fun hc => ?_) <;> (try (first | contradiction | (exfalso; omega)))))) | (refine gW ?_; refine wopsS ?_) | (refine aw_block ?_) | (refine gX ?_; refine exitS ?_) | (refine gT ?_; refine retS ?_) | (refine gS ?_; refine skipS ?_) | (apply_assumption (exfalso := false) (symm := false))))
    (refine awVirt 7 100 1 8 3 ?_)
    refine aw_loop_at [4, 7, 8, 9, 10, 11, 12, 32, 33, 34, 35, 36, 37, 38, 39, 40, 41, 42, 43, 44, 45, 46, 47, 48, 49, 50, 51, 52, 53, 54, 55, 56, 57, 58, 59, 60, 61, 62, 63, 64, 65, 66, 67, 68, 69, 70, 71, 72, 73, 74, 75, 76, 77, 78, 79, 80, 81, 82, 83, 84, 85, 86, 87, 88, 89, 90, 91, 92, 93, 94, 95, 96, 97, 98, 99, 100, 101, 102, 103] (fun k : Nat => k ≤ cs.length) (fun k => cs.length - k) (fun k => [(8, .int k), (7, .sl 1 8 100 0 (cs.take k).flatten.length)]) (fun k => [(2, ⟨25, t.cs, true⟩), (100, ⟨3, ((cs.take k).flatten).map AV.int, false⟩)]) 0 (by omega) ?_ ?_
    · (refine atS ?_)
      (exact weakS)
    · rintro k hk K hK
      (refine atS ?_)
      by_cases hlt : k < cs.length
      · have hck := hset _ (List.getElem_mem hlt)
        have hik := hins _ (List.getElem_mem hlt)
        have hnk : cs[k].length ≠ 0 := by simpa using hnem _ (List.getElem_mem hlt)
        have hck2 := hcl _ (List.getElem_mem hlt)
        have hfl := flat_len (k := k) hcl hlen
        have hft := flat_take hlt
        generalize (cs.take k).flatten = fl at *
        
        (repeat' (first | (refine hK _ ?_; clear hK K) | (refine aw_seq (fun K hK => ?_)) | (refine gR ?_; refine regS ?_) | (refine stk_op (fun K hK => ?_); (first | (refine aop_pv (pv_eql (by rfl) (by rfl)) ?_) | (refine aop_pv (pv_eqlB (by rfl) (by rfl)) ?_) | (refine aop_pv (pv_eqlA (by rfl) (by rfl) (by kernel_rfl)) ?_))) | (refine gE ?_; (first | (refine exN ?_) | (refine exS (fun _ => ?_)))) | (refine gQ ?_; (first | (refine condT ?_) | (refine condF ?_) | (refine condS (fun hc => ?_) (fun hc => ?_) <;> (try (first | contradiction | (exfalso; omega)))))) | (refine gW ?_; refine wopsS ?_) | (refine aw_block ?_) | (refine gX ?_; refine exitS ?_) | (refine gT ?_; refine retS ?_) | (refine gS ?_; refine skipS ?_) | (apply_assumption (exfalso := false) (symm := false))))
        refine aw_loop_at [9, 10, 44, 45, 46, 47, 48, 49, 50, 51, 52, 53, 54, 55, 56, 57, 58, 59, 60, 61] (fun i : Nat => i ≤ ls.length) (fun i => ls.length - i) (fun i => [(10, .int i), (9, .bool (insB cs[k] ls i))]) (fun i => [(2, ⟨25, t.cs, true⟩), (100, ⟨3, fl.map AV.int, false⟩)]) 0 (by omega) ?_ ?_
        · (refine atS ?_)
          have e0 : insB cs[k] ls 0 = ((cs[k].length : Int) == 1) := by unfold insB; simp; rw [Bool.eq_iff_iff]; simp; omega
          rw [e0]
          (exact weakS)
        · rintro i hi K hK
          (refine atS ?_)
          by_cases hil : i < ls.length
          · have hst := insB_step (c := cs[k]) hil
            
            (repeat' (first | (refine hK _ ?_; clear hK K) | (refine aw_seq (fun K hK => ?_)) | (refine gR ?_; refine regS ?_) | (refine gD 12 ?_; refine drS (.it 0 0 (.it 1 0 (.it 2 0 (.it 3 0 (.it 4 0 (.it 5 0 (.it 6 0 (.it 7 0 (.it 8 0 (.it 9 0 (.it 10 2 (.it 11 0 (.it 12 0 .nil))))))))))))) [0, 1, 2, 3, 4, 5, 6, 7, 8, 9, 10, 11, 12] ?_) | (refine gCd 8 ?_; refine callD (subset_pc _ _) ?_) | (refine And.intro ?_ ?_) | (refine gDx ?_; refine adxS ?_) | (refine gE ?_; (first | (refine exN ?_) | (refine exS (fun _ => ?_)))) | (refine gGd ?_; refine guardD (fun hc => ?_) (fun hc => ?_) <;> (try (first | contradiction | (exfalso; omega)))) | (refine gQ ?_; (first | (refine condT ?_) | (refine condF ?_) | (refine condS (fun hc => ?_) (fun hc => ?_) <;> (try (first | contradiction | (exfalso; omega)))))) | (refine gWd ?_; refine wdrS ?_) | (refine gW ?_; refine wopsS ?_) | (refine aw_block ?_) | (refine gX ?_; refine exitS ?_) | (refine gT ?_; refine retS ?_) | (refine gS ?_; refine skipS ?_) | (apply_assumption (exfalso := false) (symm := false))))
            · refine ⟨i + 1, by omega, by omega, ?_⟩
              have hx : insB cs[k] ls i = true := by assumption
              rw [hst, hx, Bool.true_or]
              (refine atS ?_)
              (exact weakS)
            · refine ⟨i + 1, by omega, by omega, ?_⟩
              have hx : insB cs[k] ls i = false := by assumption
              rw [hst, hx, Bool.false_or]
              (refine atS ?_)
              (exact weakS)
          · obtain rfl : i = ls.length := by omega
            rw [hik]
            by_cases h1c : cs[k].length = 1
            · have hg1 : groupB t cs[k] = true := by
                obtain ⟨p, hp⟩ := List.length_eq_one_iff.1 h1c
                rw [hp]; exact group_one hw p
              have hind := induct_pc t cs[k] hw hck
              rw [hg1] at hind
              
              
              
              (repeat' (first | (refine hK _ ?_; clear hK K) | (refine aw_seq (fun K hK => ?_)) | (refine gR ?_; refine regS ?_) | (refine gD 13 ?_; refine drE (s1 := ?_) (.it 0 0 (.it 1 0 (.it 2 0 (.it 3 0 (.it 4 0 (.fk 5 9 (.it 6 0 (.it 7 0 (.it 8 0 (.it 9 1 (.it 10 0 (.it 11 3 .nil)))))) (.it 5 1 (.it 6 0 (.it 7 0 (.it 8 0 (.it 10 0 (.it 11 3 .nil)))))))))))) [0, 1, 2, 3, 4, 6, 7, 8, 10] ?_ ?_; rotate_left) | (refine gCd 9 ?_; refine callD (hind) ?_) | (refine stk_op (fun K hK => ?_); (first | ((refine appendS ?_; simp only [go_sem, Nat.reduceAdd, Nat.reduceMul, reduceIte, Nat.reduceEqDiff, Nat.reduceLeDiff, Int.reduceToNat, Int.reducePow, Int.reduceBEq, Int.reduceBNe, Int.reduceLT, Int.reduceLE, decide_true, decide_false, Nat.reduceBEq, Bool.or_self, Bool.or_true, Bool.true_or, Bool.or_false, Bool.false_or, Bool.and_true, Bool.true_and, Bool.and_false, Bool.false_and, Bool.and_self, Bool.not_true, Bool.not_false, List.cons_append, List.nil_append, List.append_nil, if_true, if_false, Bool.false_eq_true, keysH])) | (refine aop_pv (pv_eql (by rfl) (by rfl)) ?_) | (refine aop_pv (pv_eqlB (by rfl) (by rfl)) ?_) | (refine aop_pv (pv_eqlA (by rfl) (by rfl) (by kernel_rfl)) ?_) | (refine aop_pv (pv_fieldAddrF (by rfl) (by rfl) (by first | decide | (simp; done) | (simp; omega))) ?_) | (refine aop_pv (pv_fieldAddrIF (by rfl) (by rfl) (by first | decide | (simp; done) | (simp; omega))) ?_) | (refine aop_pv (pv_neq (by rfl) (by rfl)) ?_) | (refine aop_pv (pv_neqB (by rfl) (by rfl)) ?_) | (refine aop_pv (pv_neqA (by rfl) (by rfl) (by kernel_rfl)) ?_) | (refine appendS ?_) | (refine virtS 98 103 1 8 3 ?_; refine appendS ?_))) | (refine adx_op (fun K hK => ?_); (first | ((refine appendS ?_; simp only [go_sem, Nat.reduceAdd, Nat.reduceMul, reduceIte, Nat.reduceEqDiff, Nat.reduceLeDiff, Int.reduceToNat, Int.reducePow, Int.reduceBEq, Int.reduceBNe, Int.reduceLT, Int.reduceLE, decide_true, decide_false, Nat.reduceBEq, Bool.or_self, Bool.or_true, Bool.true_or, Bool.or_false, Bool.false_or, Bool.and_true, Bool.true_and, Bool.and_false, Bool.false_and, Bool.and_self, Bool.not_true, Bool.not_false, List.cons_append, List.nil_append, List.append_nil, if_true, if_false, Bool.false_eq_true, keysH])) | (refine aopx_alloc (d := 12) 12 (by first | rfl | (simp only [go_sem, Nat.reduceAdd, Nat.reduceMul, reduceIte, Nat.reduceEqDiff, Nat.reduceLeDiff, Int.reduceToNat, Int.reducePow, Int.reduceBEq, Int.reduceBNe, Int.reduceLT, Int.reduceLE, decide_true, decide_false]; done) | (simp only [go_sem, Nat.reduceAdd, Nat.reduceMul, reduceIte, Nat.reduceEqDiff, Nat.reduceLeDiff, Int.reduceToNat, Int.reducePow, Int.reduceBEq, Int.reduceBNe, Int.reduceLT, Int.reduceLE, decide_true, decide_false]; rfl) | (simp [St.free, mentHp, AV.mentL, AV.ment])) ?_))) | (refine And.intro ?_ ?_) | (refine gDx ?_; refine adxS ?_) | (refine gO ?_; refine adoS ?_) | (refine gL ?_; (first | exact Le.refl _ | exact weakS)) | (refine gE ?_; (first | (refine Exists.intro hlt ?_) | (refine exN ?_) | (refine exS (fun _ => ?_)))) | (refine gG ?_; refine guardS (fun hc => ?_) (fun hc => ?_) <;> (try (first | contradiction | (exfalso; omega)))) | (refine gQ ?_; (first | (refine condT ?_) | (refine condF ?_) | (refine condS (fun hc => ?_) (fun hc => ?_) <;> (try (first | contradiction | (exfalso; omega)))))) | (refine gWd ?_; refine wdrS ?_) | (refine gW ?_; refine wopsS ?_) | (refine aw_block ?_) | (refine gX ?_; refine exitS ?_) | (refine gT ?_; refine retS ?_) | (refine gS ?_; refine skipS ?_) | (apply_assumption (exfalso := false) (symm := false))))
              refine ⟨k + 1, by omega, by omega, ?_⟩
              rw [hft]
              (refine atS ?_)
              (refine le_weak (by (repeat (first | exact .nil | refine .drop ?_ | refine weak_keep ?_ (by first | rfl | (simp))))) (by (repeat refine hsub_hasE (by rfl) (by first | rfl | (simp)) ?_); exact hsub_nil _))
            · 
              
              
              
              (repeat' (first | (refine hK _ ?_; clear hK K) | (refine aw_seq (fun K hK => ?_)) | (refine gR ?_; refine regS ?_) | (refine gD 13 ?_; refine drE (s1 := ?_) (.it 0 0 (.it 1 0 (.it 2 0 (.it 3 0 (.it 4 0 (.fk 5 9 (.it 6 0 (.it 7 0 (.it 8 0 (.it 9 1 (.it 10 0 (.it 11 3 .nil)))))) (.it 5 1 (.it 6 0 (.it 7 0 (.it 8 0 (.it 10 0 (.it 11 3 .nil)))))))))))) [0, 1, 2, 3, 4, 6, 7, 8, 10] ?_ ?_; rotate_left) | (refine gCd 9 ?_; refine callD (induct_pc t cs[k] hw hck) ?_) | (refine stk_op (fun K hK => ?_); (first | ((refine appendS ?_; simp only [go_sem, Nat.reduceAdd, Nat.reduceMul, reduceIte, Nat.reduceEqDiff, Nat.reduceLeDiff, Int.reduceToNat, Int.reducePow, Int.reduceBEq, Int.reduceBNe, Int.reduceLT, Int.reduceLE, decide_true, decide_false, Nat.reduceBEq, Bool.or_self, Bool.or_true, Bool.true_or, Bool.or_false, Bool.false_or, Bool.and_true, Bool.true_and, Bool.and_false, Bool.false_and, Bool.and_self, Bool.not_true, Bool.not_false, List.cons_append, List.nil_append, List.append_nil, if_true, if_false, Bool.false_eq_true, keysH])) | (refine aop_pv (pv_eql (by rfl) (by rfl)) ?_) | (refine aop_pv (pv_eqlB (by rfl) (by rfl)) ?_) | (refine aop_pv (pv_eqlA (by rfl) (by rfl) (by kernel_rfl)) ?_) | (refine aop_pv (pv_fieldAddrF (by rfl) (by rfl) (by first | decide | (simp; done) | (simp; omega))) ?_) | (refine aop_pv (pv_fieldAddrIF (by rfl) (by rfl) (by first | decide | (simp; done) | (simp; omega))) ?_) | (refine aop_pv (pv_neq (by rfl) (by rfl)) ?_) | (refine aop_pv (pv_neqB (by rfl) (by rfl)) ?_) | (refine aop_pv (pv_neqA (by rfl) (by rfl) (by kernel_rfl)) ?_) | (refine appendS ?_) | (refine virtS 98 103 1 8 3 ?_; refine appendS ?_))) | (refine adx_op (fun K hK => ?_); (first | ((refine appendS ?_; simp only [go_sem, Nat.reduceAdd, Nat.reduceMul, reduceIte, Nat.reduceEqDiff, Nat.reduceLeDiff, Int.reduceToNat, Int.reducePow, Int.reduceBEq, Int.reduceBNe, Int.reduceLT, Int.reduceLE, decide_true, decide_false, Nat.reduceBEq, Bool.or_self, Bool.or_true, Bool.true_or, Bool.or_false, Bool.false_or, Bool.and_true, Bool.true_and, Bool.and_false, Bool.false_and, Bool.and_self, Bool.not_true, Bool.not_false, List.cons_append, List.nil_append, List.append_nil, if_true, if_false, Bool.false_eq_true, keysH])) | (refine aopx_alloc (d := 12) 12 (by first | rfl | (simp only [go_sem, Nat.reduceAdd, Nat.reduceMul, reduceIte, Nat.reduceEqDiff, Nat.reduceLeDiff, Int.reduceToNat, Int.reducePow, Int.reduceBEq, Int.reduceBNe, Int.reduceLT, Int.reduceLE, decide_true, decide_false]; done) | (simp only [go_sem, Nat.reduceAdd, Nat.reduceMul, reduceIte, Nat.reduceEqDiff, Nat.reduceLeDiff, Int.reduceToNat, Int.reducePow, Int.reduceBEq, Int.reduceBNe, Int.reduceLT, Int.reduceLE, decide_true, decide_false]; rfl) | (simp [St.free, mentHp, AV.mentL, AV.ment])) ?_))) | (refine And.intro ?_ ?_) | (refine gDx ?_; refine adxS ?_) | (refine gO ?_; refine adoS ?_) | (refine gL ?_; (first | exact Le.refl _ | exact weakS)) | (refine gE ?_; (first | (refine Exists.intro hlt ?_) | (refine exN ?_) | (refine exS (fun _ => ?_)))) | (refine gG ?_; refine guardS (fun hc => ?_) (fun hc => ?_) <;> (try (first | contradiction | (exfalso; omega)))) | (refine gQ ?_; (first | (refine condT ?_) | (refine condF ?_) | (refine condS (fun hc => ?_) (fun hc => ?_) <;> (try (first | contradiction | (exfalso; omega)))))) | (refine gWd ?_; refine wdrS ?_) | (refine gW ?_; refine wopsS ?_) | (refine aw_block ?_) | (refine gX ?_; refine exitS ?_) | (refine gT ?_; refine retS ?_) | (refine gS ?_; refine skipS ?_) | (apply_assumption (exfalso := false) (symm := false))))
              refine ⟨k + 1, by omega, by omega, ?_⟩
              rw [hft]
              (refine atS ?_)
              (refine le_weak (by (repeat (first | exact .nil | refine .drop ?_ | refine weak_keep ?_ (by first | rfl | (simp))))) (by (repeat refine hsub_hasE (by rfl) (by first | rfl | (simp)) ?_); exact hsub_nil _))
      · obtain rfl : k = cs.length := by omega
        rw [List.take_length] at *
        
        
        (repeat' (first | (refine hK _ ?_; clear hK K) | (refine aw_seq (fun K hK => ?_)) | (refine gRx 17 (by rfl) ?_; refine regS ?_) | (refine gC 10 ?_; refine callS (hpp) ?_) | (refine stk_op (fun K hK => ?_); (first | (refine aop_pv (pv_fieldAddrF (by rfl) (by rfl) (by first | decide | (simp; done) | (simp; omega))) ?_) | (refine aop_pv (pv_fieldAddrIF (by rfl) (by rfl) (by first | decide | (simp; done) | (simp; omega))) ?_))) | (refine gE ?_; (first | (refine exN ?_) | (refine exS (fun _ => ?_)))) | (refine gQ ?_; (first | (refine condT ?_) | (refine condF ?_) | (refine condS (fun hc => ?_) (fun hc => ?_) <;> (try (first | contradiction | (exfalso; omega)))))) | (refine gW ?_; refine wopsS ?_) | (refine aw_block ?_) | (refine gX ?_; refine exitS ?_) | (refine gT ?_; refine retS ?_) | (refine gS ?_; refine skipS ?_) | (apply_assumption (exfalso := false) (symm := false))))
        (refine aw_le (le_sealDI 100 cs.flatten.length cs.flatten (by rfl) (by first | rfl | simp)) ?_; simp only [go_sem, Nat.reduceAdd, Nat.reduceMul, reduceIte, Nat.reduceEqDiff, Nat.reduceLeDiff, Int.reduceToNat, Int.reducePow, Int.reduceBEq, Int.reduceBNe, Int.reduceLT, Int.reduceLE, decide_true, decide_false])
        (repeat' (first | (refine hK _ ?_; clear hK K) | (refine aw_seq (fun K hK => ?_)) | (refine gR ?_; refine regS ?_) | (refine gC 10 ?_; refine callS (hpp) ?_) | (refine stk_op (fun K hK => ?_); (first | (refine aop_pv (pv_fieldAddrF (by rfl) (by rfl) (by first | decide | (simp; done) | (simp; omega))) ?_) | (refine aop_pv (pv_fieldAddrIF (by rfl) (by rfl) (by first | decide | (simp; done) | (simp; omega))) ?_))) | (refine gE ?_; (first | (refine exN ?_) | (refine exS (fun _ => ?_)))) | (refine gQ ?_; (first | (refine condT ?_) | (refine condF ?_) | (refine condS (fun hc => ?_) (fun hc => ?_) <;> (try (first | contradiction | (exfalso; omega)))))) | (refine gW ?_; refine wopsS ?_) | (refine aw_block ?_) | (refine gX ?_; refine exitS ?_) | (refine gT ?_; refine retS ?_) | (refine gS ?_; refine skipS ?_) | (apply_assumption (exfalso := false) (symm := false))))
        (refine fin_le (Le.refl _) (rv_one (rv1_tmp (by rfl))) (by first | rfl | (simp only [go_sem, Nat.reduceAdd, Nat.reduceMul, reduceIte, Nat.reduceEqDiff, Nat.reduceLeDiff, Int.reduceToNat, Int.reducePow, Int.reduceBEq, Int.reduceBNe, Int.reduceLT, Int.reduceLE, decide_true, decide_false])) ?_)
        rfl
  · have hc := gf_code h
    have hco := cover_no t ls h
    generalize groupsFault t ls = p at *
    
    
    (refine enterS Try.func3 Try.ntmps3 ?_)
    
    (repeat' (first | (refine hK _ ?_; clear hK K) | (refine aw_seq (fun K hK => ?_)) | (refine gR ?_; refine regS ?_) | (refine gC 6 ?_; refine callS (hco) ?_) | (refine gC 7 ?_; refine callS (encodes_pc) ?_) | (refine stk_op (fun K hK => ?_); (first | (refine aop_pv (pv_fieldAddrF (by rfl) (by rfl) (by first | decide | (simp; done) | (simp; omega))) ?_) | (refine aop_pv (pv_fieldAddrIF (by rfl) (by rfl) (by first | decide | (simp; done) | (simp; omega))) ?_) | (refine aop_pv (pv_neq (by rfl) (by rfl)) ?_) | (refine aop_pv (pv_neqB (by rfl) (by rfl)) ?_) | (refine aop_pv (pv_neqA (by rfl) (by rfl) (by kernel_rfl)) ?_) | (refine aop_pv (pv_eql (by rfl) (by rfl)) ?_) | (refine aop_pv (pv_eqlB (by rfl) (by rfl)) ?_) | (refine aop_pv (pv_eqlA (by rfl) (by rfl) (by kernel_rfl)) ?_))) | (refine gE ?_; (first | (refine exN ?_) | (refine exS (fun _ => ?_)))) | (refine gG ?_; refine guardS (fun hc => ?_) (fun hc => ?_) <;> (try (first | contradiction | (exfalso; omega)))) | (refine gQ ?_; (first | (refine condT ?_) | (refine condF ?_) | (refine condS (fun hc => ?_) (fun hc => ?_) <;> (try (first | contradiction | (exfalso; omega)))))) | (refine gW ?_; refine wopsS ?_) | (refine aw_block ?_) | (refine gX ?_; refine exitS ?_) | (refine gT ?_; refine retS ?_) | (refine gS ?_; refine skipS ?_) | (apply_assumption (exfalso := false) (symm := false))))
    (refine fin_le (Le.refl _) (rv_one (rv1_tmp (by rfl))) (by first | rfl | (simp only [go_sem, Nat.reduceAdd, Nat.reduceMul, reduceIte, Nat.reduceEqDiff, Nat.reduceLeDiff, Int.reduceToNat, Int.reducePow, Int.reduceBEq, Int.reduceBNe, Int.reduceLT, Int.reduceLE, decide_true, decide_false])) ?_)
    rfl


end Go.Proofs.Ytpnpnbbanfgpgaa
