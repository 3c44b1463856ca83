import Derived.Test.YtanogjooppnihaaFmw


namespace Go.Proofs.Ytanogjooppnihaa
open Go.Ab
open Go
set_option linter.unusedSimpArgs false
set_option linter.unusedVariables false
set_option maxRecDepth 10000
attribute [local irreducible] PV AOp AOps AW PCall OCall MCall WCall HCall Ab.Fin OFin OFin2 MFin HFin RV RV1 Le AStk AGrd ADr ADx ADo AOpX AAny AOpsI wops wdr wgd wdt
set_option maxHeartbeats 4000000
/-! the truth of a formula for a list of states, with all errors -/
def trA (l : List FNode) : Nat → Nat → Fm
  | 0, _ => default
  | n + 1, i => match (l[i]!).kids with
    | [] => .leaf (l[i]!).kind (l[i]!).fact
    | [c] => .un (l[i]!).kind (l[i]!).fact (trA l n c.toNat)
    | c :: d :: _ => .bin (l[i]!).kind (l[i]!).fact (trA l n c.toNat) (trA l n d.toNat)
theorem dec_trA {l : List FNode} : ∀ {t : Fm} {i n : Nat}, Dec l t i → i < n → trA l n i = t
  | _, _, 0, _, h => absurd h (Nat.not_lt_zero _)
  | .leaf k f, i, n + 1, ⟨_, h, _⟩, _ => by simp only [trA, h]
  | .un k f a, i, n + 1, ⟨_, _, c, h, hc, ha⟩, hi => by
    simp only [trA, h, Int.toNat_natCast]
    rw [dec_trA ha (by omega)]
  | .bin k f a b, i, n + 1, ⟨_, _, c, d, h, hc, hd, ha, hb⟩, hi => by
    simp only [trA, h, Int.toNat_natCast]
    rw [dec_trA ha (by omega), dec_trA hb (by omega)]
/-- The tree of a formula. -/
def rootT (l : List FNode) : Fm := trA l l.length (l.length - 1)
theorem ff_ok {facts : Int} {l : List FNode} (h : formFault facts l = (0, 0)) : (0 ≤ facts ∧ facts ≤ 24) ∧ (0 < l.length ∧ l.length ≤ 60) ∧ ∃ fs, runF facts l l.length = .inr fs ∧ fs[l.length - 1]! = 0 := by
  unfold formFault at h
  split at h
  · cases h
  · rename_i h1
    split at h
    · cases h
    · rename_i h2
      split at h
      · rename_i e he
        subst h
        exfalso
        have : ∀ k, runF facts l k ≠ .inl (0, 0) := by
          intro k
          induction k with
          | zero => simp [runF]
          | succ k ih =>
            rw [runF]
            split
            · rename_i e he
              intro hx; injection hx with hx; subst hx; exact ih he
            · split
              · rename_i c hc
                intro hx
                injection hx with hx
                injection hx with hx _
                subst hx
                unfold nodeE at hc
                split at hc
                · cases hc
                · split at hc
                  · cases hc
                  · split at hc
                    · cases hc
                    · split at hc <;> cases hc
              · simp
        exact this _ he
      · rename_i fs hf
        split at h
        · cases h
        · rename_i h3
          exact ⟨by omega, by omega, fs, hf, Decidable.not_not.1 h3⟩
theorem ff_code {facts : Int} {l : List FNode} (h : formFault facts l ≠ (0, 0)) : (formFault facts l).1 ≠ 0 := by
  have hrun : ∀ k e, runF facts l k = .inl e → e.1 ≠ 0 := by
    intro k
    induction k with
    | zero => intro e h; simp [runF] at h
    | succ k ih =>
      intro e h
      rw [runF] at h
      split at h
      · rename_i e' he
        injection h with h; subst h; exact ih _ he
      · split at h
        · rename_i c hc
          injection h with h
          subst h
          unfold nodeE at hc
          split at hc
          · injection hc with hc; subst hc; simp
          · split at hc
            · injection hc with hc; subst hc; simp
            · split at hc
              · injection hc with hc; subst hc; simp
              · split at hc
                · injection hc with hc; subst hc; simp
                · cases hc
        · cases h
  unfold formFault at h ⊢
  split
  · decide
  · split
    · decide
    · split
      · rename_i e he; exact hrun _ _ he
      · split
        · decide
        · rename_i h1 h2 _ fs hf h3
          rw [if_neg h1, if_neg h2, hf] at h
          simp only at h
          rw [if_neg h3] at h
          exact absurd rfl h
theorem ff_dec {facts : Int} {l : List FNode} (h : formFault facts l = (0, 0)) : (∀ i, i < l.length → Dec l (trA l l.length i) i) ∧ okF facts (rootT l) := by
  obtain ⟨_, hl, fs, hf, _⟩ := ff_ok h
  refine ⟨fun i hi => ?_, ?_⟩
  · obtain ⟨t, ht, _⟩ := runF_dec hf i hi
    rw [dec_trA ht hi]; exact ht
  · obtain ⟨t, ht, ho⟩ := runF_dec hf (l.length - 1) (by omega)
    rw [rootT, dec_trA ht (by omega)]; exact ho
def badB (facts : Int) (ss : List (List Int)) : Bool := ss.any fun s => !isSet s facts
def evalF (facts : Int) (l : List FNode) (ss : List (List Int)) : Int × Int :=
  if formFault facts l ≠ (0, 0) then formFault facts l else if ss.length = 0 ∨ 20 < ss.length then (9, -3) else if badB facts ss then (5, -4) else (0, 0)
def evalB (facts : Int) (l : List FNode) (ss : List (List Int)) : Bool := decide (evalF facts l ss = (0, 0)) && sat (rootT l) ss
theorem satR_zero {t : Fm} {ss : List (List Int)} (h : 0 < (satR t ss).length) : (satR t ss)[0] = sat t ss := by
  rw [satR_get]; rfl

theorem eval_pc (l : List FNode) (facts : Int) (ss : List (List Int)) : PCall Try.prog 14 [formA l, .int facts, rowsS ss] (fun r => r = .tup [.bool (evalB facts l ss), faultP (evalF facts l ss)]) := by
  have hv := fvalid_pc l facts
  by_cases hf : formFault facts l = (0, 0)
  · obtain ⟨hfa, hl, _⟩ := ff_ok hf
    obtain ⟨hd, _⟩ := ff_dec hf
    rw [hf] at hv
    
    by_cases hn : ss.length = 0 ∨ 20 < ss.length
    · have e : evalF facts l ss = (9, -3) := by rw [evalF, if_neg (by simp [hf]), if_pos hn]
      rw [show evalB facts l ss = false by rw [evalB, e]; rfl, e]
      (refine enterS Try.func14 Try.ntmps14 ?_)
      (repeat' (first | (refine hK _ ?_; clear hK K) | (refine aw_seq (fun K hK => ?_)) | (refine gR ?_; refine regS ?_) | (refine gD 3 ?_; refine drS (.it 0 0 (.it 1 0 (.it 2 3 .nil))) [0, 1] ?_) | (refine gC 10 ?_; refine callS (hv) ?_) | (refine gC 26 ?_; refine callS (isSet_pc _ _) ?_) | (refine stk_op (fun K hK => ?_); (first | (refine aop_pv (pv_neq (by rfl) (by rfl)) ?_) | (refine aop_pv (pv_neqB (by rfl) (by rfl)) ?_) | (refine aop_pv (pv_neqA (by rfl) (by rfl) (by kernel_rfl)) ?_) | (refine aop_pv (pv_eql (by rfl) (by rfl)) ?_) | (refine aop_pv (pv_eqlB (by rfl) (by rfl)) ?_) | (refine aop_pv (pv_eqlA (by rfl) (by rfl) (by kernel_rfl)) ?_))) | (refine And.intro ?_ ?_) | (refine gDx ?_; refine adxS ?_) | (refine gO ?_; refine adoS ?_) | (refine gE ?_; (first | (refine exN ?_) | (refine exS (fun _ => ?_)))) | (refine gG ?_; refine guardS (fun hc => ?_) (fun hc => ?_) <;> (try (first | contradiction | (exfalso; omega) | (exfalso; simp_all [Prod.ext_iff]; done)))) | (refine gQ ?_; (first | (refine condT ?_) | (refine condF ?_) | (refine condS (fun hc => ?_) (fun hc => ?_) <;> (try (first | contradiction | (exfalso; omega) | (exfalso; simp_all [Prod.ext_iff]; done)))))) | (refine gWd ?_; refine wdrS ?_) | (refine gW ?_; refine wopsS ?_) | (refine aw_block ?_) | (refine gX ?_; refine exitS ?_) | (refine gT ?_; refine retS ?_) | (refine gS ?_; refine skipS ?_) | (apply_assumption (exfalso := false) (symm := false))))
      all_goals ((refine fin_le (Le.refl _) (rv_two (rv1_tmp (by rfl)) (rv1_cell (by first | exact pv_load (by rfl) (by rfl) (by rfl) (by rfl) | exact pv_loadA (by rfl) (by rfl) (by rfl) (by first | decide | simp)))) (by first | rfl | (simp only [go_sem, Nat.reduceAdd, Nat.reduceMul, reduceIte, Nat.reduceEqDiff, Nat.reduceLeDiff, Int.reduceToNat, Int.reducePow, Int.reduceBEq, Int.reduceBNe, Int.reduceLT, Int.reduceLE, decide_true, decide_false])) ?_); rfl)
    · have e : evalF facts l ss = if badB facts ss then (5, -4) else (0, 0) := by rw [evalF, if_neg (by simp [hf]), if_neg hn]
      have hts : (((List.range l.length).map fun i => trA l l.length i)).length = l.length := by simp
      have hget : ∀ i, i < l.length → (((List.range l.length).map fun i => trA l l.length i))[i]! = trA l l.length i := fun i hi => by
        rw [getBang (by rw [hts]; exact hi)]; simp
      have hh := holds_pc l ss ((List.range l.length).map fun i => trA l l.length i) hl.2 hl.1 (by omega) hts (fun i hi => by rw [hget i hi]; exact hd i hi)
      rw [hget _ (by omega)] at hh
      have hsl := satR_len (rootT l) ss
      rw [show trA l l.length (l.length - 1) = rootT l from rfl] at hh
      
      (refine enterS Try.func14 Try.ntmps14 ?_)
      (repeat' (first | (refine hK _ ?_; clear hK K) | (refine aw_seq (fun K hK => ?_)) | (refine gR ?_; refine regS ?_) | (refine gD 3 ?_; refine drS (.it 0 0 (.it 1 0 (.it 2 3 .nil))) [0, 1] ?_) | (refine gC 10 ?_; refine callS (hv) ?_) | (refine gC 26 ?_; refine callS (isSet_pc _ _) ?_) | (refine gC 27 ?_; refine callS (hh) ?_) | (refine stk_op (fun K hK => ?_); (first | (refine aop_pv (pv_neq (by rfl) (by rfl)) ?_) | (refine aop_pv (pv_neqB (by rfl) (by rfl)) ?_) | (refine aop_pv (pv_neqA (by rfl) (by rfl) (by kernel_rfl)) ?_) | (refine aop_pv (pv_eql (by rfl) (by rfl)) ?_) | (refine aop_pv (pv_eqlB (by rfl) (by rfl)) ?_) | (refine aop_pv (pv_eqlA (by rfl) (by rfl) (by kernel_rfl)) ?_))) | (refine And.intro ?_ ?_) | (refine gDx ?_; refine adxS ?_) | (refine gO ?_; refine adoS ?_) | (refine gE ?_; (first | (refine exN ?_) | (refine exS (fun _ => ?_)))) | (refine gG ?_; refine guardS (fun hc => ?_) (fun hc => ?_) <;> (try (first | contradiction | (exfalso; omega) | (exfalso; simp_all [Prod.ext_iff]; done)))) | (refine gQ ?_; (first | (refine condT ?_) | (refine condF ?_) | (refine condS (fun hc => ?_) (fun hc => ?_) <;> (try (first | contradiction | (exfalso; omega) | (exfalso; simp_all [Prod.ext_iff]; done)))))) | (refine gWd ?_; refine wdrS ?_) | (refine gW ?_; refine wopsS ?_) | (refine aw_block ?_) | (refine gX ?_; refine exitS ?_) | (refine gT ?_; refine retS ?_) | (refine gS ?_; refine skipS ?_) | (apply_assumption (exfalso := false) (symm := false))))
      refine aw_loop_at [6, 10, 29, 30, 31, 32, 33, 34, 35, 36, 37, 38] (fun k : Nat => k ≤ ss.length ∧ ∀ i (hi : i < ss.length), i < k → isSet ss[i] facts = true) (fun k => ss.length - k) (fun k => [(29, .int k)]) (fun _ => [(3, ⟨24, [nodesA l], true⟩), (7, ⟨27, [.int 0, .int 0], true⟩), (8, ⟨27, [.int 0, .int 0], true⟩)]) 0 ⟨by omega, by omega⟩ ?_ ?_
      · (refine atS ?_)
        (exact weakS)
      · rintro k ⟨hk, hs⟩ K hK
        (refine atS ?_)
        by_cases hlt : k < ss.length
        · (repeat' (first | (refine hK _ ?_; clear hK K) | (refine aw_seq (fun K hK => ?_)) | (refine gR ?_; refine regS ?_) | (refine gD 3 ?_; refine drS (.it 0 0 (.it 1 0 (.it 2 3 .nil))) [0, 1] ?_) | (refine gC 10 ?_; refine callS (hv) ?_) | (refine gC 26 ?_; refine callS (isSet_pc _ _) ?_) | (refine gC 27 ?_; refine callS (hh) ?_) | (refine stk_op (fun K hK => ?_); (first | (refine aop_pv (pv_neq (by rfl) (by rfl)) ?_) | (refine aop_pv (pv_neqB (by rfl) (by rfl)) ?_) | (refine aop_pv (pv_neqA (by rfl) (by rfl) (by kernel_rfl)) ?_) | (refine aop_pv (pv_eql (by rfl) (by rfl)) ?_) | (refine aop_pv (pv_eqlB (by rfl) (by rfl)) ?_) | (refine aop_pv (pv_eqlA (by rfl) (by rfl) (by kernel_rfl)) ?_))) | (refine And.intro ?_ ?_) | (refine gDx ?_; refine adxS ?_) | (refine gO ?_; refine adoS ?_) | (refine gE ?_; (first | (refine exN ?_) | (refine exS (fun _ => ?_)))) | (refine gG ?_; refine guardS (fun hc => ?_) (fun hc => ?_) <;> (try (first | contradiction | (exfalso; omega) | (exfalso; simp_all [Prod.ext_iff]; done)))) | (refine gQ ?_; (first | (refine condT ?_) | (refine condF ?_) | (refine condS (fun hc => ?_) (fun hc => ?_) <;> (try (first | contradiction | (exfalso; omega) | (exfalso; simp_all [Prod.ext_iff]; done)))))) | (refine gWd ?_; refine wdrS ?_) | (refine gW ?_; refine wopsS ?_) | (refine aw_block ?_) | (refine gX ?_; refine exitS ?_) | (refine gT ?_; refine retS ?_) | (refine gS ?_; refine skipS ?_) | (apply_assumption (exfalso := false) (symm := false))))
          · (refine fin_le (Le.refl _) (rv_two (rv1_tmp (by rfl)) (rv1_cell (by first | exact pv_load (by rfl) (by rfl) (by rfl) (by rfl) | exact pv_loadA (by rfl) (by rfl) (by rfl) (by first | decide | simp)))) (by first | rfl | (simp only [go_sem, Nat.reduceAdd, Nat.reduceMul, reduceIte, Nat.reduceEqDiff, Nat.reduceLeDiff, Int.reduceToNat, Int.reducePow, Int.reduceBEq, Int.reduceBNe, Int.reduceLT, Int.reduceLE, decide_true, decide_false])) ?_)
            have hb : badB facts ss = true := List.any_eq_true.2 ⟨ss[k], List.getElem_mem hlt, by simp_all⟩
            have e2 : evalF facts l ss = (5, -4) := by rw [e, if_pos hb]
            rw [show evalB facts l ss = false by rw [evalB, e2]; rfl, e2]
            rfl
          · refine ⟨k + 1, ⟨by omega, fun i hi hik => ?_⟩, by omega, ?_⟩
            · rcases Nat.lt_or_ge i k with h | h
              · exact hs i hi h
              · obtain rfl : i = k := by omega
                simp_all
            · (refine atS ?_)
              (exact weakS)
        · obtain rfl : k = ss.length := by omega
          have hb : badB facts ss = false := by
            rw [Bool.eq_false_iff]
            intro hc
            obtain ⟨s, hs1, hs2⟩ := List.any_eq_true.1 hc
            obtain ⟨i, hi, rfl⟩ := List.getElem_of_mem hs1
            rw [hs i hi hi] at hs2
            cases hs2
          have e2 : evalF facts l ss = (0, 0) := by rw [e, hb]; rfl
          have hz := satR_zero (t := rootT l) (ss := ss) (by omega)
          (repeat' (first | (refine hK _ ?_; clear hK K) | (refine aw_seq (fun K hK => ?_)) | (refine gR ?_; refine regS ?_) | (refine gD 3 ?_; refine drS (.it 0 0 (.it 1 0 (.it 2 3 .nil))) [0, 1] ?_) | (refine gC 10 ?_; refine callS (hv) ?_) | (refine gC 26 ?_; refine callS (isSet_pc _ _) ?_) | (refine gC 27 ?_; refine callS (hh) ?_) | (refine stk_op (fun K hK => ?_); (first | (refine aop_pv (pv_neq (by rfl) (by rfl)) ?_) | (refine aop_pv (pv_neqB (by rfl) (by rfl)) ?_) | (refine aop_pv (pv_neqA (by rfl) (by rfl) (by kernel_rfl)) ?_) | (refine aop_pv (pv_eql (by rfl) (by rfl)) ?_) | (refine aop_pv (pv_eqlB (by rfl) (by rfl)) ?_) | (refine aop_pv (pv_eqlA (by rfl) (by rfl) (by kernel_rfl)) ?_))) | (refine And.intro ?_ ?_) | (refine gDx ?_; refine adxS ?_) | (refine gO ?_; refine adoS ?_) | (refine gE ?_; (first | (refine exN ?_) | (refine exS (fun _ => ?_)))) | (refine gG ?_; refine guardS (fun hc => ?_) (fun hc => ?_) <;> (try (first | contradiction | (exfalso; omega) | (exfalso; simp_all [Prod.ext_iff]; done)))) | (refine gQ ?_; (first | (refine condT ?_) | (refine condF ?_) | (refine condS (fun hc => ?_) (fun hc => ?_) <;> (try (first | contradiction | (exfalso; omega) | (exfalso; simp_all [Prod.ext_iff]; done)))))) | (refine gWd ?_; refine wdrS ?_) | (refine gW ?_; refine wopsS ?_) | (refine aw_block ?_) | (refine gX ?_; refine exitS ?_) | (refine gT ?_; refine retS ?_) | (refine gS ?_; refine skipS ?_) | (apply_assumption (exfalso := false) (symm := false))))
          (refine fin_le (Le.refl _) (rv_two (rv1_tmp (by rfl)) (rv1_cell (by first | exact pv_load (by rfl) (by rfl) (by rfl) (by rfl) | exact pv_loadA (by rfl) (by rfl) (by rfl) (by first | decide | simp)))) (by first | rfl | (simp only [go_sem, Nat.reduceAdd, Nat.reduceMul, reduceIte, Nat.reduceEqDiff, Nat.reduceLeDiff, Int.reduceToNat, Int.reducePow, Int.reduceBEq, Int.reduceBNe, Int.reduceLT, Int.reduceLE, decide_true, decide_false])) ?_)
          rw [hz, show evalB facts l ss = sat (rootT l) ss by rw [evalB, e2]; rfl, e2]
          rfl
  · have hc := ff_code hf
    have e : evalF facts l ss = formFault facts l := by rw [evalF, if_pos hf]
    rw [show evalB facts l ss = false by rw [evalB, e, decide_eq_false hf]; rfl, e]
    generalize formFault facts l = p at *
    
    (refine enterS Try.func14 Try.ntmps14 ?_)
    (repeat' (first | (refine hK _ ?_; clear hK K) | (refine aw_seq (fun K hK => ?_)) | (refine gR ?_; refine regS ?_) | (refine gD 3 ?_; refine drS (.it 0 0 (.it 1 0 (.it 2 3 .nil))) [0, 1] ?_) | (refine gC 10 ?_; refine callS (hv) ?_) | (refine gC 26 ?_; refine callS (isSet_pc _ _) ?_) | (refine gC 27 ?_; refine callS (hh) ?_) | (refine stk_op (fun K hK => ?_); (first | (refine aop_pv (pv_neq (by rfl) (by rfl)) ?_) | (refine aop_pv (pv_neqB (by rfl) (by rfl)) ?_) | (refine aop_pv (pv_neqA (by rfl) (by rfl) (by kernel_rfl)) ?_) | (refine aop_pv (pv_eql (by rfl) (by rfl)) ?_) | (refine aop_pv (pv_eqlB (by rfl) (by rfl)) ?_) | (refine aop_pv (pv_eqlA (by rfl) (by rfl) (by kernel_rfl)) ?_))) | (refine And.intro ?_ ?_) | (refine gDx ?_; refine adxS ?_) | (refine gO ?_; refine adoS ?_) | (refine gE ?_; (first | (refine exN ?_) | (refine exS (fun _ => ?_)))) | (refine gG ?_; refine guardS (fun hc => ?_) (fun hc => ?_) <;> (try (first | contradiction | (exfalso; omega) | (exfalso; simp_all [Prod.ext_iff]; done)))) | (refine gQ ?_; (first | (refine condT ?_) | (refine condF ?_) | (refine condS (fun hc => ?_) (fun hc => ?_) <;> (try (first | contradiction | (exfalso; omega) | (exfalso; simp_all [Prod.ext_iff]; done)))))) | (refine gWd ?_; refine wdrS ?_) | (refine gW ?_; refine wopsS ?_) | (refine aw_block ?_) | (refine gX ?_; refine exitS ?_) | (refine gT ?_; refine retS ?_) | (refine gS ?_; refine skipS ?_) | (apply_assumption (exfalso := false) (symm := false))))
    all_goals ((refine fin_le (Le.refl _) (rv_two (rv1_tmp (by rfl)) (rv1_cell (by first | exact pv_load (by rfl) (by rfl) (by rfl) (by rfl) | exact pv_loadA (by rfl) (by rfl) (by rfl) (by first | decide | simp)))) (by first | rfl | (simp only [go_sem, Nat.reduceAdd, Nat.reduceMul, reduceIte, Nat.reduceEqDiff, Nat.reduceLeDiff, Int.reduceToNat, Int.reducePow, Int.reduceBEq, Int.reduceBNe, Int.reduceLT, Int.reduceLE, decide_true, decide_false])) ?_); rfl)




end Go.Proofs.Ytanogjooppnihaa
