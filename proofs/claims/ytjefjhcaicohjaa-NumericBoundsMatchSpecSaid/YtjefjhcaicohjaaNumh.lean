import Derived.Test.YtjefjhcaicohjaaNumg


namespace Go.Proofs.Ytjefjhcaicohjaa
open Go.Ab
open Go
set_option linter.unusedSimpArgs false
set_option linter.unusedVariables false
set_option maxRecDepth 10000
attribute [local irreducible] PV AOp AOps AW PCall OCall Ab.Fin OFin RV RV1 Le AStk AGrd ADr ADx ADo AOpX AAny
set_option maxHeartbeats 4000000
/-! what a valid task is -/
theorem firstSome_none {α : Type} {g : Nat → Option α} {n : Nat} (h : firstSome g n = none) : ∀ i, i < n → g i = none := by
  induction n with
  | zero => intro i hi; omega
  | succ n ih =>
    simp only [firstSome, Option.or_eq_none_iff] at h
    intro i hi
    rcases Nat.lt_or_ge i n with h1 | h1
    · exact ih h.1 i h1
    · obtain rfl : i = n := by omega
      exact h.2
theorem wfC_of {n : Nat} {l : List Cmp} (h : cmpCode n l = none) : WfC n l := by
  unfold cmpCode at h
  split at h
  · cases h
  · intro c hc
    obtain ⟨i, hi, rfl⟩ := List.getElem_of_mem hc
    have h1 := firstSome_none h i hi
    rw [cmpAt_eq hi] at h1
    unfold cmpCode1 at h1
    split at h1
    · cases h1
    · split at h1
      · cases h1
      · rename_i h2
        have h3 : listOk 1000 n l[i].f = true := by cases hq : listOk 1000 n l[i].f with | true => rfl | false => exact absurd (.inl hq) h2
        have := listOk_iff.1 h3
        exact ⟨by omega, this.2⟩
theorem wfG_of {n : Nat} {l : List Chg} (h : chgCode n l = none) : WfG n l := by
  intro c hc
  obtain ⟨i, hi, rfl⟩ := List.getElem_of_mem hc
  have h1 := firstSome_none h i hi
  rw [chgAt_eq hi (by omega)] at h1
  unfold chgCode1 at h1
  split at h1
  · cases h1
  · rename_i h2
    rw [inB_f] at h2
    have h3 : listOk 1000 n l[i].f = true := by cases hq : listOk 1000 n l[i].f with | true => rfl | false => exact absurd (.inr (.inr (.inl hq))) h2
    have := listOk_iff.1 h3
    exact ⟨by omega, by omega, by omega, this.2, by omega, by omega⟩
structure WfT (t : NT) : Prop where
  n1 : 1 ≤ t.init.length
  n8 : t.init.length ≤ 8
  bd : Bd 1000000 t.init
  goal : WfC t.init.length t.goal
  pre : ∀ o ∈ t.ops, WfC t.init.length o.pre
  chg : ∀ o ∈ t.ops, WfG t.init.length o.chg
  ops : t.ops.length ≤ 40
theorem wfT_of {t : NT} (h : numFault t = (0, 0)) : WfT t := by
  by_cases h1 : t.init.length = 0 ∨ 8 < t.init.length
  · rw [nf_a h1] at h; simp at h
  cases h2 : listOk 1000000 t.init.length t.init with
  | false => rw [nf_b h1 h2] at h; simp at h
  | true =>
    cases h3 : cmpCode t.init.length t.goal with
    | some e => rw [nf_c h1 h2 h3] at h; simp at h
    | none =>
      by_cases h4 : 40 < t.ops.length
      · rw [nf_d h1 h2 h3 h4] at h; simp at h
      · rw [nf_e h1 h2 h3 h4] at h
        have h5 : firstSome (opAt t.init.length t.ops) t.ops.length = none := by
          cases hq : firstSome (opAt t.init.length t.ops) t.ops.length with
          | none => rfl
          | some p =>
            rw [hq] at h
            simp only [Option.getD_some] at h
            subst h
            obtain ⟨i, hi⟩ := firstSome_of hq
            unfold opAt at hi
            rw [Option.map_eq_some_iff] at hi
            obtain ⟨e, he, hp⟩ := hi
            have := opCode_ne he
            simp at hp
            exact absurd hp.1 this
        have ho : ∀ o ∈ t.ops, opCode t.init.length o = none := by
          intro o ho
          obtain ⟨i, hi, rfl⟩ := List.getElem_of_mem ho
          have := firstSome_none h5 i hi
          rw [opAt_eq hi] at this
          simpa using this
        refine ⟨by omega, by omega, (listOk_iff.1 h2).2, wfC_of h3, fun o hm => ?_, fun o hm => ?_, by omega⟩
        · have := ho o hm
          simp only [opCode, Option.or_eq_none_iff] at this
          exact wfC_of this.1
        · have := ho o hm
          simp only [opCode, Option.or_eq_none_iff] at this
          exact wfG_of this.2.1
def applyOf (t : NT) (v : List Int) (op : Int) : List Int × (Int × Int) :=
  if numFault t ≠ (0, 0) then ([], numFault t) else if listOk 1000000 t.init.length v = false then ([], (5, -4)) else if op < 0 ∨ t.ops.length ≤ op then ([], (3, -6)) else
  if (nextOf t.ops[op.toNat]! v).2 ≠ 0 then ([], ((nextOf t.ops[op.toNat]! v).2, op)) else ((nextOf t.ops[op.toNat]! v).1, (0, 0))

theorem apply_pc (t : NT) (v : List Int) (op : Int) : PCall Try.prog 47 [t.av, ints v, .int op] (fun r => r = .tup [ints (applyOf t v op).1, faultP (applyOf t v op).2]) := by
  by_cases hf : numFault t = (0, 0)
  · have hw := wfT_of hf
    by_cases hv : listOk 1000000 t.init.length v = true
    · have hv2 := listOk_iff.1 hv
      have hvl : v.length = t.init.length := by omega
      have h8 : v.length ≤ 8 := by have := hw.n8; omega
      have b2 := hv2.2
      by_cases hop : 0 ≤ op ∧ op < t.ops.length
      · have hlt : op.toNat < t.ops.length := by omega
        have hwc : WfC v.length t.ops[op.toNat].pre := by rw [hvl]; exact hw.pre _ (List.getElem_mem hlt)
        have hwg : WfG v.length t.ops[op.toNat].chg := by rw [hvl]; exact hw.chg _ (List.getElem_mem hlt)
        have ho : t.ops[op.toNat]! = t.ops[op.toNat] := getElem!_pos t.ops op.toNat hlt
        have e : applyOf t v op = if (nextOf t.ops[op.toNat] v).2 ≠ 0 then ([], ((nextOf t.ops[op.toNat] v).2, op)) else ((nextOf t.ops[op.toNat] v).1, (0, 0)) := by
          unfold applyOf; rw [if_neg (by simp [hf]), if_neg (by simp [hv]), if_neg (by omega), ho]
        rw [e]
        (refine enterS Try.func47 Try.ntmps47 ?_)
        (repeat' (first | (refine hK _ ?_; clear hK K) | (refine aw_seq (fun K hK => ?_)) | (refine gR ?_; refine regS ?_) | (refine gD 3 ?_; refine drS (.it 0 0 (.it 1 0 (.it 2 3 .nil))) [0, 1] ?_) | (refine gE ?_; (first | (refine exN ?_) | (refine exS (fun _ => ?_)))) | (refine gC 41 ?_; refine callS (validate_pc _) ?_) | (refine gC 79 ?_; refine callS (values_pc _ _) ?_) | (refine gC 83 ?_; refine callS (next_pc _ _ (by assumption) (by assumption) (by assumption) (by assumption)) ?_) | (refine stk_op (fun K hK => ?_); (first | (refine aop_pv (pv_neq (by rfl) (by rfl)) ?_) | (refine aop_pv (pv_neqB (by rfl) (by rfl)) ?_) | (refine aop_pv (pv_neqA (by rfl) (by rfl) (by kernel_rfl)) ?_) | (refine aop_pv (pv_fieldAddrF (by rfl) (by rfl) (by first | decide | (simp; done) | (simp; omega))) ?_) | (refine aop_pv (pv_fieldAddrIF (by rfl) (by rfl) (by first | decide | (simp; done) | (simp; omega))) ?_))) | (refine And.intro ?_ ?_) | (refine gDx ?_; refine adxS ?_) | (refine gO ?_; refine adoS ?_) | (refine gQ ?_; (first | (refine condT ?_) | (refine condF ?_) | (refine condS (fun hc => ?_) (fun hc => ?_) <;> (try (first | contradiction | (exfalso; omega) | (exfalso; simp [hf] at hc; done) | (exfalso; simp [hv] at hc; done) | (exfalso; simp_all [Prod.ext_iff]; done)))))) | (refine gG ?_; refine guardS (fun hc => ?_) (fun hc => ?_) <;> (try (first | contradiction | (exfalso; omega) | (exfalso; simp [hf] at hc; done) | (exfalso; simp [hv] at hc; done) | (exfalso; simp_all [Prod.ext_iff]; done)))) | (refine gW ?_; refine wopsS ?_) | (refine gWd ?_; refine wdrS ?_) | (refine aw_block ?_) | (refine gX ?_; refine exitS ?_) | (refine gT ?_; refine retS ?_) | (refine gS ?_; refine skipS ?_) | (apply_assumption (exfalso := false) (symm := false))))
        · rw [if_pos ‹_›]
          (refine fin_le (le_nilI 6 1 8 rfl) (rv_two (rv1_tmp (by rfl)) (rv1_cell (by first | exact pv_load (by rfl) (by rfl) (by rfl) (by rfl) | exact pv_loadA (by rfl) (by rfl) (by rfl) (by first | decide | simp)))) (by rfl) ?_; rfl)
        · rw [if_neg (by simp [*])]
          (refine fin_le (Le.refl _) (rv_two (rv1_tmp (by rfl)) (rv1_cell (by first | exact pv_load (by rfl) (by rfl) (by rfl) (by rfl) | exact pv_loadA (by rfl) (by rfl) (by rfl) (by first | decide | simp)))) (by first | rfl | (simp only [go_sem, Nat.reduceAdd, Nat.reduceMul, reduceIte, Nat.reduceEqDiff, Nat.reduceLeDiff, Int.reduceBEq, Int.reduceBNe, Int.reduceLT, Int.reduceLE, decide_true, decide_false])) ?_)
          rfl
      · have e : applyOf t v op = ([], (3, -6)) := by unfold applyOf; rw [if_neg (by simp [hf]), if_neg (by simp [hv]), if_pos (by omega)]
        rw [e]
        (refine enterS Try.func47 Try.ntmps47 ?_)
        (repeat' (first | (refine hK _ ?_; clear hK K) | (refine aw_seq (fun K hK => ?_)) | (refine gR ?_; refine regS ?_) | (refine gD 3 ?_; refine drS (.it 0 0 (.it 1 0 (.it 2 3 .nil))) [0, 1] ?_) | (refine gE ?_; (first | (refine exN ?_) | (refine exS (fun _ => ?_)))) | (refine gC 41 ?_; refine callS (validate_pc _) ?_) | (refine gC 79 ?_; refine callS (values_pc _ _) ?_) | (refine gC 83 ?_; refine callS (next_pc _ _ (by assumption) (by assumption) (by assumption) (by assumption)) ?_) | (refine stk_op (fun K hK => ?_); (first | (refine aop_pv (pv_neq (by rfl) (by rfl)) ?_) | (refine aop_pv (pv_neqB (by rfl) (by rfl)) ?_) | (refine aop_pv (pv_neqA (by rfl) (by rfl) (by kernel_rfl)) ?_) | (refine aop_pv (pv_fieldAddrF (by rfl) (by rfl) (by first | decide | (simp; done) | (simp; omega))) ?_) | (refine aop_pv (pv_fieldAddrIF (by rfl) (by rfl) (by first | decide | (simp; done) | (simp; omega))) ?_))) | (refine And.intro ?_ ?_) | (refine gDx ?_; refine adxS ?_) | (refine gO ?_; refine adoS ?_) | (refine gQ ?_; (first | (refine condT ?_) | (refine condF ?_) | (refine condS (fun hc => ?_) (fun hc => ?_) <;> (try (first | contradiction | (exfalso; omega) | (exfalso; simp [hf] at hc; done) | (exfalso; simp [hv] at hc; done) | (exfalso; simp_all [Prod.ext_iff]; done)))))) | (refine gG ?_; refine guardS (fun hc => ?_) (fun hc => ?_) <;> (try (first | contradiction | (exfalso; omega) | (exfalso; simp [hf] at hc; done) | (exfalso; simp [hv] at hc; done) | (exfalso; simp_all [Prod.ext_iff]; done)))) | (refine gW ?_; refine wopsS ?_) | (refine gWd ?_; refine wdrS ?_) | (refine aw_block ?_) | (refine gX ?_; refine exitS ?_) | (refine gT ?_; refine retS ?_) | (refine gS ?_; refine skipS ?_) | (apply_assumption (exfalso := false) (symm := false))))
        all_goals (refine fin_le (le_nilI 6 1 8 rfl) (rv_two (rv1_tmp (by rfl)) (rv1_cell (by first | exact pv_load (by rfl) (by rfl) (by rfl) (by rfl) | exact pv_loadA (by rfl) (by rfl) (by rfl) (by first | decide | simp)))) (by rfl) ?_; rfl)
    · have e : applyOf t v op = ([], (5, -4)) := by unfold applyOf; rw [if_neg (by simp [hf]), if_pos (by simpa using hv)]
      rw [e]
      (refine enterS Try.func47 Try.ntmps47 ?_)
      (repeat' (first | (refine hK _ ?_; clear hK K) | (refine aw_seq (fun K hK => ?_)) | (refine gR ?_; refine regS ?_) | (refine gD 3 ?_; refine drS (.it 0 0 (.it 1 0 (.it 2 3 .nil))) [0, 1] ?_) | (refine gE ?_; (first | (refine exN ?_) | (refine exS (fun _ => ?_)))) | (refine gC 41 ?_; refine callS (validate_pc _) ?_) | (refine gC 79 ?_; refine callS (values_pc _ _) ?_) | (refine gC 83 ?_; refine callS (next_pc _ _ (by assumption) (by assumption) (by assumption) (by assumption)) ?_) | (refine stk_op (fun K hK => ?_); (first | (refine aop_pv (pv_neq (by rfl) (by rfl)) ?_) | (refine aop_pv (pv_neqB (by rfl) (by rfl)) ?_) | (refine aop_pv (pv_neqA (by rfl) (by rfl) (by kernel_rfl)) ?_) | (refine aop_pv (pv_fieldAddrF (by rfl) (by rfl) (by first | decide | (simp; done) | (simp; omega))) ?_) | (refine aop_pv (pv_fieldAddrIF (by rfl) (by rfl) (by first | decide | (simp; done) | (simp; omega))) ?_))) | (refine And.intro ?_ ?_) | (refine gDx ?_; refine adxS ?_) | (refine gO ?_; refine adoS ?_) | (refine gQ ?_; (first | (refine condT ?_) | (refine condF ?_) | (refine condS (fun hc => ?_) (fun hc => ?_) <;> (try (first | contradiction | (exfalso; omega) | (exfalso; simp [hf] at hc; done) | (exfalso; simp [hv] at hc; done) | (exfalso; simp_all [Prod.ext_iff]; done)))))) | (refine gG ?_; refine guardS (fun hc => ?_) (fun hc => ?_) <;> (try (first | contradiction | (exfalso; omega) | (exfalso; simp [hf] at hc; done) | (exfalso; simp [hv] at hc; done) | (exfalso; simp_all [Prod.ext_iff]; done)))) | (refine gW ?_; refine wopsS ?_) | (refine gWd ?_; refine wdrS ?_) | (refine aw_block ?_) | (refine gX ?_; refine exitS ?_) | (refine gT ?_; refine retS ?_) | (refine gS ?_; refine skipS ?_) | (apply_assumption (exfalso := false) (symm := false))))
      all_goals (refine fin_le (le_nilI 6 1 8 rfl) (rv_two (rv1_tmp (by rfl)) (rv1_cell (by first | exact pv_load (by rfl) (by rfl) (by rfl) (by rfl) | exact pv_loadA (by rfl) (by rfl) (by rfl) (by first | decide | simp)))) (by rfl) ?_; rfl)
  · have e : applyOf t v op = ([], numFault t) := by unfold applyOf; rw [if_pos hf]
    rw [e]
    (refine enterS Try.func47 Try.ntmps47 ?_)
    (repeat' (first | (refine hK _ ?_; clear hK K) | (refine aw_seq (fun K hK => ?_)) | (refine gR ?_; refine regS ?_) | (refine gD 3 ?_; refine drS (.it 0 0 (.it 1 0 (.it 2 3 .nil))) [0, 1] ?_) | (refine gE ?_; (first | (refine exN ?_) | (refine exS (fun _ => ?_)))) | (refine gC 41 ?_; refine callS (validate_pc _) ?_) | (refine gC 79 ?_; refine callS (values_pc _ _) ?_) | (refine gC 83 ?_; refine callS (next_pc _ _ (by assumption) (by assumption) (by assumption) (by assumption)) ?_) | (refine stk_op (fun K hK => ?_); (first | (refine aop_pv (pv_neq (by rfl) (by rfl)) ?_) | (refine aop_pv (pv_neqB (by rfl) (by rfl)) ?_) | (refine aop_pv (pv_neqA (by rfl) (by rfl) (by kernel_rfl)) ?_) | (refine aop_pv (pv_fieldAddrF (by rfl) (by rfl) (by first | decide | (simp; done) | (simp; omega))) ?_) | (refine aop_pv (pv_fieldAddrIF (by rfl) (by rfl) (by first | decide | (simp; done) | (simp; omega))) ?_))) | (refine And.intro ?_ ?_) | (refine gDx ?_; refine adxS ?_) | (refine gO ?_; refine adoS ?_) | (refine gQ ?_; (first | (refine condT ?_) | (refine condF ?_) | (refine condS (fun hc => ?_) (fun hc => ?_) <;> (try (first | contradiction | (exfalso; omega) | (exfalso; simp [hf] at hc; done) | (exfalso; simp [hv] at hc; done) | (exfalso; simp_all [Prod.ext_iff]; done)))))) | (refine gG ?_; refine guardS (fun hc => ?_) (fun hc => ?_) <;> (try (first | contradiction | (exfalso; omega) | (exfalso; simp [hf] at hc; done) | (exfalso; simp [hv] at hc; done) | (exfalso; simp_all [Prod.ext_iff]; done)))) | (refine gW ?_; refine wopsS ?_) | (refine gWd ?_; refine wdrS ?_) | (refine aw_block ?_) | (refine gX ?_; refine exitS ?_) | (refine gT ?_; refine retS ?_) | (refine gS ?_; refine skipS ?_) | (apply_assumption (exfalso := false) (symm := false))))
    all_goals (refine fin_le (le_nilI 6 1 8 rfl) (rv_two (rv1_tmp (by rfl)) (rv1_cell (by first | exact pv_load (by rfl) (by rfl) (by rfl) (by rfl) | exact pv_loadA (by rfl) (by rfl) (by rfl) (by first | decide | simp)))) (by rfl) ?_; rfl)


end Go.Proofs.Ytjefjhcaicohjaa
