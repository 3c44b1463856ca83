import Derived.Test.YtjefjhcaicohjaaNumm

namespace Go.Proofs.Ytjefjhcaicohjaa
open Go.Ab
open Go
set_option linter.unusedSimpArgs false
set_option linter.unusedVariables false
set_option maxRecDepth 10000
attribute [local irreducible] PV AOp AOps AW PCall OCall Ab.Fin OFin RV RV1 Le AStk AGrd ADr ADx ADo AOpX AAny
set_option maxHeartbeats 4000000
@[go_sem] theorem int_beq_self (a : Int) : (a == a) = true := by simp
@[go_sem] theorem int_bne_self (a : Int) : (a != a) = false := by simp
@[go_sem] theorem bool_beq_self (a : Bool) : (a == a) = true := by simp
theorem nf_code {t : NT} (h : numFault t ≠ (0, 0)) : (numFault t).1 ≠ 0 := by
  by_cases h1 : t.init.length = 0 ∨ 8 < t.init.length
  · rw [nf_a h1]; simp
  · cases h2 : listOk 1000000 t.init.length t.init with
    | false => rw [nf_b h1 h2]; simp
    | true =>
      cases h3 : cmpCode t.init.length t.goal with
      | some e => rw [nf_c h1 h2 h3]; exact cmpCode_ne h3
      | none =>
        by_cases h4 : 40 < t.ops.length
        · rw [nf_d h1 h2 h3 h4]; simp
        · rw [nf_e h1 h2 h3 h4] at h ⊢
          cases hq : firstSome (opAt t.init.length t.ops) t.ops.length with
          | none => rw [hq] at h; simp at h
          | some p =>
            simp only [Option.getD_some]
            obtain ⟨i, hi⟩ := firstSome_of hq
            unfold opAt at hi
            rw [Option.map_eq_some_iff] at hi
            obtain ⟨e, he, hp⟩ := hi
            have := opCode_ne he
            subst hp
            exact this
theorem sf_code {n : Int} {p : List Int} (h : stepsFault n p ≠ (0, 0)) : (stepsFault n p).1 ≠ 0 := by
  unfold stepsFault at h ⊢
  split
  · simp
  · split
    · rename_i h1 h2; rw [if_neg h1, if_pos h2] at h; simp at h
    · simp
theorem pc_eq {f : FuncId} {args : List AV} {a b : AV} (h : PCall Try.prog f args (fun r => r = a)) (e : a = b) : PCall Try.prog f args (fun r => r = b) := e ▸ h









theorem ints_nil : PCall Try.prog 48 [ints [], .nilS] (fun r => r = .bool true) := pcall_le (pc_eq (refInts_pc [] []) rfl) ⟨ALe.rfl' _, ALe.nil 1 8, trivial⟩

theorem match_bad (t : NT) (v : List Int) (op : Int) (plan : List Int) (hf : numFault t ≠ (0, 0)) : PCall Try.prog 10 [t.av, ints v, .int op, ints plan] (fun r => r = .bool true) := by
  have hne := nf_code hf
  have c39 := numericFault_pc t
  have c41 := validate_pc t
  have c43 := pc_eq (solves_pc t plan) (b := .tup [.bool false, faultP (numFault t)]) (by rw [show solvesOf t plan = (false, numFault t) by unfold solvesOf; rw [if_pos hf]])
  have c47 := pc_eq (apply_pc t v op) (b := .tup [ints [], faultP (numFault t)]) (by rw [show applyOf t v op = ([], numFault t) by unfold applyOf; rw [if_pos hf]])
  (refine enterS Try.func10 Try.ntmps10 ?_)
  (repeat' (first | (refine hK _ ?_; clear hK K) | (refine aw_seq (fun K hK => ?_)) | (refine gR ?_; refine regS ?_) | (refine gD 2 ?_; refine drS (.it 0 1 (.it 1 0 (.it 2 0 (.it 3 0 (.it 5 0 (.it 4 2 (.it 6 0 (.it 7 0 .nil)))))))) [1, 2, 3, 4, 5, 6, 7] ?_) | (refine gE ?_; (first | (refine exN ?_) | (refine exS (fun _ => ?_)))) | (refine gC 39 ?_; refine callS (c39) ?_) | (refine gCd 40 ?_; refine callD (counts_pc) ?_) | (refine gCd 41 ?_; refine callD (c41) ?_) | (refine gC 42 ?_; refine callS (c42) ?_) | (refine gC 43 ?_; refine callS (c43) ?_) | (refine gC 44 ?_; refine callS (c44) ?_) | (refine gC 45 ?_; refine callS (c45) ?_) | (refine gC 21 ?_; refine callS (at_pc _ _) ?_) | (refine gC 20 ?_; refine callS (in_pc _ _ _) ?_) | (refine gC 46 ?_; refine callS (c46) ?_) | (refine gC 47 ?_; refine callS (c47) ?_) | (refine gC 48 ?_; refine callS (refInts_pc _ _) ?_) | (refine gC 48 ?_; refine callS (ints_nil) ?_) | (refine stk_op (fun K hK => ?_); (first | (refine aop_pv (pv_fieldAddrF (by rfl) (by rfl) (by first | decide | (simp; done) | (simp; omega))) ?_) | (refine aop_pv (pv_fieldAddrIF (by rfl) (by rfl) (by first | decide | (simp; done) | (simp; omega))) ?_) | (refine aop_pv (pv_eql (by rfl) (by rfl)) ?_) | (refine aop_pv (pv_eqlB (by rfl) (by rfl)) ?_) | (refine aop_pv (pv_eqlA (by rfl) (by rfl) (by kernel_rfl)) ?_) | (refine aop_pv (pv_neq (by rfl) (by rfl)) ?_) | (refine aop_pv (pv_neqB (by rfl) (by rfl)) ?_) | (refine aop_pv (pv_neqA (by rfl) (by rfl) (by kernel_rfl)) ?_))) | (refine adx_op (fun K hK => ?_); (first | (refine pv_neq (by rfl) (by rfl) ?_) | (refine pv_neqB (by rfl) (by rfl) ?_) | (refine pv_neqA (by rfl) (by rfl) (by kernel_rfl) ?_))) | (refine And.intro ?_ ?_) | (refine gDx ?_; refine adxS ?_) | (refine gQ ?_; (first | (refine condT ?_) | (refine condF ?_) | (refine condS (fun hc => ?_) (fun hc => ?_) <;> (try (first | contradiction | (exfalso; omega)))))) | (refine gG ?_; refine guardS (fun hc => ?_) (fun hc => ?_) <;> (try (first | contradiction | (exfalso; omega)))) | (refine gGd ?_; refine guardD (fun hc => ?_) (fun hc => ?_) <;> (try (first | contradiction | (exfalso; omega)))) | (refine gW ?_; refine wopsS ?_) | (refine gWd ?_; refine wdrS ?_) | (refine aw_block ?_) | (refine gX ?_; refine exitS ?_) | (refine gT ?_; refine retS ?_) | (refine gS ?_; refine skipS ?_) | (apply_assumption (exfalso := false) (symm := false))))
  (refine fin_le (Le.refl _) (rv_one (rv1_tmp (by rfl))) (by first | rfl | (simp only [go_sem, Nat.reduceAdd, Nat.reduceMul, reduceIte, Nat.reduceEqDiff, Nat.reduceLeDiff, Int.reduceBEq, Int.reduceBNe, Int.reduceLT, Int.reduceLE, decide_true, decide_false])) ?_)
  rfl
theorem nextOf_bad {o : NOp} {v : List Int} (h : (nextOf o v).2 ≠ 0) : (nextOf o v).1 = [] := by
  unfold nextOf at h ⊢
  split
  · rfl
  · split
    · rfl
    · rename_i h1 h2; rw [if_neg h1, if_neg h2] at h; simp at h
theorem match_good (t : NT) (v : List Int) (op : Int) (plan : List Int) (hf : numFault t = (0, 0)) : PCall Try.prog 10 [t.av, ints v, .int op, ints plan] (fun r => r = .bool true) := by
  have hw := wfT_of hf
  have h40 := hw.ops
  have h8 := hw.n8
  have c39 := pc_eq (numericFault_pc t) (b := fault 0 0) (by rw [hf])
  have c41 := pc_eq (validate_pc t) (b := fault 0 0) (by rw [hf])
  have hA : (∃ b, PCall Try.prog 42 [.int t.ops.length, ints plan] (fun r => r = fault 0 0) ∧ PCall Try.prog 43 [t.av, ints plan] (fun r => r = .tup [.bool b, fault 0 0]) ∧ PCall Try.prog 44 [t.av, ints plan] (fun r => r = .bool b)) ∨
      (∃ a b, a ≠ 0 ∧ PCall Try.prog 42 [.int t.ops.length, ints plan] (fun r => r = fault a b) ∧ PCall Try.prog 43 [t.av, ints plan] (fun r => r = .tup [.bool false, fault a b])) := by
    have q := refSteps_pc (t.ops.length : Int) (by omega) plan
    by_cases hs : stepsFault t.ops.length plan = (0, 0)
    · exact .inl ⟨_, pc_eq q (by rw [hs]), pc_eq (solves_pc t plan) (by rw [show solvesOf t plan = (solvesN t plan, (0, 0)) by unfold solvesOf; rw [if_neg (by simp [hf]), if_neg (by simp [hs])]]), numericSolves_pc t plan hf hs⟩
    · exact .inr ⟨_, _, sf_code hs, q, pc_eq (solves_pc t plan) (by rw [show solvesOf t plan = (false, stepsFault t.ops.length plan) by unfold solvesOf; rw [if_neg (by simp [hf]), if_pos hs]])⟩
  have hB : (PCall Try.prog 45 [.int t.init.length, ints v] (fun r => r = .bool false) ∧ PCall Try.prog 47 [t.av, ints v, .int op] (fun r => r = .tup [ints [], fault 5 (-4)])) ∨
      (PCall Try.prog 45 [.int t.init.length, ints v] (fun r => r = .bool true) ∧ (op < 0 ∨ t.ops.length ≤ op) ∧ PCall Try.prog 47 [t.av, ints v, .int op] (fun r => r = .tup [ints [], fault 3 (-6)])) ∨
      (∃ e, e ≠ 0 ∧ PCall Try.prog 45 [.int t.init.length, ints v] (fun r => r = .bool true) ∧ (0 ≤ op ∧ op < t.ops.length) ∧ PCall Try.prog 46 [t.av, ints v, .int op] (fun r => r = .tup [ints [], .int e]) ∧ PCall Try.prog 47 [t.av, ints v, .int op] (fun r => r = .tup [ints [], fault e op])) ∨
      (∃ w, PCall Try.prog 45 [.int t.init.length, ints v] (fun r => r = .bool true) ∧ (0 ≤ op ∧ op < t.ops.length) ∧ PCall Try.prog 46 [t.av, ints v, .int op] (fun r => r = .tup [ints w, .int 0]) ∧ PCall Try.prog 47 [t.av, ints v, .int op] (fun r => r = .tup [ints w, fault 0 0])) := by
    have q5 := valuesOk_pc (t.init.length : Int) v
    have q7 := apply_pc t v op
    cases hv : listOk 1000000 t.init.length v with
    | false => exact .inl ⟨pc_eq q5 (by rw [hv]), pc_eq q7 (by rw [show applyOf t v op = ([], (5, -4)) by unfold applyOf; rw [if_neg (by simp [hf]), if_pos hv]])⟩
    | true =>
      refine .inr ?_
      by_cases hop : op < 0 ∨ t.ops.length ≤ op
      · exact .inl ⟨pc_eq q5 (by rw [hv]), hop, pc_eq q7 (by rw [show applyOf t v op = ([], (3, -6)) by unfold applyOf; rw [if_neg (by simp [hf]), if_neg (by simp [hv]), if_pos hop]])⟩
      · refine .inr ?_
        have hlt : op.toNat < t.ops.length := by omega
        have hv2 := listOk_iff.1 hv
        have hvl : v.length = t.init.length := by omega
        have e : applyOf t v op = if (nextOf t.ops[op.toNat] v).2 ≠ 0 then ([], ((nextOf t.ops[op.toNat] v).2, op)) else ((nextOf t.ops[op.toNat] v).1, (0, 0)) := by
          unfold applyOf; rw [if_neg (by simp [hf]), if_neg (by simp [hv]), if_neg hop, getBang hlt]
        have q6 := numericAfter_pc t v op (by omega) hlt (by omega) hv2.2 (by rw [hvl]; exact hw.pre _ (List.getElem_mem hlt)) (by rw [hvl]; exact hw.chg _ (List.getElem_mem hlt))
        by_cases hn : (nextOf t.ops[op.toNat] v).2 = 0
        · exact .inr ⟨_, pc_eq q5 (by rw [hv]), by omega, pc_eq q6 (by rw [hn]), pc_eq q7 (by rw [e, if_neg (by simp [hn])])⟩
        · exact .inl ⟨_, hn, pc_eq q5 (by rw [hv]), by omega, pc_eq q6 (by rw [nextOf_bad hn]), pc_eq q7 (by rw [e, if_pos hn])⟩
  rcases hA with ⟨b, c42, c43, c44⟩ | ⟨a, b, hne, c42, c43⟩ <;> rcases hB with ⟨c45, c47⟩ | ⟨c45, hop, c47⟩ | ⟨e, he, c45, hop, c46, c47⟩ | ⟨w, c45, hop, c46, c47⟩
  all_goals
    (refine enterS Try.func10 Try.ntmps10 ?_)
    (repeat' (first | (refine hK _ ?_; clear hK K) | (refine aw_seq (fun K hK => ?_)) | (refine gR ?_; refine regS ?_) | (refine gD 2 ?_; refine drS (.it 0 1 (.it 1 0 (.it 2 0 (.it 3 0 (.it 5 0 (.it 4 2 (.it 6 0 (.it 7 0 .nil)))))))) [1, 2, 3, 4, 5, 6, 7] ?_) | (refine gE ?_; (first | (refine exN ?_) | (refine exS (fun _ => ?_)))) | (refine gC 39 ?_; refine callS (c39) ?_) | (refine gCd 40 ?_; refine callD (counts_pc) ?_) | (refine gCd 41 ?_; refine callD (c41) ?_) | (refine gC 42 ?_; refine callS (c42) ?_) | (refine gC 43 ?_; refine callS (c43) ?_) | (refine gC 44 ?_; refine callS (c44) ?_) | (refine gC 45 ?_; refine callS (c45) ?_) | (refine gC 21 ?_; refine callS (at_pc _ _) ?_) | (refine gC 20 ?_; refine callS (in_pc _ _ _) ?_) | (refine gC 46 ?_; refine callS (c46) ?_) | (refine gC 47 ?_; refine callS (c47) ?_) | (refine gC 48 ?_; refine callS (refInts_pc _ _) ?_) | (refine gC 48 ?_; refine callS (ints_nil) ?_) | (refine stk_op (fun K hK => ?_); (first | (refine aop_pv (pv_fieldAddrF (by rfl) (by rfl) (by first | decide | (simp; done) | (simp; omega))) ?_) | (refine aop_pv (pv_fieldAddrIF (by rfl) (by rfl) (by first | decide | (simp; done) | (simp; omega))) ?_) | (refine aop_pv (pv_eql (by rfl) (by rfl)) ?_) | (refine aop_pv (pv_eqlB (by rfl) (by rfl)) ?_) | (refine aop_pv (pv_eqlA (by rfl) (by rfl) (by kernel_rfl)) ?_) | (refine aop_pv (pv_neq (by rfl) (by rfl)) ?_) | (refine aop_pv (pv_neqB (by rfl) (by rfl)) ?_) | (refine aop_pv (pv_neqA (by rfl) (by rfl) (by kernel_rfl)) ?_))) | (refine adx_op (fun K hK => ?_); (first | (refine pv_neq (by rfl) (by rfl) ?_) | (refine pv_neqB (by rfl) (by rfl) ?_) | (refine pv_neqA (by rfl) (by rfl) (by kernel_rfl) ?_))) | (refine And.intro ?_ ?_) | (refine gDx ?_; refine adxS ?_) | (refine gQ ?_; (first | (refine condT ?_) | (refine condF ?_) | (refine condS (fun hc => ?_) (fun hc => ?_) <;> (try (first | contradiction | (exfalso; omega)))))) | (refine gG ?_; refine guardS (fun hc => ?_) (fun hc => ?_) <;> (try (first | contradiction | (exfalso; omega)))) | (refine gGd ?_; refine guardD (fun hc => ?_) (fun hc => ?_) <;> (try (first | contradiction | (exfalso; omega)))) | (refine gW ?_; refine wopsS ?_) | (refine gWd ?_; refine wdrS ?_) | (refine aw_block ?_) | (refine gX ?_; refine exitS ?_) | (refine gT ?_; refine retS ?_) | (refine gS ?_; refine skipS ?_) | (apply_assumption (exfalso := false) (symm := false))))
    (refine fin_le (Le.refl _) (rv_one (rv1_tmp (by rfl))) (by first | rfl | (simp only [go_sem, Nat.reduceAdd, Nat.reduceMul, reduceIte, Nat.reduceEqDiff, Nat.reduceLeDiff, Int.reduceBEq, Int.reduceBNe, Int.reduceLT, Int.reduceLE, decide_true, decide_false])) ?_)
    rfl
theorem match_pc (t : NT) (v : List Int) (op : Int) (plan : List Int) : PCall Try.prog 10 [t.av, ints v, .int op, ints plan] (fun r => r = .bool true) := by
  by_cases hf : numFault t = (0, 0)
  · exact match_good t v op plan hf
  · exact match_bad t v op plan hf
end Go.Proofs.Ytjefjhcaicohjaa
