import Derived.Test.YthdlckclpmfidaaCpl



namespace Go.Proofs.Ythdlckclpmfidaa
open Go.Ab
open Go
set_option linter.unusedSimpArgs false
set_option linter.unusedVariables false
set_option maxRecDepth 10000
attribute [local irreducible] PV AOp AOps AW PCall OCall MCall WCall HCall Ab.Fin OFin OFin2 MFin HFin RV RV1 Le AStk AGrd ADr ADx ADo AOpX AAny AOpsI wops wdr wgd wdt
set_option maxHeartbeats 16000000
/-! the closed example of package commuting -/
def pairE : Task := ⟨2, [], [0, 1], [⟨[], [0], [], 1⟩, ⟨[], [1], [], 1⟩]⟩
def stepsE : Task := ⟨3, [0], [2], [⟨[0], [1], [0], 2⟩, ⟨[1], [2], [1], 3⟩]⟩
theorem wfPairE : WfT pairE := taskFault_ok.1 (by decide +kernel)
theorem wfStepsE : WfT stepsE := taskFault_ok.1 (by decide +kernel)
theorem stepsE_pc : PCall Try.prog 35 [] (fun r => r = stepsE.av) := by
  (refine enterS Try.func35 Try.ntmps35 ?_)
  (repeat' (first | (refine hK _ ?_; clear hK K) | (refine aw_seq (fun K hK => ?_)) | (refine gR ?_; refine regS ?_) | (refine gE ?_; (first | (refine exN ?_) | (refine exS (fun _ => ?_)))) | (refine gQ ?_; (first | (refine condT ?_) | (refine condF ?_) | (refine condS (fun hc => ?_) (fun hc => ?_) <;> (try (first | contradiction | (exfalso; omega)))))) | (refine gW ?_; refine wopsS ?_) | (refine aw_block ?_) | (refine gX ?_; refine exitS ?_) | (refine gT ?_; refine retS ?_) | (refine gS ?_; refine skipS ?_) | (apply_assumption (exfalso := false) (symm := false))))
  (refine fin_le (Le.refl _) (rv_one (rv1_cell (by first | exact pv_load (by rfl) (by rfl) (by rfl) (by rfl) | exact pv_loadA (by rfl) (by rfl) (by rfl) (by first | decide | simp)))) (by first | rfl | (simp only [go_sem, Nat.reduceAdd, Nat.reduceMul, reduceIte, Nat.reduceEqDiff, Nat.reduceLeDiff, Int.reduceToNat, Int.reducePow, Int.reduceBEq, Int.reduceBNe, Int.reduceLT, Int.reduceLE, decide_true, decide_false])) ?_)
  rfl
def pairA : AV := .agg [.int 2, .nilS, ints [0, 1], .isl 4 80 [.agg [.nilS, ints [0], .nilS, .int 1], .agg [.nilS, ints [1], .nilS, .int 1]]]
theorem pairE_pc : PCall Try.prog 34 [] (fun r => r = pairA) := by
  (refine enterS Try.func34 Try.ntmps34 ?_)
  (repeat' (first | (refine hK _ ?_; clear hK K) | (refine aw_seq (fun K hK => ?_)) | (refine gR ?_; refine regS ?_) | (refine gE ?_; (first | (refine exN ?_) | (refine exS (fun _ => ?_)))) | (refine gQ ?_; (first | (refine condT ?_) | (refine condF ?_) | (refine condS (fun hc => ?_) (fun hc => ?_) <;> (try (first | contradiction | (exfalso; omega)))))) | (refine gW ?_; refine wopsS ?_) | (refine aw_block ?_) | (refine gX ?_; refine exitS ?_) | (refine gT ?_; refine retS ?_) | (refine gS ?_; refine skipS ?_) | (apply_assumption (exfalso := false) (symm := false))))
  (refine fin_le (Le.refl _) (rv_one (rv1_cell (by first | exact pv_load (by rfl) (by rfl) (by rfl) (by rfl) | exact pv_loadA (by rfl) (by rfl) (by rfl) (by first | decide | simp)))) (by first | rfl | (simp only [go_sem, Nat.reduceAdd, Nat.reduceMul, reduceIte, Nat.reduceEqDiff, Nat.reduceLeDiff, Int.reduceToNat, Int.reducePow, Int.reduceBEq, Int.reduceBNe, Int.reduceLT, Int.reduceLE, decide_true, decide_false])) ?_)
  rfl
theorem ends_end {r : List Nat} {e : List Int} (h : endsT stepsE [2] r = some e) : r = [] := by
  cases r with
  | nil => rfl
  | cons i r =>
    obtain ⟨o, h1, h2, h3⟩ := ends_cons.1 h
    match i, h1 with
    | 0, h1 => simp [stepsE] at h1; subst h1; simp [subB, hasB] at h2
    | 1, h1 => simp [stepsE] at h1; subst h1; simp [subB, hasB] at h2
    | i + 2, h1 => simp [stepsE] at h1
theorem stepsE_plan {r : List Nat} (h : WorksT stepsE [0] r) : r = [0, 1] := by
  obtain ⟨e, he, hg⟩ := h
  cases r with
  | nil => simp only [endsT, Option.some.injEq] at he; subst he; exact absurd hg (by decide)
  | cons i r =>
    obtain ⟨o, h1, h2, h3⟩ := ends_cons.1 he
    match i, h1 with
    | 1, h1 => simp [stepsE] at h1; subst h1; simp [subB, hasB] at h2
    | i + 2, h1 => simp [stepsE] at h1
    | 0, h1 =>
      simp [stepsE] at h1; subst h1
      rw [show aft stepsE.facts [0] ⟨[0], [1], [0], 2⟩ = [1] by decide] at h3
      cases r with
      | nil => simp only [endsT, Option.some.injEq] at h3; subst h3; exact absurd hg (by decide)
      | cons i r =>
        obtain ⟨o, h1, h2, h3⟩ := ends_cons.1 h3
        match i, h1 with
        | 0, h1 => simp [stepsE] at h1; subst h1; simp [subB, hasB] at h2
        | i + 2, h1 => simp [stepsE] at h1
        | 1, h1 =>
          simp [stepsE] at h1; subst h1
          rw [show aft stepsE.facts [1] ⟨[1], [2], [1], 3⟩ = [2] by decide] at h3
          rw [ends_end h3]
theorem stepsE_least : LeastC stepsE [0] 5 := ⟨by decide, by decide, fun r h => by rw [stepsE_plan h]; decide, fun _ => ⟨[0, 1], ⟨[2], by decide, by decide⟩, by decide⟩⟩
theorem natP_two {p : List Int} (h0 : ∀ x ∈ p, 0 ≤ x) (h : natP p = [0, 1]) : p = [0, 1] := by
  unfold natP at h
  rcases p with _ | ⟨a, _ | ⟨b, _ | ⟨c, r⟩⟩⟩
  · simp at h
  · simp at h
  · simp at h
    have h1 := h0 a (by simp)
    have h2 := h0 b (by simp)
    rw [show a = 0 by omega, show b = 1 by omega]
  · simp at h
theorem planE : PCall Try.prog 18 [stepsE.av] (fun r => ∃ e, r = .tup [resA [0, 1] 5 e, fault 0 0]) := (planC_pc stepsE).mono fun r h => by
  cases h with
  | bad h => exact absurd (taskFault_ok.2 wfStepsE) h
  | many h hm =>
    obtain ⟨l, h1, h2, h3⟩ := hm
    have hsub : ∀ x ∈ l, x ∈ [[0], [1], [2]] := fun x hx => by
      obtain ⟨plan, hp⟩ := h3 x hx
      have hl : ReachL stepsE [0] [[0], [1], [2]] := ⟨rfl, by decide, fun x hx => by
        simp only [List.mem_cons, List.not_mem_nil, or_false] at hx
        rcases hx with rfl | rfl | rfl
        · exact ⟨[], rfl⟩
        · exact ⟨[0], by decide⟩
        · exact ⟨[0, 1], by decide⟩, by decide, by decide⟩
      exact hl.all (x := [0]) (by simp) hp
    have := nodup_sub h1 hsub
    simp at this
    omega
  | yes h hL hy =>
    rename_i L plan c e
    have h1 := hy.best 5 stepsE_least
    subst h1
    have h2 := natP_two (fun x hx => (hy.ops x hx).1) (stepsE_plan hy.wk)
    subst h2
    exact ⟨e, rfl⟩
  | no h hL hy =>
    have := hy.best 5 stepsE_least
    exact absurd this (by decide)
theorem stubE : stubT pairE [] = [0] := by
  have h0 := LI.start (t := pairE) (s := []) (p := 0)
  rw [show incF (fun i => hasB (pairE.ops[i]!).add 0) [] pairE.ops.length = [0] by decide] at h0
  have h1 := h0.next (by decide)
  rw [show incF (dueB pairE [] ([(0:Int)][0]).toNat) [0] pairE.ops.length = [0] by decide] at h1
  rw [stubT_eq (l := [0]) (by decide) (by rw [show missF [] pairE.goal = 0 by decide]; exact h1)]
  decide
theorem aleP : ALe pairA pairE.av := .agg ⟨ALe.rfl' _, ALe.nil 1 8, ALe.rfl' _, .isl rfl (fun e he => by simp [pairE] at he; rcases he with rfl | rfl <;> rfl) ⟨ALe.nil 1 8, ALe.rfl' _, ALe.nil 1 8, ALe.rfl' _, ALe.nil 1 8, ALe.rfl' _, ALe.nil 1 8, ALe.rfl' _, trivial⟩, trivial⟩
theorem indE1 : PCall Try.prog 11 [pairA, .int 0, .int 1] (fun r => r = .tup [.bool true, fault 0 0]) := pcall_le ((indep_pc pairE 0 1).mono fun r hr => by rw [hr, show indAns pairE 0 1 = true by decide +kernel, show indF pairE 0 1 = (0, 0) by decide +kernel]) ⟨aleP, ALe.rfl' _, ALe.rfl' _, trivial⟩
theorem indE2 : PCall Try.prog 11 [pairA, .int 0, .int 2] (fun r => r = .tup [.bool false, fault 3 (-6)]) := pcall_le ((indep_pc pairE 0 2).mono fun r hr => by rw [hr, show indAns pairE 0 2 = false by decide +kernel, show indF pairE 0 2 = (3, -6) by decide +kernel]) ⟨aleP, ALe.rfl' _, ALe.rfl' _, trivial⟩
theorem indE3 : PCall Try.prog 11 [stepsE.av, .int 0, .int 1] (fun r => r = .tup [.bool false, fault 0 0]) := (indep_pc stepsE 0 1).mono fun r hr => by rw [hr, show indAns stepsE 0 1 = false by decide +kernel, show indF stepsE 0 1 = (0, 0) by decide +kernel]
theorem stubEc : PCall Try.prog 16 [pairA, .nilS] (fun r => r = .tup [ints [0], fault 0 0]) := pcall_le ((stubC_ok pairE [] (by decide +kernel)).mono fun r hr => by rw [hr, stubE]) ⟨aleP, ALe.nil 1 8, trivial⟩
theorem intsE1 : PCall Try.prog 17 [ints [0], ints [0]] (fun r => r = .bool true) := (ints_pc _ _).mono fun r hr => by rw [hr]; rfl
theorem intsE2 : PCall Try.prog 17 [ints [0, 1], ints [0, 1]] (fun r => r = .bool true) := (ints_pc _ _).mono fun r hr => by rw [hr]; rfl










theorem apart_pc : PCall Try.prog 12 [] (fun r => r = .bool true) := by
  (refine enterS Try.func12 Try.ntmps12 ?_)
  (repeat' (first | (refine hK _ ?_; clear hK K) | (refine aw_seq (fun K hK => ?_)) | (refine gR ?_; refine regS ?_) | (refine gD 6 ?_; refine drS (.it 0 0 (.it 1 0 (.it 2 0 (.it 3 0 (.it 4 0 (.it 5 0 (.it 6 0 (.it 7 0 (.it 8 0 (.it 9 0 (.it 10 0 (.it 11 0 (.it 12 0 (.it 13 0 (.it 14 0 (.it 15 0 (.it 16 0 (.it 17 0 (.it 18 0 (.it 19 0 (.it 20 0 (.it 21 0 (.it 22 0 (.it 23 0 (.it 24 0 (.it 25 0 (.it 26 0 (.it 27 2 (.it 28 2 (.it 29 0 (.it 30 0 (.it 31 0 (.it 32 0 (.it 33 0 (.it 34 0 (.it 35 0 (.it 36 0 (.it 37 0 (.it 38 0 (.it 39 0 (.it 40 0 (.it 41 0 (.it 42 2 (.it 43 2 (.it 44 0 (.it 45 0 (.it 46 0 (.it 47 2 (.it 48 0 (.it 49 0 (.it 50 0 .nil))))))))))))))))))))))))))))))))))))))))))))))))))) [0, 1, 2, 3, 4, 5, 6, 7, 8, 9, 10, 11, 12, 13, 14, 15, 16, 17, 18, 19, 20, 21, 22, 23, 24, 25, 26, 27, 28, 29, 30, 31, 32, 33, 34, 35, 36, 37, 38, 39, 40, 41, 42, 43, 44, 45, 46, 47, 48, 49, 50] ?_) | (refine gC 34 ?_; refine callS (pairE_pc) ?_) | (refine gC 11 ?_; refine callS (indE1) ?_) | (refine gC 11 ?_; refine callS (indE2) ?_) | (refine gC 11 ?_; refine callS (indE3) ?_) | (refine gC 35 ?_; refine callS (stepsE_pc) ?_) | (refine gC 16 ?_; refine callS (stubEc) ?_) | (refine gCd 17 ?_; refine callD (intsE1) ?_) | (refine gCd 17 ?_; refine callD (intsE2) ?_) | (refine gCd 10 ?_; refine callD (at_pc _ _) ?_) | (refine stk_op (fun K hK => ?_); refine aop_call (planE) (by rfl) (fun x hx => ?_); obtain ⟨e, rfl⟩ := hx) | (refine adx_op (fun K hK => ?_); (first | (refine aopx_pv (pv_fieldAddrF (by rfl) (by rfl) (by first | decide | (simp; done) | (simp; omega))) ?_) | (refine aopx_pv (pv_fieldAddrIF (by rfl) (by rfl) (by first | decide | (simp; done) | (simp; omega))) ?_) | (refine aopx_pv (pv_eql (by rfl) (by rfl)) ?_) | (refine aopx_pv (pv_eqlB (by rfl) (by rfl)) ?_) | (refine aopx_pv (pv_eqlA (by rfl) (by rfl) (by kernel_rfl)) ?_) | (refine aopx_buildSlice (d := 63) (by exact ⟨by decide, by decide, by decide⟩) (by rfl) (by rfl) (by rfl) (by rfl) ?_) | (refine aopx_buildSlice (d := 78) (by exact ⟨by decide, by decide, by decide⟩) (by rfl) (by rfl) (by rfl) (by rfl) ?_))) | (refine And.intro ?_ ?_) | (refine gDx ?_; refine adxS ?_) | (refine gE ?_; (first | (refine exN ?_) | (refine exS (fun _ => ?_)))) | (refine gGd ?_; refine guardD (fun hc => ?_) (fun hc => ?_) <;> (try (first | contradiction | (exfalso; omega)))) | (refine gQ ?_; (first | (refine condT ?_) | (refine condF ?_) | (refine condS (fun hc => ?_) (fun hc => ?_) <;> (try (first | contradiction | (exfalso; omega)))))) | (refine gWd ?_; refine wdrS ?_) | (refine gW ?_; refine wopsS ?_) | (refine aw_block ?_) | (refine gX ?_; refine exitS ?_) | (refine gT ?_; refine retS ?_) | (refine gS ?_; refine skipS ?_) | (apply_assumption (exfalso := false) (symm := false))))
  (refine fin_le (Le.refl _) (rv_one (rv1_tmp (by rfl))) (by first | rfl | (simp only [go_sem, Nat.reduceAdd, Nat.reduceMul, reduceIte, Nat.reduceEqDiff, Nat.reduceLeDiff, Int.reduceToNat, Int.reducePow, Int.reduceBEq, Int.reduceBNe, Int.reduceLT, Int.reduceLE, decide_true, decide_false])) ?_)
  rfl



end Go.Proofs.Ythdlckclpmfidaa
