import Derived.Test.YthdlckclpmfidaaStp
import Derived.Test.YthdlckclpmfidaaBsr
import Derived.Test.YthdlckclpmfidaaBsk




namespace Go.Proofs.Ythdlckclpmfidaa
open Go.Ab
open Go
set_option linter.unusedSimpArgs false
set_option linter.unusedVariables false
set_option maxRecDepth 10000
attribute [local irreducible] PV AOp AOps AW PCall OCall MCall WCall Ab.Fin OFin OFin2 MFin RV RV1 Le AStk AGrd ADr ADx ADo AOpX AAny
set_option maxHeartbeats 4000000
/-! plans -/
def runL (t : Task) : List Int → List Int → List (List Int)
  | s, [] => [s]
  | s, x :: r => if subB (t.ops[x.toNat]!).pre s then s :: runL t (aft t.facts s t.ops[x.toNat]!) r else [s]
theorem runL_stop {t : Task} {s : List Int} {x : Int} {r : List Int} (h : subB (t.ops[x.toNat]!).pre s = false) : runL t s (x :: r) = [s] := by rw [runL, h]; rfl
theorem runL_go {t : Task} {s : List Int} {x : Int} {r : List Int} (h : subB (t.ops[x.toNat]!).pre s = true) : runL t s (x :: r) = s :: runL t (aft t.facts s t.ops[x.toNat]!) r := by rw [runL, h]; rfl
def InOps (t : Task) (plan : List Int) : Prop := ∀ x ∈ plan, 0 ≤ x ∧ x < t.ops.length
structure RunI (t : Task) (s plan : List Int) (k : Nat) (pre : List (List Int)) (u : List Int) : Prop where
  le : k ≤ plan.length
  len : pre.length = k
  set : isSet u t.facts = true
  eq : runL t s plan = pre ++ runL t u (plan.drop k)
theorem run_pc (t : Task) (s plan : List Int) (hw : WfT t) (hs : isSet s t.facts = true) (hp : InOps t plan) (h60 : plan.length ≤ 1000) : PCall Try.prog 51 [t.av, ints s, ints plan] (fun r => r = rowsI (runL t s plan)) := by
  have h0 := hw.f0
  (refine enterS Try.func51 Try.ntmps51 ?_)
  (repeat' (first | (refine hK _ ?_; clear hK K) | (refine aw_seq (fun K hK => ?_)) | (refine gRx 1 (by rfl) ?_; refine regS ?_) | (refine stk_op (fun K hK => ?_); (first | (refine appendS ?_) | (refine virtS 28 31 1 24 22 ?_; refine appendS ?_))) | (refine gE ?_; (first | (refine exN ?_) | (refine exS (fun _ => ?_)))) | (refine gQ ?_; (first | (refine condT ?_) | (refine condF ?_) | (refine condS (fun hc => ?_) (fun hc => ?_) <;> (try (first | contradiction | (exfalso; omega)))))) | (refine gW ?_; refine wopsS ?_) | (refine aw_block ?_) | (refine gX ?_; refine exitS ?_) | (refine gT ?_; refine retS ?_) | (refine gS ?_; refine skipS ?_) | (apply_assumption (exfalso := false) (symm := false))))
  refine aw_region ?_
  refine aops_cons rfl (fun K1 hK1 => ?_)
  refine aop_pv pv_move ?_
  simp only [go_sem, Nat.reduceAdd, Nat.reduceMul, reduceIte, Nat.reduceEqDiff, Nat.reduceLeDiff, Int.reduceToNat, Int.reducePow, Int.reduceBEq, Int.reduceBNe, Int.reduceLT, Int.reduceLE, decide_true, decide_false]; refine hK1 _ ?_; clear hK1 K1
  refine aops_cons rfl (fun K1 hK1 => ?_)
  refine aop_call (cloneI_pc _) (by rfl) (fun x hx => ?_)
  obtain rfl := hx
  simp only [go_sem, Nat.reduceAdd, Nat.reduceMul, reduceIte, Nat.reduceEqDiff, Nat.reduceLeDiff, Int.reduceToNat, Int.reducePow, Int.reduceBEq, Int.reduceBNe, Int.reduceLT, Int.reduceLE, decide_true, decide_false]; refine hK1 _ ?_; clear hK1 K1
  refine aops_cons rfl (fun K1 hK1 => ?_)
  refine aop_of_x (aopx_buildSliceO (d := 12) ⟨by decide, by decide, by decide⟩ (by rfl) (by rfl) (by rfl) (by rfl) (by rfl) ?_)
  simp only [go_sem, Nat.reduceAdd, Nat.reduceMul, reduceIte, Nat.reduceEqDiff, Nat.reduceLeDiff, Int.reduceToNat, Int.reducePow, Int.reduceBEq, Int.reduceBNe, Int.reduceLT, Int.reduceLE, decide_true, decide_false]; refine hK1 _ ?_; clear hK1 K1
  refine wgo ?_
  (repeat' (first | (refine hK _ ?_; clear hK K) | (refine aw_seq (fun K hK => ?_)) | (refine gR ?_; refine regS ?_) | (refine stk_op (fun K hK => ?_); (first | (refine appendS ?_) | (refine virtS 28 31 1 24 22 ?_; refine appendS ?_))) | (refine gE ?_; (first | (refine exN ?_) | (refine exS (fun _ => ?_)))) | (refine gQ ?_; (first | (refine condT ?_) | (refine condF ?_) | (refine condS (fun hc => ?_) (fun hc => ?_) <;> (try (first | contradiction | (exfalso; omega)))))) | (refine gW ?_; refine wopsS ?_) | (refine aw_block ?_) | (refine gX ?_; refine exitS ?_) | (refine gT ?_; refine retS ?_) | (refine gS ?_; refine skipS ?_) | (apply_assumption (exfalso := false) (symm := false))))
  refine aw_loop_at (1 :: 12 :: [1, 7, 9, 15, 16, 17, 18, 19, 20, 21, 22, 23, 24, 25, 26, 27, 28, 29, 30, 31, 32]) (fun q : Nat × Bool × List (List Int) × List Int => RunI t s plan q.1 q.2.2.1 q.2.2.2) (fun q => plan.length - q.1) (fun q => [(15, .int q.1), (1, ints q.2.2.2), (7, .sl 1 24 12 0 (q.2.2.1 ++ [q.2.2.2]).length)])
    (fun q => [(3, ⟨25, t.cs, true⟩), (12, ⟨22, (q.2.2.1 ++ [q.2.2.2]).map (fun x => ints x), q.2.1⟩)]) (0, true, [], s) ⟨by simp, rfl, hs, by simp⟩ ?_ ?_
  · (refine atS ?_)
    (exact weakS)
  · rintro ⟨k, fl, pre, u⟩ ⟨hk, hpl, hu, he⟩ K hK
    simp only at hk hpl hu he
    (refine atS ?_)
    by_cases hlt : k < plan.length
    · have hx := hp _ (List.getElem_mem hlt)
      have hst := aft_set h0 u t.ops[plan[k].toNat]!
      have hd : plan.drop k = plan[k] :: plan.drop (k + 1) := List.drop_eq_getElem_cons hlt
      rw [hd] at he
      
      
      (repeat' (first | (refine hK _ ?_; clear hK K) | (refine aw_seq (fun K hK => ?_)) | (refine gR ?_; refine regS ?_) | (refine gC 48 ?_; refine callS (can_pc _ _ _ hw hu hx) ?_) | (refine gC 49 ?_; refine callS (next_pc _ _ _ hw hu hx) ?_) | (refine stk_op (fun K hK => ?_); (first | (refine appendS ?_) | (refine virtS 28 31 1 24 22 ?_; refine appendS ?_))) | (refine gE ?_; (first | (refine exN ?_) | (refine exS (fun _ => ?_)))) | (refine gQ ?_; (first | (refine condT ?_) | (refine condF ?_) | (refine condS (fun hc => ?_) (fun hc => ?_) <;> (try (first | contradiction | (exfalso; omega)))))) | (refine gW ?_; refine wopsS ?_) | (refine aw_block ?_) | (refine gX ?_; refine exitS ?_) | (refine gT ?_; refine retS ?_) | (refine gS ?_; refine skipS ?_) | (apply_assumption (exfalso := false) (symm := false))))
      · have hf : runL t s plan = pre ++ [u] := by rw [he, runL_stop (by assumption)]
        refine fin_sl1 (f := fun x => ints x) (pre ++ [u]) rfl (by rfl) (by simp only [List.map_append, List.map_cons, List.map_nil]; rfl) (by simp) (fun _ => rfl) (fun _ => rfl) (by rw [hf])
      · refine ⟨(k + 1, false, pre ++ [u], aft t.facts u t.ops[plan[k].toNat]!), ⟨by simp only; omega, by simp; omega, hst, by simp only; rw [he, runL_go (by assumption), List.append_assoc]; rfl⟩, by simp only; omega, ?_⟩
        (refine atS ?_)
        (exact weakS)
    · obtain rfl : k = plan.length := by omega
      (repeat' (first | (refine hK _ ?_; clear hK K) | (refine aw_seq (fun K hK => ?_)) | (refine gR ?_; refine regS ?_) | (refine gC 48 ?_; refine callS (can_pc _ _ _ hw hu hx) ?_) | (refine gC 49 ?_; refine callS (next_pc _ _ _ hw hu hx) ?_) | (refine stk_op (fun K hK => ?_); (first | (refine appendS ?_) | (refine virtS 28 31 1 24 22 ?_; refine appendS ?_))) | (refine gE ?_; (first | (refine exN ?_) | (refine exS (fun _ => ?_)))) | (refine gQ ?_; (first | (refine condT ?_) | (refine condF ?_) | (refine condS (fun hc => ?_) (fun hc => ?_) <;> (try (first | contradiction | (exfalso; omega)))))) | (refine gW ?_; refine wopsS ?_) | (refine aw_block ?_) | (refine gX ?_; refine exitS ?_) | (refine gT ?_; refine retS ?_) | (refine gS ?_; refine skipS ?_) | (apply_assumption (exfalso := false) (symm := false))))
      have hf : runL t s plan = pre ++ [u] := by rw [he, List.drop_length]; rfl
      refine fin_sl1 (f := fun x => ints x) (pre ++ [u]) rfl (by rfl) (by simp only [List.map_append, List.map_cons, List.map_nil]; rfl) (by simp) (fun _ => rfl) (fun _ => rfl) (by rw [hf])

/-! what a plan does, by its steps' numbers -/
theorem runL_ends {t : Task} : ∀ (plan : List Int) (s : List Int), InOps t plan →
    (∃ e, endsT t s (natP plan) = some e ∧ (runL t s plan).length = plan.length + 1 ∧ (runL t s plan)[plan.length]? = some e) ∨ (endsT t s (natP plan) = none ∧ (runL t s plan).length ≤ plan.length)
  | [], s, _ => .inl ⟨s, rfl, rfl, rfl⟩
  | x :: r, s, hp => by
    have hx := hp x (by simp)
    have hlt : x.toNat < t.ops.length := by omega
    have hg : t.ops[x.toNat]! = t.ops[x.toNat] := getBang hlt
    have e : endsT t s (natP (x :: r)) = if subB t.ops[x.toNat].pre s then endsT t (aft t.facts s t.ops[x.toNat]) (natP r) else none := by
      show endsT t s (x.toNat :: natP r) = _
      rw [endsT, List.getElem?_eq_getElem hlt]
    cases hs : subB (t.ops[x.toNat]!).pre s with
    | false =>
      rw [runL_stop hs]
      rw [hg] at hs
      rw [e, hs]
      exact .inr ⟨rfl, by simp⟩
    | true =>
      rw [runL_go hs]
      rw [hg] at hs ⊢
      rw [e, hs]
      simp only [if_true, List.length_cons, List.getElem?_cons_succ]
      rcases runL_ends r (aft t.facts s t.ops[x.toNat]) (fun y hy => hp y (by simp [hy])) with ⟨d, h1, h2, h3⟩ | ⟨h1, h2⟩
      · exact .inl ⟨d, h1, by omega, h3⟩
      · exact .inr ⟨h1, by omega⟩
theorem runL_set {t : Task} (h0 : 0 ≤ t.facts) : ∀ (plan : List Int) (s : List Int), isSet s t.facts = true → ∀ u ∈ runL t s plan, isSet u t.facts = true
  | [], s, hs, u, hu => by rw [runL, List.mem_singleton] at hu; rw [hu]; exact hs
  | x :: r, s, hs, u, hu => by
    rw [runL] at hu
    split at hu
    · rcases List.mem_cons.1 hu with rfl | hu
      · exact hs
      · exact runL_set h0 r _ (aft_set h0 _ _) u hu
    · rw [List.mem_singleton] at hu; rw [hu]; exact hs

/-! plans of a task, with faults -/
def stepsFault (n : Int) (plan : List Int) : Int × Int := if 60 < plan.length then (2, -5) else if plan.all (fun x => inB x 0 (n - 1)) then (0, 0) else (3, -6)
theorem sf_long {n : Int} {plan : List Int} (h : 60 < plan.length) : stepsFault n plan = (2, -5) := by rw [stepsFault, if_pos h]
theorem sf_bad {n : Int} {plan : List Int} {k : Nat} (h : ¬ 60 < plan.length) (hk : k < plan.length) (hb : inB plan[k] 0 (n - 1) = false) : stepsFault n plan = (3, -6) := by
  rw [stepsFault, if_neg h, all_no (p := fun x => inB x 0 (n - 1)) hk hb]; rfl
theorem sf_ok {n : Int} {plan : List Int} {k : Nat} (h : ¬ 60 < plan.length) (hn : ∀ i (hi : i < plan.length), i < k → inB plan[i] 0 (n - 1) = true) (hk : plan.length ≤ k) : stepsFault n plan = (0, 0) := by
  rw [stepsFault, if_neg h, all_yes (p := fun x => inB x 0 (n - 1)) hn hk]; rfl
theorem sf_in {n : Int} {plan : List Int} (h : stepsFault n plan = (0, 0)) : plan.length ≤ 60 ∧ ∀ x ∈ plan, 0 ≤ x ∧ x < n := by
  unfold stepsFault at h
  split at h
  · simp at h
  · split at h
    · rename_i h1 h2
      rw [List.all_eq_true] at h2
      exact ⟨by omega, fun x hx => by have := h2 x hx; rw [inB_t] at this; omega⟩
    · simp at h
theorem sf_of {n : Int} {plan : List Int} (h : plan.length ≤ 60) (h2 : ∀ x ∈ plan, 0 ≤ x ∧ x < n) : stepsFault n plan = (0, 0) := by
  unfold stepsFault
  rw [if_neg (by omega), if_pos (by rw [List.all_eq_true]; exact fun x hx => by have := h2 x hx; rw [inB_t]; omega)]
theorem sf_code {n : Int} {p : List Int} (h : stepsFault n p ≠ (0, 0)) : (stepsFault n p).1 ≠ 0 := by
  unfold stepsFault at h ⊢
  split
  · simp
  · rename_i h1
    rw [if_neg h1] at h
    split
    · rename_i h2; rw [if_pos h2] at h; simp at h
    · simp
theorem stepsF_pc (n : Int) (plan : List Int) : PCall Try.prog 50 [.int n, ints plan] (fun r => r = faultP (stepsFault n plan)) := by
  (refine enterS Try.func50 Try.ntmps50 ?_)
  (repeat' (first | (refine hK _ ?_; clear hK K) | (refine aw_seq (fun K hK => ?_)) | (refine gR ?_; refine regS ?_) | (refine gE ?_; (first | (refine exN ?_) | (refine exS (fun _ => ?_)))) | (refine gG ?_; refine guardS (fun hc => ?_) (fun hc => ?_) <;> (try (first | contradiction | (exfalso; omega)))) | (refine gQ ?_; (first | (refine condT ?_) | (refine condF ?_) | (refine condS (fun hc => ?_) (fun hc => ?_) <;> (try (first | contradiction | (exfalso; omega)))))) | (refine gW ?_; refine wopsS ?_) | (refine aw_block ?_) | (refine gX ?_; refine exitS ?_) | (refine gT ?_; refine retS ?_) | (refine gS ?_; refine skipS ?_) | (apply_assumption (exfalso := false) (symm := false))))
  · (refine fin_le (Le.refl _) (rv_one (rv1_cell (by first | exact pv_load (by rfl) (by rfl) (by rfl) (by rfl) | exact pv_loadA (by rfl) (by rfl) (by rfl) (by first | decide | simp)))) (by first | rfl | (simp only [go_sem, Nat.reduceAdd, Nat.reduceMul, reduceIte, Nat.reduceEqDiff, Nat.reduceLeDiff, Int.reduceToNat, Int.reducePow, Int.reduceBEq, Int.reduceBNe, Int.reduceLT, Int.reduceLE, decide_true, decide_false])) ?_)
    rw [sf_long (by omega)]
    rfl
  refine aw_loop_at [6, 13, 14, 15, 16, 17, 18, 19, 20, 21, 22, 23, 24, 25] (fun k : Nat => k ≤ plan.length ∧ ∀ i (hi : i < plan.length), i < k → inB plan[i] 0 (n - 1) = true) (fun k => plan.length - k) (fun k => [(13, .int k)]) (fun _ => [(4, ⟨27, [.int 0, .int 0], true⟩)]) 0 ⟨by omega, by omega⟩ ?_ ?_
  · (refine atS ?_)
    (exact weakS)
  · rintro k ⟨hk, hn⟩ K hK
    (refine atS ?_)
    by_cases hlt : k < plan.length
    · (repeat' (first | (refine hK _ ?_; clear hK K) | (refine aw_seq (fun K hK => ?_)) | (refine gR ?_; refine regS ?_) | (refine gE ?_; (first | (refine exN ?_) | (refine exS (fun _ => ?_)))) | (refine gG ?_; refine guardS (fun hc => ?_) (fun hc => ?_) <;> (try (first | contradiction | (exfalso; omega)))) | (refine gQ ?_; (first | (refine condT ?_) | (refine condF ?_) | (refine condS (fun hc => ?_) (fun hc => ?_) <;> (try (first | contradiction | (exfalso; omega)))))) | (refine gW ?_; refine wopsS ?_) | (refine aw_block ?_) | (refine gX ?_; refine exitS ?_) | (refine gT ?_; refine retS ?_) | (refine gS ?_; refine skipS ?_) | (apply_assumption (exfalso := false) (symm := false))))
      · (refine fin_le (Le.refl _) (rv_one (rv1_cell (by first | exact pv_load (by rfl) (by rfl) (by rfl) (by rfl) | exact pv_loadA (by rfl) (by rfl) (by rfl) (by first | decide | simp)))) (by first | rfl | (simp only [go_sem, Nat.reduceAdd, Nat.reduceMul, reduceIte, Nat.reduceEqDiff, Nat.reduceLeDiff, Int.reduceToNat, Int.reducePow, Int.reduceBEq, Int.reduceBNe, Int.reduceLT, Int.reduceLE, decide_true, decide_false])) ?_)
        rw [sf_bad (by omega) hlt (by rw [inB_f]; omega)]
        rfl
      · (refine fin_le (Le.refl _) (rv_one (rv1_cell (by first | exact pv_load (by rfl) (by rfl) (by rfl) (by rfl) | exact pv_loadA (by rfl) (by rfl) (by rfl) (by first | decide | simp)))) (by first | rfl | (simp only [go_sem, Nat.reduceAdd, Nat.reduceMul, reduceIte, Nat.reduceEqDiff, Nat.reduceLeDiff, Int.reduceToNat, Int.reducePow, Int.reduceBEq, Int.reduceBNe, Int.reduceLT, Int.reduceLE, decide_true, decide_false])) ?_)
        rw [sf_bad (by omega) hlt (by rw [inB_f]; omega)]
        rfl
      · (refine ⟨k + 1, ⟨by omega, upto_step hn fun _ => by rw [inB_t]; omega⟩, by omega, ?_⟩; (refine atS ?_); (exact weakS))
    · (repeat' (first | (refine hK _ ?_; clear hK K) | (refine aw_seq (fun K hK => ?_)) | (refine gR ?_; refine regS ?_) | (refine gE ?_; (first | (refine exN ?_) | (refine exS (fun _ => ?_)))) | (refine gG ?_; refine guardS (fun hc => ?_) (fun hc => ?_) <;> (try (first | contradiction | (exfalso; omega)))) | (refine gQ ?_; (first | (refine condT ?_) | (refine condF ?_) | (refine condS (fun hc => ?_) (fun hc => ?_) <;> (try (first | contradiction | (exfalso; omega)))))) | (refine gW ?_; refine wopsS ?_) | (refine aw_block ?_) | (refine gX ?_; refine exitS ?_) | (refine gT ?_; refine retS ?_) | (refine gS ?_; refine skipS ?_) | (apply_assumption (exfalso := false) (symm := false))))
      (refine fin_le (Le.refl _) (rv_one (rv1_cell (by first | exact pv_load (by rfl) (by rfl) (by rfl) (by rfl) | exact pv_loadA (by rfl) (by rfl) (by rfl) (by first | decide | simp)))) (by first | rfl | (simp only [go_sem, Nat.reduceAdd, Nat.reduceMul, reduceIte, Nat.reduceEqDiff, Nat.reduceLeDiff, Int.reduceToNat, Int.reducePow, Int.reduceBEq, Int.reduceBNe, Int.reduceLT, Int.reduceLE, decide_true, decide_false])) ?_)
      rw [sf_ok (by omega) hn (by omega)]
      rfl
def planF (t : Task) (plan : List Int) : Int × Int := if taskFault t ≠ (0, 0) then taskFault t else stepsFault t.ops.length plan
theorem planF_bad {t : Task} {plan : List Int} (h : taskFault t ≠ (0, 0)) : planF t plan = taskFault t := if_pos h
theorem planF_ok {t : Task} {plan : List Int} (h : taskFault t = (0, 0)) : planF t plan = stepsFault t.ops.length plan := if_neg (by simp [h])
theorem planF_in {t : Task} {plan : List Int} : planF t plan = (0, 0) ↔ WfT t ∧ plan.length ≤ 60 ∧ InOps t plan := by
  unfold planF
  constructor
  · intro h
    split at h
    · rename_i h1; exact absurd h h1
    · rename_i h1
      exact ⟨taskFault_ok.1 (Decidable.not_not.1 h1), sf_in h⟩
  · rintro ⟨h1, h2, h3⟩
    rw [if_neg (by simp [taskFault_ok.2 h1])]
    exact sf_of h2 h3
theorem planF_code {t : Task} {plan : List Int} (h : planF t plan ≠ (0, 0)) : (planF t plan).1 ≠ 0 := by
  unfold planF at h ⊢
  split
  · rename_i h1; exact tf_code h1
  · rename_i h1; rw [if_neg h1] at h; exact sf_code h
theorem val_at {t : Task} {p : Int × Int} (e : taskFault t = p) : PCall Try.prog 32 [t.av] (fun r => r = faultP p) := by
  have := validate_pc t
  rw [e] at this
  exact this
def solvesOf (t : Task) (plan : List Int) : Bool × (Int × Int) := if planF t plan ≠ (0, 0) then (false, planF t plan) else (worksB t t.init (natP plan), (0, 0))
theorem solvesOf_bad {t : Task} {plan : List Int} (h : planF t plan ≠ (0, 0)) : solvesOf t plan = (false, planF t plan) := if_pos h
theorem solvesOf_ok {t : Task} {plan : List Int} (h : planF t plan = (0, 0)) : solvesOf t plan = (worksB t t.init (natP plan), (0, 0)) := if_neg (by simp [h])
def costOf (t : Task) (plan : List Int) : Int × (Int × Int) := if planF t plan ≠ (0, 0) then (0, planF t plan) else (costT t (natP plan), (0, 0))
theorem costOf_bad {t : Task} {plan : List Int} (h : planF t plan ≠ (0, 0)) : costOf t plan = (0, planF t plan) := if_pos h
theorem costOf_ok {t : Task} {plan : List Int} (h : planF t plan = (0, 0)) : costOf t plan = (costT t (natP plan), (0, 0)) := if_neg (by simp [h])

end Go.Proofs.Ythdlckclpmfidaa
