import Derived.Test.YtpnpnbbanfgpgaaMvm



namespace Go.Proofs.Ytpnpnbbanfgpgaa
open Go.Ab
open Go
set_option linter.unusedSimpArgs false
set_option linter.unusedVariables false
set_option maxRecDepth 10000
attribute [local irreducible] PV AOp AOps AW PCall OCall MCall WCall HCall Ab.Fin OFin OFin2 MFin HFin RV RV1 Le AStk AGrd ADr ADx ADo AOpX AAny
set_option maxHeartbeats 40000000
/-! what a state and a valid task give -/
theorem stB_iff {m : MTask} {s : List Int} : stB m s = true ↔ s.length = m.sizes.length ∧ ∀ i, i < s.length → 0 ≤ s[i]! ∧ s[i]! < m.sizes[i]! := by unfold stB; rw [decide_eq_true_eq]
theorem asB_iff {m : MTask} {l : List (Int × Int)} : asB m l = true ↔ ∀ i, i < l.length → asAt m l i := by unfold asB; rw [decide_eq_true_eq]
theorem asB_vars {m : MTask} {s : List Int} {l : List (Int × Int)} (hs : s.length = m.sizes.length) (h : asB m l = true) : InVars s l := by
  intro a ha
  obtain ⟨i, hi, rfl⟩ := List.getElem_of_mem ha
  have := asB_iff.1 h i hi
  unfold asAt at this
  rw [getElem!_pos l i hi] at this
  omega
theorem asB_step {m : MTask} {l : List (Int × Int)} (h : asB m l = true) : ∀ i, i < l.length → (i : Int) ≤ l[i]!.1
  | 0, hi => by have := asB_iff.1 h 0 hi; unfold asAt at this; omega
  | i + 1, hi => by
    have h1 := asB_step h i (by omega)
    have h2 := asB_iff.1 h (i + 1) hi
    unfold asAt at h2
    have h3 := h2.2.2.2.2 (by omega)
    rw [show i + 1 - 1 = i from rfl] at h3
    omega
theorem asB_len {m : MTask} {l : List (Int × Int)} (h : asB m l = true) : l.length ≤ m.sizes.length := by
  rcases Nat.eq_zero_or_pos l.length with h0 | h0
  · omega
  · have h1 := asB_step h (l.length - 1) (by omega)
    have h2 := asB_iff.1 h (l.length - 1) (by omega)
    unfold asAt at h2
    omega
theorem nat_of {n : Int} (h : 0 ≤ n) : ((n.toNat : Nat) : Int) = n := by omega
/-! the states of a plan -/
def opM (m : MTask) (x : Int) : MOp := m.ops[x.toNat]!
def InOpsM (m : MTask) (plan : List Int) : Prop := ∀ x ∈ plan, 0 ≤ x ∧ x < m.ops.length
def runM (m : MTask) : List Int → List Int → Option (List Int)
  | s, [] => some s
  | s, x :: r => if holdsM s (opM m x).pre = true then runM m (applyM s (opM m x).post) r else none
def solvesM (m : MTask) (plan : List Int) : Bool := match runM m m.init plan with | none => false | some s => holdsM s m.goal
theorem opM_at {m : MTask} {x : Int} (h0 : 0 ≤ x) (h1 : x < m.ops.length) : opM m x = m.ops[x.toNat]'(by omega) := getElem!_pos m.ops _ (by omega)
def pathM (m : MTask) (plan : List Int) : Nat → Option (List Int)
  | 0 => some m.init
  | k + 1 => match pathM m plan k with
    | none => none
    | some s => if holdsM s (opM m plan[k]!).pre = true then some (applyM s (opM m plan[k]!).post) else none
theorem runM_path {m : MTask} {plan : List Int} {k : Nat} {s : List Int} (hk : k < plan.length) : runM m s (plan.drop k) = if holdsM s (opM m plan[k]!).pre = true then runM m (applyM s (opM m plan[k]!).post) (plan.drop (k + 1)) else none := by
  rw [List.drop_eq_getElem_cons hk, runM, getElem!_pos plan k hk]
theorem nextMi_pc (m : MTask) (s : List Int) (x : Int) (h0 : 0 ≤ x) (h1 : x < m.ops.length) (hs : s.length ≤ 1000) (hpl : (m.ops[x.toNat]'(by omega)).post.length ≤ 1000) (h : InVars s (m.ops[x.toNat]'(by omega)).post) : PCall Try.prog 46 [m.av, ints s, .int x] (fun r => r = ints (applyM s (m.ops[x.toNat]'(by omega)).post)) := by
  have := nextMt_pc m s x.toNat (by omega) hs hpl h
  rw [nat_of h0] at this
  exact this
theorem solvesM_pc (m : MTask) (plan : List Int) (h : MValid m) (h60 : plan.length ≤ 60) (hp : InOpsM m plan) : PCall Try.prog 13 [m.av, ints plan] (fun r => r = .tup [.bool (solvesM m plan), fault 0 0]) := by
  have hst : stepsFault m.ops.length plan = (0, 0) := by
    unfold stepsFault
    rw [if_neg (by omega), if_pos]
    rw [List.all_eq_true]
    intro x hx
    have := hp x hx
    rw [inB_t]; omega
  have hpf := planFM_pc m plan h (by have := h.n40; omega)
  rw [hst] at hpf
  have hi := (stB_iff.1 h.init).1
  have hgo := asB_vars hi h.goal
  have hn8 := h.n8
  have hn40 := h.n40
  
  (refine enterS Try.func13 Try.ntmps13 ?_)
  
  (repeat' (first | (refine hK _ ?_; clear hK K) | (refine aw_seq (fun K hK => ?_)) | (refine gR ?_; refine regS ?_) | (refine gC 44 ?_; refine callS (hpf) ?_) | (refine gE ?_; refine exN ?_) | (refine gQ ?_; refine condF ?_) | (refine aw_block ?_) | (refine gS ?_; refine skipS ?_)))
  refine aw_loop_at (ι := Nat × List Int) [4, 7, 9, 21, 22, 23, 24, 25, 26, 27, 28, 29, 30, 31, 32, 33, 34, 35, 36, 37, 38, 39] (fun p => p.1 ≤ plan.length ∧ p.2.length = m.sizes.length ∧ runM m m.init plan = runM m p.2 (plan.drop p.1)) (fun p => plan.length - p.1) (fun p => [(21, .int p.1), (7, ints p.2)]) (fun _ => [(2, ⟨40, m.cs, true⟩), (5, ⟨28, [.int 0, .int 0], true⟩), (6, ⟨28, [.int 0, .int 0], true⟩)]) (0, m.init) ⟨by omega, hi, rfl⟩ ?_ ?_
  · (refine atS ?_)
    (exact weakS)
  · rintro ⟨k, s⟩ ⟨hk, hsl, hr⟩ K hK
    (refine atS ?_)
    dsimp only at hk hsl hr ⊢
    by_cases hlt : k < plan.length
    · have hx := hp _ (List.getElem_mem hlt)
      have hrun := runM_path (m := m) (s := s) hlt
      rw [getElem!_pos plan k hlt, opM_at hx.1 hx.2] at hrun
      have hop := h.ops _ (List.getElem_mem (show plan[k].toNat < m.ops.length by omega))
      have hpre := asB_vars hsl hop.1
      have hpost := asB_vars hsl hop.2.1
      have hpl := asB_len hop.2.1
      have hho := holdsM_pc s _ hpre
      have hne := nextMi_pc m s plan[k] hx.1 hx.2 (by omega) (by omega) hpost
      
      
      
      (repeat' (first | (refine hK _ ?_; clear hK K) | (refine aw_seq (fun K hK => ?_)) | (refine gR ?_; refine regS ?_) | (refine gC 45 ?_; refine callS (hho) ?_) | (refine gC 46 ?_; refine callS (hne) ?_) | (refine gE ?_; (first | (refine exN ?_) | (refine exS (fun _ => ?_)))) | (refine gQ ?_; refine condS (fun hc => ?_) (fun hc => ?_) <;> (try (first | contradiction | (exfalso; omega)))) | (refine aw_block ?_) | (refine gT ?_; refine retS ?_) | (refine gS ?_; refine skipS ?_)))
      · (refine fin_le (Le.refl _) (rv_two (rv1_tmp (by rfl)) (rv1_cell (by first | exact pv_load (by rfl) (by rfl) (by rfl) (by rfl) | exact pv_loadA (by rfl) (by rfl) (by rfl) (by first | decide | simp)))) (by first | rfl | (simp only [go_sem, Nat.reduceAdd, Nat.reduceMul, reduceIte, Nat.reduceEqDiff, Nat.reduceLeDiff, Int.reduceToNat, Int.reducePow, Int.reduceBEq, Int.reduceBNe, Int.reduceLT, Int.reduceLE, decide_true, decide_false])) ?_)
        unfold solvesM
        rw [hr, hrun, if_neg (by simp_all)]
        rfl
      · refine ⟨(k + 1, applyM s (m.ops[plan[k].toNat]'(by omega)).post), ⟨by dsimp only; omega, by dsimp only; rw [applyM_len]; exact hsl, by dsimp only; rw [hr, hrun, if_pos (by assumption)]⟩, by dsimp only; omega, ?_⟩
        (refine atS ?_)
        (exact weakS)
    · obtain rfl : k = plan.length := by omega
      rw [List.drop_length] at hr
      have hho := holdsM_pc s m.goal (asB_vars hsl h.goal)
      
      
      
      (repeat' (first | (refine hK _ ?_; clear hK K) | (refine aw_seq (fun K hK => ?_)) | (refine gR ?_; refine regS ?_) | (refine gC 45 ?_; refine callS (hho) ?_) | (refine gE ?_; refine exN ?_) | (refine gQ ?_; refine condS (fun hc => ?_) (fun hc => ?_) <;> (try (first | contradiction | (exfalso; omega)))) | (refine gX ?_; refine exitS ?_) | (refine gT ?_; refine retS ?_) | (apply_assumption (exfalso := false) (symm := false))))
      (refine fin_le (Le.refl _) (rv_two (rv1_tmp (by rfl)) (rv1_cell (by first | exact pv_load (by rfl) (by rfl) (by rfl) (by rfl) | exact pv_loadA (by rfl) (by rfl) (by rfl) (by first | decide | simp)))) (by first | rfl | (simp only [go_sem, Nat.reduceAdd, Nat.reduceMul, reduceIte, Nat.reduceEqDiff, Nat.reduceLeDiff, Int.reduceToNat, Int.reducePow, Int.reduceBEq, Int.reduceBNe, Int.reduceLT, Int.reduceLE, decide_true, decide_false])) ?_)
      unfold solvesM
      rw [hr]
      rfl

theorem solvesM_no (m : MTask) (plan : List Int) (h : MValid m) (hf : stepsFault m.ops.length plan ≠ (0, 0)) : PCall Try.prog 13 [m.av, ints plan] (fun r => r = .tup [.bool false, faultP (stepsFault m.ops.length plan)]) := by
  have hc := sf_code hf
  have hpf := planFM_pc m plan h (by have := h.n40; omega)
  generalize stepsFault m.ops.length plan = p at *
  
  (refine enterS Try.func13 Try.ntmps13 ?_)
  
  (repeat' (first | (refine hK _ ?_; clear hK K) | (refine aw_seq (fun K hK => ?_)) | (refine gR ?_; refine regS ?_) | (refine gD 3 ?_; refine drS (.it 0 0 (.it 1 0 (.it 2 3 .nil))) [0, 1] ?_) | (refine gC 44 ?_; refine callS (hpf) ?_) | (refine gO ?_; refine adoS ?_) | (refine gE ?_; refine exN ?_) | (refine gQ ?_; refine condS (fun hc => ?_) (fun hc => ?_) <;> (try (first | contradiction | (exfalso; omega)))) | (refine gT ?_; refine retS ?_)))
  (refine fin_le (Le.refl _) (rv_two (rv1_tmp (by rfl)) (rv1_cell (by first | exact pv_load (by rfl) (by rfl) (by rfl) (by rfl) | exact pv_loadA (by rfl) (by rfl) (by rfl) (by first | decide | simp)))) (by first | rfl | (simp only [go_sem, Nat.reduceAdd, Nat.reduceMul, reduceIte, Nat.reduceEqDiff, Nat.reduceLeDiff, Int.reduceToNat, Int.reducePow, Int.reduceBEq, Int.reduceBNe, Int.reduceLT, Int.reduceLE, decide_true, decide_false])) ?_)
  rfl
theorem costM_no (m : MTask) (plan : List Int) (h : MValid m) (hf : stepsFault m.ops.length plan ≠ (0, 0)) : PCall Try.prog 14 [m.av, ints plan] (fun r => r = .tup [.int 0, faultP (stepsFault m.ops.length plan)]) := by
  have hc := sf_code hf
  have hpf := planFM_pc m plan h (by have := h.n40; omega)
  generalize stepsFault m.ops.length plan = p at *
  (refine enterS Try.func14 Try.ntmps14 ?_)
  
  (repeat' (first | (refine hK _ ?_; clear hK K) | (refine aw_seq (fun K hK => ?_)) | (refine gR ?_; refine regS ?_) | (refine gD 3 ?_; refine drS (.it 0 0 (.it 1 0 (.it 2 3 .nil))) [0, 1] ?_) | (refine gC 44 ?_; refine callS (hpf) ?_) | (refine gO ?_; refine adoS ?_) | (refine gE ?_; refine exN ?_) | (refine gQ ?_; refine condS (fun hc => ?_) (fun hc => ?_) <;> (try (first | contradiction | (exfalso; omega)))) | (refine gT ?_; refine retS ?_)))
  (refine fin_le (Le.refl _) (rv_two (rv1_tmp (by rfl)) (rv1_cell (by first | exact pv_load (by rfl) (by rfl) (by rfl) (by rfl) | exact pv_loadA (by rfl) (by rfl) (by rfl) (by first | decide | simp)))) (by first | rfl | (simp only [go_sem, Nat.reduceAdd, Nat.reduceMul, reduceIte, Nat.reduceEqDiff, Nat.reduceLeDiff, Int.reduceToNat, Int.reducePow, Int.reduceBEq, Int.reduceBNe, Int.reduceLT, Int.reduceLE, decide_true, decide_false])) ?_)
  rfl
theorem sf_iff {n : Int} {plan : List Int} : stepsFault n plan = (0, 0) ↔ plan.length ≤ 60 ∧ ∀ x ∈ plan, 0 ≤ x ∧ x < n := by
  unfold stepsFault
  by_cases h : 60 < plan.length
  · rw [if_pos h]; simp; omega
  · rw [if_neg h]
    by_cases h2 : plan.all (fun x => inB x 0 (n - 1)) = true
    · rw [if_pos h2]
      rw [List.all_eq_true] at h2
      simp only [true_iff]
      refine ⟨by omega, fun x hx => ?_⟩
      have := h2 x hx
      rw [inB_t] at this; omega
    · rw [if_neg h2]
      simp only [Prod.mk.injEq, false_iff, show (3 : Int) ≠ 0 by decide, false_and]
      rintro ⟨_, h3⟩
      apply h2
      rw [List.all_eq_true]
      intro x hx
      have := h3 x hx
      rw [inB_t]; omega
def costLM (m : MTask) (plan : List Int) : Int := (plan.map fun x => (opM m x).cost).sum
theorem costLM_take {m : MTask} {plan : List Int} {k : Nat} (h : k < plan.length) : costLM m (plan.take (k + 1)) = costLM m (plan.take k) + (opM m plan[k]).cost := by
  unfold costLM
  rw [List.take_succ_eq_append_getElem h, List.map_append, List.sum_append]; simp
theorem costLM_bd {m : MTask} {plan : List Int} (h : MValid m) (hp : InOpsM m plan) : ∀ k, k ≤ plan.length → 0 ≤ costLM m (plan.take k) ∧ costLM m (plan.take k) ≤ 100 * k
  | 0, _ => by simp [costLM]
  | k + 1, hk => by
    have ih := costLM_bd h hp k (by omega)
    have hx := hp _ (List.getElem_mem (show k < plan.length by omega))
    have ho := (h.ops _ (List.getElem_mem (show plan[k].toNat < m.ops.length by omega))).2.2
    rw [costLM_take (by omega), opM_at hx.1 hx.2]; omega
theorem costM_pc (m : MTask) (plan : List Int) (h : MValid m) (h60 : plan.length ≤ 60) (hp : InOpsM m plan) : PCall Try.prog 14 [m.av, ints plan] (fun r => r = .tup [.int (costLM m plan), fault 0 0]) := by
  have hst : stepsFault m.ops.length plan = (0, 0) := sf_iff.2 ⟨h60, hp⟩
  have hpf := planFM_pc m plan h (by have := h.n40; omega)
  rw [hst] at hpf
  have hn40 := h.n40
  
  
  (refine enterS Try.func14 Try.ntmps14 ?_)
  
  (repeat' (first | (refine hK _ ?_; clear hK K) | (refine aw_seq (fun K hK => ?_)) | (refine gR ?_; refine regS ?_) | (refine gC 44 ?_; refine callS (hpf) ?_) | (refine gE ?_; refine exN ?_) | (refine gQ ?_; refine condF ?_) | (refine aw_block ?_) | (refine gS ?_; refine skipS ?_)))
  refine aw_loop_at [7, 9, 19, 20, 21, 22, 23, 24, 25, 26, 27, 28, 29, 30, 31] (fun k : Nat => k ≤ plan.length) (fun k => plan.length - k) (fun k => [(19, .int k), (7, .int (costLM m (plan.take k)))]) (fun _ => [(2, ⟨40, m.cs, true⟩), (5, ⟨28, [.int 0, .int 0], true⟩), (6, ⟨28, [.int 0, .int 0], true⟩)]) 0 (by omega) ?_ ?_
  · (refine atS ?_)
    (exact weakS)
  · rintro k hk K hK
    (refine atS ?_)
    have hb := costLM_bd h hp k hk
    by_cases hlt : k < plan.length
    · have hx := hp _ (List.getElem_mem hlt)
      have hst := costLM_take (m := m) hlt
      rw [opM_at hx.1 hx.2] at hst
      have hop := (h.ops _ (List.getElem_mem (show plan[k].toNat < m.ops.length by omega))).2.2
      
      (repeat' (first | (refine hK _ ?_; clear hK K) | (refine aw_seq (fun K hK => ?_)) | (refine gR ?_; refine regS ?_) | (refine gE ?_; (first | (refine exN ?_) | (refine exS (fun _ => ?_)))) | (refine gQ ?_; refine condS (fun hc => ?_) (fun hc => ?_) <;> (try (first | contradiction | (exfalso; omega)))) | (refine aw_block ?_) | (refine gS ?_; refine skipS ?_)))
      refine ⟨k + 1, by omega, by omega, ?_⟩
      rw [hst]
      (refine atS ?_)
      (exact weakS)
    · obtain rfl : k = plan.length := by omega
      rw [List.take_length]
      
      (repeat' (first | (refine hK _ ?_; clear hK K) | (refine aw_seq (fun K hK => ?_)) | (refine gR ?_; refine regS ?_) | (refine gE ?_; refine exN ?_) | (refine gQ ?_; refine condS (fun hc => ?_) (fun hc => ?_) <;> (try (first | contradiction | (exfalso; omega)))) | (refine gX ?_; refine exitS ?_) | (refine gT ?_; refine retS ?_) | (apply_assumption (exfalso := false) (symm := false))))
      (refine fin_le (Le.refl _) (rv_two (rv1_tmp (by rfl)) (rv1_cell (by first | exact pv_load (by rfl) (by rfl) (by rfl) (by rfl) | exact pv_loadA (by rfl) (by rfl) (by rfl) (by first | decide | simp)))) (by first | rfl | (simp only [go_sem, Nat.reduceAdd, Nat.reduceMul, reduceIte, Nat.reduceEqDiff, Nat.reduceLeDiff, Int.reduceToNat, Int.reducePow, Int.reduceBEq, Int.reduceBNe, Int.reduceLT, Int.reduceLE, decide_true, decide_false])) ?_)
      rfl


def applL (m : MTask) (s : List Int) : Nat → List Int
  | 0 => []
  | k + 1 => applL m s k ++ if holdsM s m.ops[k]!.pre = true then [(k : Int)] else []
theorem applL_len (m : MTask) (s : List Int) : ∀ k, (applL m s k).length ≤ k
  | 0 => by simp [applL]
  | k + 1 => by
    have := applL_len m s k
    rw [applL, List.length_append]; split <;> simp <;> omega
theorem applicable_pc (m : MTask) (s : List Int) (h : MValid m) (hs : stB m s = true) : PCall Try.prog 20 [m.av, ints s] (fun r => r = .tup [ints (applL m s m.ops.length), fault 0 0]) := by
  have hsf := stateFM_pc m s h
  rw [if_pos hs] at hsf
  have hsl := (stB_iff.1 hs).1
  have hn40 := h.n40
  
  (refine enterS Try.func20 Try.ntmps20 ?_)
  
  (repeat' (first | (refine hK _ ?_; clear hK K) | (refine aw_seq (fun K hK => ?_)) | (refine gR ?_; refine regS ?_) | (refine gC 52 ?_; refine callS (hsf) ?_) | (refine gE ?_; refine exN ?_) | (refine gQ ?_; refine condF ?_) | (refine aw_block ?_) | (refine gS ?_; refine skipS ?_)))
  (refine awVirt 7 100 1 8 3 ?_)
  refine aw_loop_at [7, 8, 9, 20, 21, 22, 23, 24, 25, 26, 27, 28, 29, 30, 31, 32, 33] (fun k : Nat => k ≤ m.ops.length) (fun k => m.ops.length - k) (fun k => [(20, .int k), (7, .sl 1 8 100 0 (applL m s k).length)]) (fun k => [(2, ⟨40, m.cs, true⟩), (5, ⟨28, [.int 0, .int 0], true⟩), (6, ⟨28, [.int 0, .int 0], true⟩), (100, ⟨3, (applL m s k).map AV.int, false⟩)]) 0 (by omega) ?_ ?_
  · (refine atS ?_)
    (exact weakS)
  · rintro k hk K hK
    (refine atS ?_)
    have hal := applL_len m s k
    by_cases hlt : k < m.ops.length
    · have hop := (h.ops _ (List.getElem_mem hlt)).1
      have hho := holdsM_pc s _ (asB_vars hsl hop)
      have hst : applL m s (k + 1) = applL m s k ++ if holdsM s m.ops[k].pre = true then [(k : Int)] else [] := by rw [applL, getElem!_pos m.ops k hlt]
      
      
      (repeat' (first | (refine hK _ ?_; clear hK K) | (refine aw_seq (fun K hK => ?_)) | (refine gR ?_; refine regS ?_) | (refine gC 45 ?_; refine callS (hho) ?_) | (refine stk_op (fun K hK => ?_); (refine appendS ?_; simp only [go_sem, Nat.reduceAdd, Nat.reduceMul, reduceIte, Nat.reduceEqDiff, Nat.reduceLeDiff, Int.reduceToNat, Int.reducePow, Int.reduceBEq, Int.reduceBNe, Int.reduceLT, Int.reduceLE, decide_true, decide_false, Nat.reduceBEq, Bool.or_self, Bool.or_true, Bool.true_or, Bool.or_false, Bool.false_or, Bool.and_true, Bool.true_and, Bool.and_false, Bool.false_and, Bool.and_self, Bool.not_true, Bool.not_false, List.cons_append, List.nil_append, List.append_nil, if_true, if_false, Bool.false_eq_true, keysH])) | (refine gE ?_; (first | (refine exN ?_) | (refine exS (fun _ => ?_)))) | (refine gQ ?_; refine condS (fun hc => ?_) (fun hc => ?_) <;> (try (first | contradiction | (exfalso; omega)))) | (refine aw_block ?_) | (refine gS ?_; refine skipS ?_)))
      · refine ⟨k + 1, by omega, by omega, ?_⟩
        rw [hst, if_pos (by assumption)]
        (refine atS ?_)
        (refine le_weak (by (repeat (first | exact .nil | refine .drop ?_ | refine weak_keep ?_ (by first | rfl | (simp))))) (by (repeat refine hsub_hasE (by rfl) (by first | rfl | (simp)) ?_); exact hsub_nil _))
      · refine ⟨k + 1, by omega, by omega, ?_⟩
        rw [hst, if_neg (by simp_all), List.append_nil]
        (refine atS ?_)
        (exact weakS)
    · obtain rfl : k = m.ops.length := by omega
      
      (repeat' (first | (refine hK _ ?_; clear hK K) | (refine aw_seq (fun K hK => ?_)) | (refine gRx 11 (by rfl) ?_; refine regS ?_) | (refine gQ ?_; refine condS (fun hc => ?_) (fun hc => ?_) <;> (try (first | contradiction | (exfalso; omega)))) | (refine gX ?_; refine exitS ?_) | (apply_assumption (exfalso := false) (symm := false))))
      (refine aw_le (le_sealDI 100 (applL m s m.ops.length).length (applL m s m.ops.length) (by rfl) (by first | rfl | simp)) ?_; simp only [go_sem, Nat.reduceAdd, Nat.reduceMul, reduceIte, Nat.reduceEqDiff, Nat.reduceLeDiff, Int.reduceToNat, Int.reducePow, Int.reduceBEq, Int.reduceBNe, Int.reduceLT, Int.reduceLE, decide_true, decide_false])
      (repeat' (first | (refine hK _ ?_; clear hK K) | (refine gR ?_; refine regS ?_) | (refine gE ?_; refine exN ?_) | (refine gT ?_; refine retS ?_)))
      (refine fin_le (Le.refl _) (rv_two (rv1_tmp (by rfl)) (rv1_cell (by first | exact pv_load (by rfl) (by rfl) (by rfl) (by rfl) | exact pv_loadA (by rfl) (by rfl) (by rfl) (by first | decide | simp)))) (by first | rfl | (simp only [go_sem, Nat.reduceAdd, Nat.reduceMul, reduceIte, Nat.reduceEqDiff, Nat.reduceLeDiff, Int.reduceToNat, Int.reducePow, Int.reduceBEq, Int.reduceBNe, Int.reduceLT, Int.reduceLE, decide_true, decide_false])) ?_)
      rfl

theorem applyM_pc (m : MTask) (s : List Int) (x : Int) (h : MValid m) (hs : stB m s = true) (h0 : 0 ≤ x) (h1 : x < m.ops.length) (hho : holdsM s (m.ops[x.toNat]'(by omega)).pre = true) : PCall Try.prog 22 [m.av, ints s, .int x] (fun r => r = .tup [ints (applyM s (m.ops[x.toNat]'(by omega)).post), fault 0 0]) := by
  have hsf := stateFM_pc m s h
  rw [if_pos hs] at hsf
  have hsl := (stB_iff.1 hs).1
  have hn40 := h.n40
  have hop := h.ops _ (List.getElem_mem (show x.toNat < m.ops.length by omega))
  have hpl := asB_len hop.2.1
  have hn8 := h.n8
  have hh := holdsM_pc s _ (asB_vars hsl hop.1)
  rw [hho] at hh
  have hne := nextMi_pc m s x h0 h1 (by omega) (by omega) (asB_vars hsl hop.2.1)
  
  
  
  
  (refine enterS Try.func22 Try.ntmps22 ?_)
  (repeat' (first | (refine hK _ ?_; clear hK K) | (refine aw_seq (fun K hK => ?_)) | (refine gR ?_; refine regS ?_) | (refine gC 52 ?_; refine callS (hsf) ?_) | (refine gC 45 ?_; refine callS (hh) ?_) | (refine gC 46 ?_; refine callS (hne) ?_) | (refine gE ?_; (first | (refine exN ?_) | (refine exS (fun _ => ?_)))) | (refine gG ?_; refine guardS (fun hc => ?_) (fun hc => ?_) <;> (try (first | contradiction | (exfalso; omega)))) | (refine gQ ?_; (first | (refine condF ?_) | (refine condS (fun hc => ?_) (fun hc => ?_) <;> (try (first | contradiction | (exfalso; omega)))))) | (refine aw_block ?_) | (refine gT ?_; refine retS ?_) | (refine gS ?_; refine skipS ?_)))
  (refine fin_le (Le.refl _) (rv_two (rv1_tmp (by rfl)) (rv1_cell (by first | exact pv_load (by rfl) (by rfl) (by rfl) (by rfl) | exact pv_loadA (by rfl) (by rfl) (by rfl) (by first | decide | simp)))) (by first | rfl | (simp only [go_sem, Nat.reduceAdd, Nat.reduceMul, reduceIte, Nat.reduceEqDiff, Nat.reduceLeDiff, Int.reduceToNat, Int.reducePow, Int.reduceBEq, Int.reduceBNe, Int.reduceLT, Int.reduceLE, decide_true, decide_false])) ?_)
  rfl

end Go.Proofs.Ytpnpnbbanfgpgaa
