import Derived.Test.YtokmhfjledbglaaInx
import Derived.Test.YtokmhfjledbglaaSto




namespace Go.Proofs.Ytokmhfjledbglaa
open Go.Ab
open Go
set_option linter.unusedSimpArgs false
set_option linter.unusedVariables false
set_option maxRecDepth 10000
attribute [local irreducible] PV AOp AOps AW PCall OCall MCall WCall Ab.Fin OFin OFin2 MFin RV RV1 Le AStk AGrd ADr ADx ADo AOpX AAny
set_option maxHeartbeats 4000000
/-! an operator keeps a group -/
theorem setNd {s : List Int} (h : s.Pairwise (· < ·)) : s.Nodup := h.imp fun hab he => by omega
theorem le_one {l : List Int} (h : ∀ x ∈ l, ∀ y ∈ l, x = y) (hn : l.Nodup) : l.length ≤ 1 := by
  match l, h, hn with
  | [], _, _ => simp
  | [a], _, _ => simp
  | a :: b :: r, h, hn =>
    have := h a (by simp) b (by simp)
    subst this
    simp at hn
theorem one_le {l : List Int} (h : l.length ≤ 1) {x y : Int} (hx : x ∈ l) (hy : y ∈ l) : x = y := by
  match l, h, hx, hy with
  | [a], _, hx, hy => simp at hx hy; rw [hx, hy]
theorem mem_aft {n : Int} {s : List Int} {o : Op} {x : Int} (h0 : 0 ≤ x) (h1 : x < n) : x ∈ aft n s o ↔ x ∈ o.add ∨ (x ∈ s ∧ ¬ x ∈ o.del) := by
  rw [aft_mem]
  simp [h0, h1]
theorem cnt_one {c s : List Int} (hc : c.Nodup) : cntIn c s ≤ 1 ↔ ∀ x ∈ c, x ∈ s → ∀ y ∈ c, y ∈ s → x = y := by
  unfold cntIn
  constructor
  · intro h x hx hxs y hy hys
    exact one_le (by omega) (mem_capB.2 ⟨hx, hxs⟩) (mem_capB.2 ⟨hy, hys⟩)
  · intro h
    have := le_one (l := capB c s) (fun x hx y hy => h x (mem_capB.1 hx).1 (mem_capB.1 hx).2 y (mem_capB.1 hy).1 (mem_capB.1 hy).2) (hc.filter _)
    omega
theorem keep_one {n : Int} {g s : List Int} {o : Op} (hp : presB o g = true) (hg : isSet g n = true) (ha : o.add.Nodup) (hpre : ∀ x ∈ o.pre, x ∈ s) (h1 : cntIn g s ≤ 1) : cntIn g (aft n s o) ≤ 1 := by
  obtain ⟨hr, hpw⟩ := isSet_iff.1 hg
  have hgn := setNd hpw
  rw [cnt_one hgn] at h1 ⊢
  obtain ⟨hneg, hat⟩ := presB_iff.1 hp
  have hm := fun x (hx : x ∈ g) => mem_aft (n := n) (s := s) (o := o) (hr x hx).1 (hr x hx).2
  by_cases he : ∃ e ∈ g, e ∈ s
  · obtain ⟨e, heg, hes⟩ := he
    obtain ⟨i, hi, rfl⟩ := List.getElem_of_mem heg
    have hi2 := (presAt_at hi).1 (hat i hi) fun y hy => h1 y (mem_capB.1 hy).2 (hpre y (mem_capB.1 hy).1) _ heg hes
    have hA : ∀ x ∈ g, x ∈ aft n s o → x ∈ capB o.add g ∨ (x = g[i] ∧ ¬ x ∈ o.del ∧ ¬ x ∈ o.add) := fun x hx hxa => by
      rcases (hm x hx).1 hxa with h | ⟨h, h'⟩
      · exact .inl (mem_capB.2 ⟨h, hx⟩)
      · by_cases hadd : x ∈ o.add
        · exact .inl (mem_capB.2 ⟨hadd, hx⟩)
        · exact .inr ⟨h1 x hx h _ heg hes, h', hadd⟩
    intro x hx hxa y hy hya
    unfold cntIn at hi2
    rcases hA x hx hxa with h | ⟨h, h', h''⟩ <;> rcases hA y hy hya with k | ⟨k, k', k''⟩
    · exact one_le (by split at hi2 <;> omega) h k
    · subst k
      rw [if_pos ⟨k'', k'⟩] at hi2
      have : (capB o.add g).length ≠ 0 := by have := List.length_pos_of_mem h; omega
      omega
    · subst h
      rw [if_pos ⟨h'', h'⟩] at hi2
      have : (capB o.add g).length ≠ 0 := by have := List.length_pos_of_mem k; omega
      omega
    · rw [h, k]
  · have hno : ∀ x ∈ g, ¬ x ∈ s := fun x hx hxs => he ⟨x, hx, hxs⟩
    have hc := presAt_neg.1 hneg (by
      rw [List.eq_nil_iff_forall_not_mem]
      intro y hy
      exact hno y (mem_capB.1 hy).2 (hpre y (mem_capB.1 hy).1))
    unfold cntIn at hc
    intro x hx hxa y hy hya
    have f : ∀ z ∈ g, z ∈ aft n s o → z ∈ capB o.add g := fun z hz hza => by
      rcases (hm z hz).1 hza with h | ⟨h, _⟩
      · exact mem_capB.2 ⟨h, hz⟩
      · exact absurd h (hno z hz)
    exact one_le (by omega) (f x hx hxa) (f y hy hya)
theorem keep_run {t : Task} {g : List Int} (hw : WfT t) (hg : isSet g t.facts = true) (hp : ∀ o ∈ t.ops, presB o g = true) : ∀ (plan : List Int) (s : List Int), InOps t plan → cntIn g s ≤ 1 → ∀ u ∈ runL t s plan, cntIn g u ≤ 1
  | [], s, _, h1, u, hu => by rw [runL, List.mem_singleton] at hu; rw [hu]; exact h1
  | x :: r, s, hin, h1, u, hu => by
    rw [runL] at hu
    split at hu
    · rename_i hs
      rcases List.mem_cons.1 hu with rfl | hu
      · exact h1
      · have hx := hin x (by simp)
        have hlt : x.toNat < t.ops.length := by omega
        have hgt : t.ops[x.toNat]! = t.ops[x.toNat] := getBang hlt
        rw [hgt] at hs hu
        have hm := List.getElem_mem hlt
        refine keep_run hw hg hp r _ (fun y hy => hin y (by simp [hy])) (keep_one (hp _ hm) hg (setNd (isSet_iff.1 (opOk_sets (hw.ops _ hm).1).2.1).2) ?_ h1) u hu
        exact subB_iff.1 hs
    · rw [List.mem_singleton] at hu; rw [hu]; exact h1
/-! the states of a plan, with faults -/
def stFault (t : Task) (s : List Int) : Int × Int := if taskFault t ≠ (0, 0) then taskFault t else if isSet s t.facts = true then (0, 0) else (5, -4)
theorem stFault_pc (t : Task) (s : List Int) : PCall Try.prog 36 [t.av, ints s] (fun r => r = faultP (stFault t s)) := by
  
  by_cases hf : taskFault t = (0, 0)
  · have hs := isSet_pc s t.facts
    
    
    have e : stFault t s = if isSet s t.facts = true then (0, 0) else (5, -4) := by unfold stFault; rw [if_neg (by simp [hf])]
    rw [e]
    generalize isSet s t.facts = b at *
    cases b
    · (refine enterS Try.func36 Try.ntmps36 ?_)
      (repeat' (first | (refine hK _ ?_; clear hK K) | (refine aw_seq (fun K hK => ?_)) | (refine gR ?_; refine regS ?_) | (refine gC 24 ?_; refine callS (val_at hf) ?_) | (refine gC 25 ?_; refine callS (hs) ?_) | (refine stk_op (fun K hK => ?_); (first | (refine aop_pv (pv_neq (by rfl) (by rfl)) ?_) | (refine aop_pv (pv_neqB (by rfl) (by rfl)) ?_) | (refine aop_pv (pv_neqA (by rfl) (by rfl) (by kernel_rfl)) ?_) | (refine aop_pv (pv_fieldAddrF (by rfl) (by rfl) (by first | decide | (simp; done) | (simp; omega))) ?_) | (refine aop_pv (pv_fieldAddrIF (by rfl) (by rfl) (by first | decide | (simp; done) | (simp; omega))) ?_))) | (refine gE ?_; (first | (refine exN ?_) | (refine exS (fun _ => ?_)))) | (refine gQ ?_; (first | (refine condT ?_) | (refine condF ?_) | (refine condS (fun hc => ?_) (fun hc => ?_) <;> (try (first | contradiction | (exfalso; omega)))))) | (refine gW ?_; refine wopsS ?_) | (refine aw_block ?_) | (refine gX ?_; refine exitS ?_) | (refine gT ?_; refine retS ?_) | (refine gS ?_; refine skipS ?_) | (apply_assumption (exfalso := false) (symm := false))))
      all_goals (refine fin_le (Le.refl _) (rv_one (rv1_cell (by first | exact pv_load (by rfl) (by rfl) (by rfl) (by rfl) | exact pv_loadA (by rfl) (by rfl) (by rfl) (by first | decide | simp)))) (by first | rfl | (simp only [go_sem, Nat.reduceAdd, Nat.reduceMul, reduceIte, Nat.reduceEqDiff, Nat.reduceLeDiff, Int.reduceToNat, Int.reducePow, Int.reduceBEq, Int.reduceBNe, Int.reduceLT, Int.reduceLE, decide_true, decide_false])) ?_)
      all_goals rfl
    · (refine enterS Try.func36 Try.ntmps36 ?_)
      (repeat' (first | (refine hK _ ?_; clear hK K) | (refine aw_seq (fun K hK => ?_)) | (refine gR ?_; refine regS ?_) | (refine gC 24 ?_; refine callS (val_at hf) ?_) | (refine gC 25 ?_; refine callS (hs) ?_) | (refine stk_op (fun K hK => ?_); (first | (refine aop_pv (pv_neq (by rfl) (by rfl)) ?_) | (refine aop_pv (pv_neqB (by rfl) (by rfl)) ?_) | (refine aop_pv (pv_neqA (by rfl) (by rfl) (by kernel_rfl)) ?_) | (refine aop_pv (pv_fieldAddrF (by rfl) (by rfl) (by first | decide | (simp; done) | (simp; omega))) ?_) | (refine aop_pv (pv_fieldAddrIF (by rfl) (by rfl) (by first | decide | (simp; done) | (simp; omega))) ?_))) | (refine gE ?_; (first | (refine exN ?_) | (refine exS (fun _ => ?_)))) | (refine gQ ?_; (first | (refine condT ?_) | (refine condF ?_) | (refine condS (fun hc => ?_) (fun hc => ?_) <;> (try (first | contradiction | (exfalso; omega)))))) | (refine gW ?_; refine wopsS ?_) | (refine aw_block ?_) | (refine gX ?_; refine exitS ?_) | (refine gT ?_; refine retS ?_) | (refine gS ?_; refine skipS ?_) | (apply_assumption (exfalso := false) (symm := false))))
      all_goals (refine fin_le (Le.refl _) (rv_one (rv1_cell (by first | exact pv_load (by rfl) (by rfl) (by rfl) (by rfl) | exact pv_loadA (by rfl) (by rfl) (by rfl) (by first | decide | simp)))) (by first | rfl | (simp only [go_sem, Nat.reduceAdd, Nat.reduceMul, reduceIte, Nat.reduceEqDiff, Nat.reduceLeDiff, Int.reduceToNat, Int.reducePow, Int.reduceBEq, Int.reduceBNe, Int.reduceLT, Int.reduceLE, decide_true, decide_false])) ?_)
      all_goals rfl
  · have hac := tf_code hf
    have e : stFault t s = taskFault t := by unfold stFault; rw [if_pos hf]
    rw [e]
    
    
    (refine enterS Try.func36 Try.ntmps36 ?_)
    (repeat' (first | (refine hK _ ?_; clear hK K) | (refine aw_seq (fun K hK => ?_)) | (refine gR ?_; refine regS ?_) | (refine gC 24 ?_; refine callS (validate_pc _) ?_) | (refine stk_op (fun K hK => ?_); (first | (refine aop_pv (pv_neq (by rfl) (by rfl)) ?_) | (refine aop_pv (pv_neqB (by rfl) (by rfl)) ?_) | (refine aop_pv (pv_neqA (by rfl) (by rfl) (by kernel_rfl)) ?_) | (refine aop_pv (pv_fieldAddrF (by rfl) (by rfl) (by first | decide | (simp; done) | (simp; omega))) ?_) | (refine aop_pv (pv_fieldAddrIF (by rfl) (by rfl) (by first | decide | (simp; done) | (simp; omega))) ?_))) | (refine gE ?_; (first | (refine exN ?_) | (refine exS (fun _ => ?_)))) | (refine gQ ?_; (first | (refine condT ?_) | (refine condF ?_) | (refine condS (fun hc => ?_) (fun hc => ?_) <;> (try (first | contradiction | (exfalso; omega)))))) | (refine gW ?_; refine wopsS ?_) | (refine aw_block ?_) | (refine gX ?_; refine exitS ?_) | (refine gT ?_; refine retS ?_) | (refine gS ?_; refine skipS ?_) | (apply_assumption (exfalso := false) (symm := false))))
    all_goals (refine fin_le (Le.refl _) (rv_one (rv1_cell (by first | exact pv_load (by rfl) (by rfl) (by rfl) (by rfl) | exact pv_loadA (by rfl) (by rfl) (by rfl) (by first | decide | simp)))) (by first | rfl | (simp only [go_sem, Nat.reduceAdd, Nat.reduceMul, reduceIte, Nat.reduceEqDiff, Nat.reduceLeDiff, Int.reduceToNat, Int.reducePow, Int.reduceBEq, Int.reduceBNe, Int.reduceLT, Int.reduceLE, decide_true, decide_false])) ?_)
    all_goals rfl
theorem stFault_code {t : Task} {s : List Int} (h : stFault t s ≠ (0, 0)) : (stFault t s).1 ≠ 0 := by
  unfold stFault at h ⊢
  split
  · rename_i h1; exact tf_code h1
  · rename_i h1
    rw [if_neg h1] at h
    split
    · rename_i h2; rw [if_pos h2] at h; simp at h
    · simp
theorem stFault_ok {t : Task} {s : List Int} : stFault t s = (0, 0) ↔ WfT t ∧ isSet s t.facts = true := by
  unfold stFault
  constructor
  · intro h
    split at h
    · rename_i h1; exact absurd h h1
    · rename_i h1
      split at h
      · rename_i h2; exact ⟨taskFault_ok.1 (Decidable.not_not.1 h1), h2⟩
      · simp at h
  · rintro ⟨h1, h2⟩
    rw [if_neg (by simp [taskFault_ok.2 h1]), if_pos h2]
def playF (t : Task) (s plan : List Int) : Int × Int :=
  if stFault t s ≠ (0, 0) then stFault t s else if stepsFault t.ops.length plan ≠ (0, 0) then stepsFault t.ops.length plan else if (runL t s plan).length ≤ plan.length then (11, (runL t s plan).length - 1) else (0, 0)
theorem playF_code {t : Task} {s plan : List Int} (h : playF t s plan ≠ (0, 0)) : (playF t s plan).1 ≠ 0 := by
  unfold playF at h ⊢
  split
  · rename_i h1; exact stFault_code h1
  · rename_i h1
    rw [if_neg h1] at h
    split
    · rename_i h2; exact sf_code h2
    · rename_i h2
      rw [if_neg h2] at h
      split
      · simp
      · rename_i h3; rw [if_neg h3] at h; simp at h
structure PlayOk (t : Task) (s plan : List Int) : Prop where
  wf : WfT t
  set : isSet s t.facts = true
  len : plan.length ≤ 60
  ins : InOps t plan
  all : (runL t s plan).length = plan.length + 1
theorem runL_len {t : Task} : ∀ (plan s : List Int), (runL t s plan).length ≤ plan.length + 1
  | [], s => by simp [runL]
  | x :: r, s => by
    cases hs : subB (t.ops[x.toNat]!).pre s with
    | true =>
      have := runL_len (t := t) r (aft t.facts s t.ops[x.toNat]!)
      rw [runL_go hs, List.length_cons, List.length_cons]; omega
    | false => rw [runL_stop hs]; simp
theorem playF_ok {t : Task} {s plan : List Int} (h : playF t s plan = (0, 0)) : PlayOk t s plan := by
  unfold playF at h
  split at h
  · rename_i h1; exact absurd h h1
  · rename_i h1
    obtain ⟨hw, hs⟩ := stFault_ok.1 (Decidable.not_not.1 h1)
    split at h
    · rename_i h2; exact absurd h h2
    · rename_i h2
      obtain ⟨h60, hin⟩ := sf_in (Decidable.not_not.1 h2)
      split at h
      · simp at h
      · have := runL_len (t := t) plan s
        exact ⟨hw, hs, h60, hin, by omega⟩
theorem stepsF_at {n : Int} {plan : List Int} {p : Int × Int} (e : stepsFault n plan = p) : PCall Try.prog 37 [.int n, ints plan] (fun r => r = faultP p) := by
  have := stepsF_pc n plan
  rw [e] at this
  exact this
theorem stFault_at {t : Task} {s : List Int} {p : Int × Int} (e : stFault t s = p) : PCall Try.prog 36 [t.av, ints s] (fun r => r = faultP p) := by
  have := stFault_pc t s
  rw [e] at this
  exact this

theorem play_ok (t : Task) (s plan : List Int) (h : playF t s plan = (0, 0)) : PCall Try.prog 20 [t.av, ints s, ints plan] (fun r => r = .tup [rowsI (runL t s plan), fault 0 0]) := by
  obtain ⟨hw, hs, h60, hin, hall⟩ := playF_ok h
  have hsf := stFault_at (stFault_ok.2 ⟨hw, hs⟩)
  have hst := stepsF_at (sf_of h60 hin)
  have hrun := run_pc t s plan hw hs hin (by omega)
  generalize runL t s plan = l at *
  
  
  
  (refine enterS Try.func20 Try.ntmps20 ?_)
  (repeat' (first | (refine hK _ ?_; clear hK K) | (refine aw_seq (fun K hK => ?_)) | (refine gR ?_; refine regS ?_) | (refine gD 5 ?_; refine drS (.it 0 0 (.it 1 0 (.it 2 3 .nil))) [0, 1] ?_) | (refine gC 36 ?_; refine callS (hsf) ?_) | (refine gC 37 ?_; refine callS (hst) ?_) | (refine gC 38 ?_; refine callS (hrun) ?_) | (refine stk_op (fun K hK => ?_); (first | (refine aop_pv (pv_eql (by rfl) (by rfl)) ?_) | (refine aop_pv (pv_eqlB (by rfl) (by rfl)) ?_) | (refine aop_pv (pv_eqlA (by rfl) (by rfl) (by kernel_rfl)) ?_) | (refine aop_pv (pv_fieldAddrF (by rfl) (by rfl) (by first | decide | (simp; done) | (simp; omega))) ?_) | (refine aop_pv (pv_fieldAddrIF (by rfl) (by rfl) (by first | decide | (simp; done) | (simp; omega))) ?_) | (refine aop_pv (pv_neq (by rfl) (by rfl)) ?_) | (refine aop_pv (pv_neqB (by rfl) (by rfl)) ?_) | (refine aop_pv (pv_neqA (by rfl) (by rfl) (by kernel_rfl)) ?_))) | (refine And.intro ?_ ?_) | (refine gDx ?_; refine adxS ?_) | (refine gO ?_; refine adoS ?_) | (refine gE ?_; (first | (refine exN ?_) | (refine exS (fun _ => ?_)))) | (refine gQ ?_; (first | (refine condT ?_) | (refine condF ?_) | (refine condS (fun hc => ?_) (fun hc => ?_) <;> (try (first | contradiction | (exfalso; omega)))))) | (refine gWd ?_; refine wdrS ?_) | (refine gW ?_; refine wopsS ?_) | (refine aw_block ?_) | (refine gX ?_; refine exitS ?_) | (refine gT ?_; refine retS ?_) | (refine gS ?_; refine skipS ?_) | (apply_assumption (exfalso := false) (symm := false))))
  all_goals (refine fin_le (Le.refl _) (rv_two (rv1_tmp (by rfl)) (rv1_cell (by first | exact pv_load (by rfl) (by rfl) (by rfl) (by rfl) | exact pv_loadA (by rfl) (by rfl) (by rfl) (by first | decide | simp)))) (by first | rfl | (simp only [go_sem, Nat.reduceAdd, Nat.reduceMul, reduceIte, Nat.reduceEqDiff, Nat.reduceLeDiff, Int.reduceToNat, Int.reducePow, Int.reduceBEq, Int.reduceBNe, Int.reduceLT, Int.reduceLE, decide_true, decide_false])) ?_)
  all_goals rfl
theorem play_no (t : Task) (s plan : List Int) (h : playF t s plan ≠ (0, 0)) : PCall Try.prog 20 [t.av, ints s, ints plan] (fun r => r = .tup [.nilS, faultP (playF t s plan)]) := by
  by_cases h1 : stFault t s = (0, 0)
  · obtain ⟨hw, hs⟩ := stFault_ok.1 h1
    have hsf := stFault_at h1
    by_cases h2 : stepsFault t.ops.length plan = (0, 0)
    · obtain ⟨h60, hin⟩ := sf_in h2
      have hst := stepsF_at h2
      have hrun := run_pc t s plan hw hs hin (by omega)
      have e : playF t s plan = if (runL t s plan).length ≤ plan.length then ((11 : Int), ((runL t s plan).length : Int) - 1) else (0, 0) := by unfold playF; rw [if_neg (by simp [h1]), if_neg (by simp [h2])]
      have hl : (runL t s plan).length ≤ plan.length := by
        rw [e] at h
        split at h
        · assumption
        · exact absurd rfl h
      rw [e, if_pos hl]
      generalize runL t s plan = l at *
      
      
      
      
      (refine enterS Try.func20 Try.ntmps20 ?_)
      (repeat' (first | (refine hK _ ?_; clear hK K) | (refine aw_seq (fun K hK => ?_)) | (refine gR ?_; refine regS ?_) | (refine gD 5 ?_; refine drS (.it 0 0 (.it 1 0 (.it 2 3 .nil))) [0, 1] ?_) | (refine gC 36 ?_; refine callS (hsf) ?_) | (refine gC 37 ?_; refine callS (hst) ?_) | (refine gC 38 ?_; refine callS (hrun) ?_) | (refine stk_op (fun K hK => ?_); (first | (refine aop_pv (pv_eql (by rfl) (by rfl)) ?_) | (refine aop_pv (pv_eqlB (by rfl) (by rfl)) ?_) | (refine aop_pv (pv_eqlA (by rfl) (by rfl) (by kernel_rfl)) ?_) | (refine aop_pv (pv_fieldAddrF (by rfl) (by rfl) (by first | decide | (simp; done) | (simp; omega))) ?_) | (refine aop_pv (pv_fieldAddrIF (by rfl) (by rfl) (by first | decide | (simp; done) | (simp; omega))) ?_) | (refine aop_pv (pv_neq (by rfl) (by rfl)) ?_) | (refine aop_pv (pv_neqB (by rfl) (by rfl)) ?_) | (refine aop_pv (pv_neqA (by rfl) (by rfl) (by kernel_rfl)) ?_))) | (refine And.intro ?_ ?_) | (refine gDx ?_; refine adxS ?_) | (refine gO ?_; refine adoS ?_) | (refine gE ?_; (first | (refine exN ?_) | (refine exS (fun _ => ?_)))) | (refine gQ ?_; (first | (refine condT ?_) | (refine condF ?_) | (refine condS (fun hc => ?_) (fun hc => ?_) <;> (try (first | contradiction | (exfalso; omega)))))) | (refine gWd ?_; refine wdrS ?_) | (refine gW ?_; refine wopsS ?_) | (refine aw_block ?_) | (refine gX ?_; refine exitS ?_) | (refine gT ?_; refine retS ?_) | (refine gS ?_; refine skipS ?_) | (apply_assumption (exfalso := false) (symm := false))))
      all_goals (refine fin_le (Le.refl _) (rv_two (rv1_tmp (by rfl)) (rv1_cell (by first | exact pv_load (by rfl) (by rfl) (by rfl) (by rfl) | exact pv_loadA (by rfl) (by rfl) (by rfl) (by first | decide | simp)))) (by first | rfl | (simp only [go_sem, Nat.reduceAdd, Nat.reduceMul, reduceIte, Nat.reduceEqDiff, Nat.reduceLeDiff, Int.reduceToNat, Int.reducePow, Int.reduceBEq, Int.reduceBNe, Int.reduceLT, Int.reduceLE, decide_true, decide_false])) ?_)
      all_goals rfl
    · have hst := stepsF_pc t.ops.length plan
      have hac := sf_code h2
      have e : playF t s plan = stepsFault t.ops.length plan := by unfold playF; rw [if_neg (by simp [h1]), if_pos h2]
      rw [e]
      generalize stepsFault t.ops.length plan = p at *
      
      
      
      (refine enterS Try.func20 Try.ntmps20 ?_)
      (repeat' (first | (refine hK _ ?_; clear hK K) | (refine aw_seq (fun K hK => ?_)) | (refine gR ?_; refine regS ?_) | (refine gD 5 ?_; refine drS (.it 0 0 (.it 1 0 (.it 2 3 .nil))) [0, 1] ?_) | (refine gC 36 ?_; refine callS (hsf) ?_) | (refine gC 37 ?_; refine callS (hst) ?_) | (refine stk_op (fun K hK => ?_); (first | (refine aop_pv (pv_eql (by rfl) (by rfl)) ?_) | (refine aop_pv (pv_eqlB (by rfl) (by rfl)) ?_) | (refine aop_pv (pv_eqlA (by rfl) (by rfl) (by kernel_rfl)) ?_) | (refine aop_pv (pv_fieldAddrF (by rfl) (by rfl) (by first | decide | (simp; done) | (simp; omega))) ?_) | (refine aop_pv (pv_fieldAddrIF (by rfl) (by rfl) (by first | decide | (simp; done) | (simp; omega))) ?_) | (refine aop_pv (pv_neq (by rfl) (by rfl)) ?_) | (refine aop_pv (pv_neqB (by rfl) (by rfl)) ?_) | (refine aop_pv (pv_neqA (by rfl) (by rfl) (by kernel_rfl)) ?_))) | (refine And.intro ?_ ?_) | (refine gDx ?_; refine adxS ?_) | (refine gO ?_; refine adoS ?_) | (refine gE ?_; (first | (refine exN ?_) | (refine exS (fun _ => ?_)))) | (refine gQ ?_; (first | (refine condT ?_) | (refine condF ?_) | (refine condS (fun hc => ?_) (fun hc => ?_) <;> (try (first | contradiction | (exfalso; omega)))))) | (refine gWd ?_; refine wdrS ?_) | (refine gW ?_; refine wopsS ?_) | (refine aw_block ?_) | (refine gX ?_; refine exitS ?_) | (refine gT ?_; refine retS ?_) | (refine gS ?_; refine skipS ?_) | (apply_assumption (exfalso := false) (symm := false))))
      all_goals (refine fin_le (Le.refl _) (rv_two (rv1_tmp (by rfl)) (rv1_cell (by first | exact pv_load (by rfl) (by rfl) (by rfl) (by rfl) | exact pv_loadA (by rfl) (by rfl) (by rfl) (by first | decide | simp)))) (by first | rfl | (simp only [go_sem, Nat.reduceAdd, Nat.reduceMul, reduceIte, Nat.reduceEqDiff, Nat.reduceLeDiff, Int.reduceToNat, Int.reducePow, Int.reduceBEq, Int.reduceBNe, Int.reduceLT, Int.reduceLE, decide_true, decide_false])) ?_)
      all_goals rfl
  · have hsf := stFault_pc t s
    have hac := stFault_code h1
    have e : playF t s plan = stFault t s := by unfold playF; rw [if_pos h1]
    rw [e]
    generalize stFault t s = p at *
    
    
    (refine enterS Try.func20 Try.ntmps20 ?_)
    (repeat' (first | (refine hK _ ?_; clear hK K) | (refine aw_seq (fun K hK => ?_)) | (refine gR ?_; refine regS ?_) | (refine gD 5 ?_; refine drS (.it 0 0 (.it 1 0 (.it 2 3 .nil))) [0, 1] ?_) | (refine gC 36 ?_; refine callS (hsf) ?_) | (refine stk_op (fun K hK => ?_); (first | (refine aop_pv (pv_eql (by rfl) (by rfl)) ?_) | (refine aop_pv (pv_eqlB (by rfl) (by rfl)) ?_) | (refine aop_pv (pv_eqlA (by rfl) (by rfl) (by kernel_rfl)) ?_) | (refine aop_pv (pv_fieldAddrF (by rfl) (by rfl) (by first | decide | (simp; done) | (simp; omega))) ?_) | (refine aop_pv (pv_fieldAddrIF (by rfl) (by rfl) (by first | decide | (simp; done) | (simp; omega))) ?_) | (refine aop_pv (pv_neq (by rfl) (by rfl)) ?_) | (refine aop_pv (pv_neqB (by rfl) (by rfl)) ?_) | (refine aop_pv (pv_neqA (by rfl) (by rfl) (by kernel_rfl)) ?_))) | (refine And.intro ?_ ?_) | (refine gDx ?_; refine adxS ?_) | (refine gO ?_; refine adoS ?_) | (refine gE ?_; (first | (refine exN ?_) | (refine exS (fun _ => ?_)))) | (refine gQ ?_; (first | (refine condT ?_) | (refine condF ?_) | (refine condS (fun hc => ?_) (fun hc => ?_) <;> (try (first | contradiction | (exfalso; omega)))))) | (refine gWd ?_; refine wdrS ?_) | (refine gW ?_; refine wopsS ?_) | (refine aw_block ?_) | (refine gX ?_; refine exitS ?_) | (refine gT ?_; refine retS ?_) | (refine gS ?_; refine skipS ?_) | (apply_assumption (exfalso := false) (symm := false))))
    all_goals (refine fin_le (Le.refl _) (rv_two (rv1_tmp (by rfl)) (rv1_cell (by first | exact pv_load (by rfl) (by rfl) (by rfl) (by rfl) | exact pv_loadA (by rfl) (by rfl) (by rfl) (by first | decide | simp)))) (by first | rfl | (simp only [go_sem, Nat.reduceAdd, Nat.reduceMul, reduceIte, Nat.reduceEqDiff, Nat.reduceLeDiff, Int.reduceToNat, Int.reducePow, Int.reduceBEq, Int.reduceBNe, Int.reduceLT, Int.reduceLE, decide_true, decide_false])) ?_)
    all_goals rfl

/-! groups, with faults -/
def indF (t : Task) (g : List Int) : Int × Int := if taskFault t ≠ (0, 0) then taskFault t else if isSet g t.facts = true then (0, 0) else (5, -8)
theorem indF_ok {t : Task} {g : List Int} : indF t g = (0, 0) ↔ WfT t ∧ isSet g t.facts = true := by
  unfold indF
  constructor
  · intro h
    split at h
    · rename_i h1; exact absurd h h1
    · rename_i h1
      split at h
      · rename_i h2; exact ⟨taskFault_ok.1 (Decidable.not_not.1 h1), h2⟩
      · simp at h
  · rintro ⟨h1, h2⟩
    rw [if_neg (by simp [taskFault_ok.2 h1]), if_pos h2]
theorem indF_code {t : Task} {g : List Int} (h : indF t g ≠ (0, 0)) : (indF t g).1 ≠ 0 := by
  unfold indF at h ⊢
  split
  · rename_i h1; exact tf_code h1
  · rename_i h1
    rw [if_neg h1] at h
    split
    · rename_i h2; rw [if_pos h2] at h; simp at h
    · simp

theorem ind_ok (t : Task) (c : List Int) (hw : WfT t) (hc : isSet c t.facts = true) : PCall Try.prog 10 [t.av, ints c] (fun r => r = .tup [.bool (groupB t c), fault 0 0]) := by
  have hset : PCall Try.prog 25 [ints c, .int t.facts] (fun r => r = .bool true) := (isSet_pc c t.facts).mono fun r hr => by rw [hr, hc]
  
  
  
  (refine enterS Try.func10 Try.ntmps10 ?_)
  (repeat' (first | (refine hK _ ?_; clear hK K) | (refine aw_seq (fun K hK => ?_)) | (refine gR ?_; refine regS ?_) | (refine gD 3 ?_; refine drS (.it 0 0 (.it 1 0 (.it 2 3 .nil))) [0, 1] ?_) | (refine gC 24 ?_; refine callS (val_at (taskFault_ok.2 hw)) ?_) | (refine gC 25 ?_; refine callS (hset) ?_) | (refine gC 26 ?_; refine callS (holdsG_pc t c hw hc) ?_) | (refine stk_op (fun K hK => ?_); (first | (refine aop_pv (pv_neq (by rfl) (by rfl)) ?_) | (refine aop_pv (pv_neqB (by rfl) (by rfl)) ?_) | (refine aop_pv (pv_neqA (by rfl) (by rfl) (by kernel_rfl)) ?_) | (refine aop_pv (pv_fieldAddrF (by rfl) (by rfl) (by first | decide | (simp; done) | (simp; omega))) ?_) | (refine aop_pv (pv_fieldAddrIF (by rfl) (by rfl) (by first | decide | (simp; done) | (simp; omega))) ?_))) | (refine And.intro ?_ ?_) | (refine gDx ?_; refine adxS ?_) | (refine gO ?_; refine adoS ?_) | (refine gE ?_; (first | (refine exN ?_) | (refine exS (fun _ => ?_)))) | (refine gQ ?_; (first | (refine condT ?_) | (refine condF ?_) | (refine condS (fun hc => ?_) (fun hc => ?_) <;> (try (first | contradiction | (exfalso; omega)))))) | (refine gWd ?_; refine wdrS ?_) | (refine gW ?_; refine wopsS ?_) | (refine aw_block ?_) | (refine gX ?_; refine exitS ?_) | (refine gT ?_; refine retS ?_) | (refine gS ?_; refine skipS ?_) | (apply_assumption (exfalso := false) (symm := false))))
  (refine fin_le (Le.refl _) (rv_two (rv1_tmp (by rfl)) (rv1_cell (by first | exact pv_load (by rfl) (by rfl) (by rfl) (by rfl) | exact pv_loadA (by rfl) (by rfl) (by rfl) (by first | decide | simp)))) (by first | rfl | (simp only [go_sem, Nat.reduceAdd, Nat.reduceMul, reduceIte, Nat.reduceEqDiff, Nat.reduceLeDiff, Int.reduceToNat, Int.reducePow, Int.reduceBEq, Int.reduceBNe, Int.reduceLT, Int.reduceLE, decide_true, decide_false])) ?_)
  rfl

theorem ind_no (t : Task) (c : List Int) (h : indF t c ≠ (0, 0)) : PCall Try.prog 10 [t.av, ints c] (fun r => r = .tup [.bool false, faultP (indF t c)]) := by
  by_cases h1 : taskFault t = (0, 0)
  · have hc : isSet c t.facts = false := by
      cases hs : isSet c t.facts with
      | false => rfl
      | true => exact absurd (indF_ok.2 ⟨taskFault_ok.1 h1, hs⟩) h
    have e : indF t c = (5, -8) := by unfold indF; rw [if_neg (by simp [h1]), if_neg (by simp [hc])]
    have hset : PCall Try.prog 25 [ints c, .int t.facts] (fun r => r = .bool false) := (isSet_pc c t.facts).mono fun r hr => by rw [hr, hc]
    rw [e]
    
    
    (refine enterS Try.func10 Try.ntmps10 ?_)
    (repeat' (first | (refine hK _ ?_; clear hK K) | (refine aw_seq (fun K hK => ?_)) | (refine gR ?_; refine regS ?_) | (refine gD 3 ?_; refine drS (.it 0 0 (.it 1 0 (.it 2 3 .nil))) [0, 1] ?_) | (refine gC 24 ?_; refine callS (val_at h1) ?_) | (refine gC 25 ?_; refine callS (hset) ?_) | (refine stk_op (fun K hK => ?_); (first | (refine aop_pv (pv_neq (by rfl) (by rfl)) ?_) | (refine aop_pv (pv_neqB (by rfl) (by rfl)) ?_) | (refine aop_pv (pv_neqA (by rfl) (by rfl) (by kernel_rfl)) ?_) | (refine aop_pv (pv_fieldAddrF (by rfl) (by rfl) (by first | decide | (simp; done) | (simp; omega))) ?_) | (refine aop_pv (pv_fieldAddrIF (by rfl) (by rfl) (by first | decide | (simp; done) | (simp; omega))) ?_))) | (refine And.intro ?_ ?_) | (refine gDx ?_; refine adxS ?_) | (refine gO ?_; refine adoS ?_) | (refine gE ?_; (first | (refine exN ?_) | (refine exS (fun _ => ?_)))) | (refine gQ ?_; (first | (refine condT ?_) | (refine condF ?_) | (refine condS (fun hc => ?_) (fun hc => ?_) <;> (try (first | contradiction | (exfalso; omega)))))) | (refine gWd ?_; refine wdrS ?_) | (refine gW ?_; refine wopsS ?_) | (refine aw_block ?_) | (refine gX ?_; refine exitS ?_) | (refine gT ?_; refine retS ?_) | (refine gS ?_; refine skipS ?_) | (apply_assumption (exfalso := false) (symm := false))))
    (refine fin_le (Le.refl _) (rv_two (rv1_tmp (by rfl)) (rv1_cell (by first | exact pv_load (by rfl) (by rfl) (by rfl) (by rfl) | exact pv_loadA (by rfl) (by rfl) (by rfl) (by first | decide | simp)))) (by first | rfl | (simp only [go_sem, Nat.reduceAdd, Nat.reduceMul, reduceIte, Nat.reduceEqDiff, Nat.reduceLeDiff, Int.reduceToNat, Int.reducePow, Int.reduceBEq, Int.reduceBNe, Int.reduceLT, Int.reduceLE, decide_true, decide_false])) ?_)
    rfl
  · have hac := tf_code h1
    have hv := validate_pc t
    have e : indF t c = taskFault t := by unfold indF; rw [if_pos h1]
    rw [e]
    generalize taskFault t = p at *
    
    
    (refine enterS Try.func10 Try.ntmps10 ?_)
    (repeat' (first | (refine hK _ ?_; clear hK K) | (refine aw_seq (fun K hK => ?_)) | (refine gR ?_; refine regS ?_) | (refine gD 3 ?_; refine drS (.it 0 0 (.it 1 0 (.it 2 3 .nil))) [0, 1] ?_) | (refine gC 24 ?_; refine callS (hv) ?_) | (refine stk_op (fun K hK => ?_); (first | (refine aop_pv (pv_neq (by rfl) (by rfl)) ?_) | (refine aop_pv (pv_neqB (by rfl) (by rfl)) ?_) | (refine aop_pv (pv_neqA (by rfl) (by rfl) (by kernel_rfl)) ?_) | (refine aop_pv (pv_fieldAddrF (by rfl) (by rfl) (by first | decide | (simp; done) | (simp; omega))) ?_) | (refine aop_pv (pv_fieldAddrIF (by rfl) (by rfl) (by first | decide | (simp; done) | (simp; omega))) ?_))) | (refine And.intro ?_ ?_) | (refine gDx ?_; refine adxS ?_) | (refine gO ?_; refine adoS ?_) | (refine gE ?_; (first | (refine exN ?_) | (refine exS (fun _ => ?_)))) | (refine gQ ?_; (first | (refine condT ?_) | (refine condF ?_) | (refine condS (fun hc => ?_) (fun hc => ?_) <;> (try (first | contradiction | (exfalso; omega)))))) | (refine gWd ?_; refine wdrS ?_) | (refine gW ?_; refine wopsS ?_) | (refine aw_block ?_) | (refine gX ?_; refine exitS ?_) | (refine gT ?_; refine retS ?_) | (refine gS ?_; refine skipS ?_) | (apply_assumption (exfalso := false) (symm := false))))
    (refine fin_le (Le.refl _) (rv_two (rv1_tmp (by rfl)) (rv1_cell (by first | exact pv_load (by rfl) (by rfl) (by rfl) (by rfl) | exact pv_loadA (by rfl) (by rfl) (by rfl) (by first | decide | simp)))) (by first | rfl | (simp only [go_sem, Nat.reduceAdd, Nat.reduceMul, reduceIte, Nat.reduceEqDiff, Nat.reduceLeDiff, Int.reduceToNat, Int.reducePow, Int.reduceBEq, Int.reduceBNe, Int.reduceLT, Int.reduceLE, decide_true, decide_false])) ?_)
    rfl

end Go.Proofs.Ytokmhfjledbglaa
