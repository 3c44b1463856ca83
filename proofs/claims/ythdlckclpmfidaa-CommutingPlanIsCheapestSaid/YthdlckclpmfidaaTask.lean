import Derived.Test.YthdlckclpmfidaaSea


namespace Go.Proofs.Ythdlckclpmfidaa
open Go.Ab
open Go
set_option linter.unusedSimpArgs false
set_option linter.unusedVariables false
set_option maxRecDepth 10000
attribute [local irreducible] PV AOp AOps AW PCall OCall MCall Ab.Fin OFin MFin RV RV1 Le AStk AGrd ADr ADx ADo AOpX AAny
set_option maxHeartbeats 2000000
/-! tasks -/
structure Op where
  pre : List Int
  add : List Int
  del : List Int
  cost : Int
  deriving Inhabited, DecidableEq
structure Task where
  facts : Int
  init : List Int
  goal : List Int
  ops : List Op
  deriving Inhabited, DecidableEq
abbrev Op.av (o : Op) : AV := .agg [ints o.pre, ints o.add, ints o.del, .int o.cost]
abbrev opc (o : Op) : List AV := [ints o.pre, ints o.add, ints o.del, .int o.cost]
abbrev opsA (l : List Op) : AV := .isl 4 80 (l.map Op.av)
abbrev Task.av (t : Task) : AV := .agg [.int t.facts, ints t.init, ints t.goal, opsA t.ops]
abbrev Task.cs (t : Task) : List AV := [.int t.facts, ints t.init, ints t.goal, opsA t.ops]
abbrev faultP (p : Int × Int) : AV := fault p.1 p.2
@[go_sem] theorem opc_flat (l : List Op) : (l.map Op.av).flatMap AV.cells = l.flatMap opc := by rw [List.flatMap_map]; rfl
@[go_sem] theorem opc_app (a b : List Op) : (a ++ b).flatMap opc = a.flatMap opc ++ b.flatMap opc := List.flatMap_append
@[go_sem] theorem opc_len (l : List Op) : (l.flatMap opc).length = l.length * 4 := by
  induction l with
  | nil => rfl
  | cons w l ih => simp [List.flatMap_cons, ih]; omega
@[go_sem] theorem opc_purge (id : Nat) (l : List Op) : AV.purgeL id (l.flatMap opc) = l.flatMap opc := purgeL_flat id opc l fun _ => rfl
@[go_sem] theorem opc_ment (id : Nat) (l : List Op) : AV.mentL id (l.flatMap opc) = false := mentL_flat id opc l fun _ => rfl
theorem opc_pur (l : List Op) : AV.purL (l.flatMap opc) = true := purL_flat opc l fun _ => rfl
@[go_sem] theorem opc_sealD (id sz bw n : Nat) (es : List AV) (l : List Op) : AV.sealDL id sz bw n es (l.flatMap opc) = l.flatMap opc := sealDL_pur (opc_pur l)
def opOk (o : Op) (n : Int) : Bool := isSet o.pre n && isSet o.add n && isSet o.del n && disB o.add o.del
def opE (o : Op) (n : Int) : Int := if opOk o n = false then 5 else if o.cost < 0 ∨ 100 < o.cost then 3 else 0
theorem meetsS_pc (a b : List Int) (n : Int) (hs : isSet b n = true) : PCall Try.prog 55 [ints a, ints b] (fun r => r = .bool (!disB a b)) := meets_pc a b (isSet_iff.1 hs).2


theorem operator_pc (o : Op) (n : Int) : PCall Try.prog 53 [o.av, .int n] (fun r => r = .int (opE o n)) := by
  (refine enterS Try.func53 Try.ntmps53 ?_)
  (repeat' (first | (refine hK _ ?_; clear hK K) | (refine aw_seq (fun K hK => ?_)) | (refine gR ?_; refine regS ?_) | (refine gC 52 ?_; refine callS (isSet_pc _ _) ?_) | (refine gC 55 ?_; refine callS (meetsS_pc _ _ n (by assumption)) ?_) | (refine gE ?_; refine exN ?_) | (refine gG ?_; refine guardS (fun hc => ?_) (fun hc => ?_) <;> (try (first | contradiction | (exfalso; omega)))) | (refine gQ ?_; (first | (refine condT ?_) | (refine condS (fun hc => ?_) (fun hc => ?_) <;> (try (first | contradiction | (exfalso; omega)))))) | (refine aw_block ?_) | (refine gT ?_; refine retS ?_) | (refine gS ?_; refine skipS ?_)))
  all_goals (refine fin_le (Le.refl _) (rv_one (rv1_tmp (by rfl))) (by first | rfl | (simp only [go_sem, Nat.reduceAdd, Nat.reduceMul, reduceIte, Nat.reduceEqDiff, Nat.reduceLeDiff, Int.reduceToNat, Int.reducePow, Int.reduceBEq, Int.reduceBNe, Int.reduceLT, Int.reduceLE, decide_true, decide_false])) ?_)
  all_goals (simp_all [opE, opOk]; done)

def opAt (n : Int) (l : List Op) (i : Nat) : Option (Int × Int) := if opE l[i]! n = 0 then none else some (opE l[i]! n, i)
def taskFault (t : Task) : Int × Int :=
  if t.facts < 0 ∨ 24 < t.facts then (3, -1) else if isSet t.init t.facts = false then (5, -2) else if isSet t.goal t.facts = false then (5, -3) else if 40 < t.ops.length then (2, -1) else (firstSome (opAt t.facts t.ops) t.ops.length).getD (0, 0)
theorem tf_a {t : Task} (h : t.facts < 0 ∨ 24 < t.facts) : taskFault t = (3, -1) := by rw [taskFault, if_pos h]
theorem tf_b {t : Task} (h : ¬ (t.facts < 0 ∨ 24 < t.facts)) (h2 : isSet t.init t.facts = false) : taskFault t = (5, -2) := by rw [taskFault, if_neg h, if_pos h2]
theorem tf_c {t : Task} (h : ¬ (t.facts < 0 ∨ 24 < t.facts)) (h2 : isSet t.init t.facts = true) (h3 : isSet t.goal t.facts = false) : taskFault t = (5, -3) := by rw [taskFault, if_neg h, if_neg (by simp [h2]), if_pos h3]
theorem tf_d {t : Task} (h : ¬ (t.facts < 0 ∨ 24 < t.facts)) (h2 : isSet t.init t.facts = true) (h3 : isSet t.goal t.facts = true) (h4 : 40 < t.ops.length) : taskFault t = (2, -1) := by rw [taskFault, if_neg h, if_neg (by simp [h2]), if_neg (by simp [h3]), if_pos h4]
theorem tf_e {t : Task} (h : ¬ (t.facts < 0 ∨ 24 < t.facts)) (h2 : isSet t.init t.facts = true) (h3 : isSet t.goal t.facts = true) (h4 : ¬ 40 < t.ops.length) : taskFault t = (firstSome (opAt t.facts t.ops) t.ops.length).getD (0, 0) := by
  rw [taskFault, if_neg h, if_neg (by simp [h2]), if_neg (by simp [h3]), if_neg h4]
theorem opAt_eq {n : Int} {l : List Op} {k : Nat} (h : k < l.length) : opAt n l k = if opE l[k] n = 0 then none else some (opE l[k] n, (k : Int)) := by simp [opAt, h]
theorem validate_pc (t : Task) : PCall Try.prog 32 [t.av] (fun r => r = faultP (taskFault t)) := by
  (refine enterS Try.func32 Try.ntmps32 ?_)
  (repeat' (first | (refine hK _ ?_; clear hK K) | (refine aw_seq (fun K hK => ?_)) | (refine gR ?_; refine regS ?_) | (refine gC 52 ?_; refine callS (isSet_pc _ _) ?_) | (refine gE ?_; refine exN ?_) | (refine gG ?_; refine guardS (fun hc => ?_) (fun hc => ?_) <;> (try (first | contradiction | (exfalso; omega)))) | (refine gQ ?_; (first | (refine condT ?_) | (refine condS (fun hc => ?_) (fun hc => ?_) <;> (try (first | contradiction | (exfalso; omega)))))) | (refine aw_block ?_) | (refine gT ?_; refine retS ?_) | (refine gS ?_; refine skipS ?_)))
  · (refine fin_le (Le.refl _) (rv_one (rv1_cell (by first | exact pv_load (by rfl) (by rfl) (by rfl) (by rfl) | exact pv_loadA (by rfl) (by rfl) (by rfl) (by first | decide | simp)))) (by first | rfl | (simp only [go_sem, Nat.reduceAdd, Nat.reduceMul, reduceIte, Nat.reduceEqDiff, Nat.reduceLeDiff, Int.reduceToNat, Int.reducePow, Int.reduceBEq, Int.reduceBNe, Int.reduceLT, Int.reduceLE, decide_true, decide_false])) ?_)
    rw [tf_a (by omega)]
    rfl
  · (refine fin_le (Le.refl _) (rv_one (rv1_cell (by first | exact pv_load (by rfl) (by rfl) (by rfl) (by rfl) | exact pv_loadA (by rfl) (by rfl) (by rfl) (by first | decide | simp)))) (by first | rfl | (simp only [go_sem, Nat.reduceAdd, Nat.reduceMul, reduceIte, Nat.reduceEqDiff, Nat.reduceLeDiff, Int.reduceToNat, Int.reducePow, Int.reduceBEq, Int.reduceBNe, Int.reduceLT, Int.reduceLE, decide_true, decide_false])) ?_)
    rw [tf_a (by omega)]
    rfl
  · (refine fin_le (Le.refl _) (rv_one (rv1_cell (by first | exact pv_load (by rfl) (by rfl) (by rfl) (by rfl) | exact pv_loadA (by rfl) (by rfl) (by rfl) (by first | decide | simp)))) (by first | rfl | (simp only [go_sem, Nat.reduceAdd, Nat.reduceMul, reduceIte, Nat.reduceEqDiff, Nat.reduceLeDiff, Int.reduceToNat, Int.reducePow, Int.reduceBEq, Int.reduceBNe, Int.reduceLT, Int.reduceLE, decide_true, decide_false])) ?_)
    rw [tf_b (by omega) (by assumption)]
    rfl
  · (refine fin_le (Le.refl _) (rv_one (rv1_cell (by first | exact pv_load (by rfl) (by rfl) (by rfl) (by rfl) | exact pv_loadA (by rfl) (by rfl) (by rfl) (by first | decide | simp)))) (by first | rfl | (simp only [go_sem, Nat.reduceAdd, Nat.reduceMul, reduceIte, Nat.reduceEqDiff, Nat.reduceLeDiff, Int.reduceToNat, Int.reducePow, Int.reduceBEq, Int.reduceBNe, Int.reduceLT, Int.reduceLE, decide_true, decide_false])) ?_)
    rw [tf_c (by omega) (by assumption) (by assumption)]
    rfl
  · (refine fin_le (Le.refl _) (rv_one (rv1_cell (by first | exact pv_load (by rfl) (by rfl) (by rfl) (by rfl) | exact pv_loadA (by rfl) (by rfl) (by rfl) (by first | decide | simp)))) (by first | rfl | (simp only [go_sem, Nat.reduceAdd, Nat.reduceMul, reduceIte, Nat.reduceEqDiff, Nat.reduceLeDiff, Int.reduceToNat, Int.reducePow, Int.reduceBEq, Int.reduceBNe, Int.reduceLT, Int.reduceLE, decide_true, decide_false])) ?_)
    rw [tf_d (by omega) (by assumption) (by assumption) (by omega)]
    rfl
  have e := tf_e (t := t) (by omega) (by assumption) (by assumption) (by omega)
  refine aw_loop_at [3, 4, 5, 41, 42, 43, 44, 45, 46, 47, 48, 49, 50, 51, 52, 53, 54, 55] (fun k : Nat => k ≤ t.ops.length ∧ firstSome (opAt t.facts t.ops) k = none) (fun k => t.ops.length - k) (fun k => [(41, .int k)]) (fun _ => [(1, ⟨25, t.cs, true⟩), (2, ⟨27, [.int 0, .int 0], true⟩)]) 0 ⟨by omega, rfl⟩ ?_ ?_
  · (refine atS ?_)
    (exact weakS)
  · rintro k ⟨hk, hn⟩ K hK
    (refine atS ?_)
    by_cases hlt : k < t.ops.length
    · have hkk := opAt_eq (n := t.facts) hlt
      (repeat' (first | (refine hK _ ?_; clear hK K) | (refine aw_seq (fun K hK => ?_)) | (refine gR ?_; refine regS ?_) | (refine gC 53 ?_; refine callS (operator_pc _ _) ?_) | (refine gE ?_; (first | (refine exN ?_) | (refine exS (fun _ => ?_)))) | (refine gQ ?_; refine condS (fun hc => ?_) (fun hc => ?_) <;> (try (first | contradiction | (exfalso; omega)))) | (refine aw_block ?_) | (refine gT ?_; refine retS ?_) | (refine gS ?_; refine skipS ?_)))
      · (refine fin_le (Le.refl _) (rv_one (rv1_cell (by first | exact pv_load (by rfl) (by rfl) (by rfl) (by rfl) | exact pv_loadA (by rfl) (by rfl) (by rfl) (by first | decide | simp)))) (by first | rfl | (simp only [go_sem, Nat.reduceAdd, Nat.reduceMul, reduceIte, Nat.reduceEqDiff, Nat.reduceLeDiff, Int.reduceToNat, Int.reducePow, Int.reduceBEq, Int.reduceBNe, Int.reduceLT, Int.reduceLE, decide_true, decide_false])) ?_)
        rw [e, firstSome_hit hn (by rw [hkk, if_neg hc]) hlt]
        rfl
      · (refine ⟨k + 1, ⟨by omega, firstSome_step hn (by rw [hkk, if_pos hc])⟩, by omega, ?_⟩; (refine atS ?_); (exact weakS))
    · obtain rfl : k = t.ops.length := by omega
      (repeat' (first | (refine hK _ ?_; clear hK K) | (refine aw_seq (fun K hK => ?_)) | (refine gR ?_; refine regS ?_) | (refine gE ?_; refine exN ?_) | (refine gQ ?_; refine condS (fun hc => ?_) (fun hc => ?_) <;> (try (first | contradiction | (exfalso; omega)))) | (refine gX ?_; refine exitS ?_) | (refine gT ?_; refine retS ?_) | (apply_assumption (exfalso := false) (symm := false))))
      (refine fin_le (Le.refl _) (rv_one (rv1_cell (by first | exact pv_load (by rfl) (by rfl) (by rfl) (by rfl) | exact pv_loadA (by rfl) (by rfl) (by rfl) (by first | decide | simp)))) (by first | rfl | (simp only [go_sem, Nat.reduceAdd, Nat.reduceMul, reduceIte, Nat.reduceEqDiff, Nat.reduceLeDiff, Int.reduceToNat, Int.reducePow, Int.reduceBEq, Int.reduceBNe, Int.reduceLT, Int.reduceLE, decide_true, decide_false])) ?_)
      rw [e, hn]
      rfl

theorem opOk_no {o : Op} {n : Int} (h : isSet o.pre n = false ∨ isSet o.add n = false ∨ isSet o.del n = false ∨ disB o.add o.del = false) : opE o n = 5 := by
  unfold opE opOk
  rw [if_pos]
  rcases h with h | h | h | h <;> simp [h]
theorem opOk_yes {o : Op} {n : Int} (h1 : isSet o.pre n = true) (h2 : isSet o.add n = true) (h3 : isSet o.del n = true) (h4 : disB o.add o.del = true) : opE o n = if o.cost < 0 ∨ 100 < o.cost then 3 else 0 := by
  unfold opE opOk
  rw [if_neg (by simp [h1, h2, h3, h4])]
theorem taskFault_pc (t : Task) : PCall Try.prog 8 [t.av] (fun r => r = faultP (taskFault t)) := by
  (refine enterS Try.func8 Try.ntmps8 ?_)
  (repeat' (first | (refine hK _ ?_; clear hK K) | (refine aw_seq (fun K hK => ?_)) | (refine gR ?_; refine regS ?_) | (refine gC 9 ?_; refine callS (in_pc _ _ _) ?_) | (refine gC 10 ?_; refine callS (at_pc _ _) ?_) | (refine gC 31 ?_; refine callS (refIsSet_pc _ _ (by omega)) ?_) | (refine gE ?_; refine exN ?_) | (refine gQ ?_; refine condS (fun hc => ?_) (fun hc => ?_) <;> (try (first | contradiction | (exfalso; omega)))) | (refine aw_block ?_) | (refine gT ?_; refine retS ?_) | (refine gS ?_; refine skipS ?_)))
  · (refine fin_le (Le.refl _) (rv_one (rv1_cell (by first | exact pv_load (by rfl) (by rfl) (by rfl) (by rfl) | exact pv_loadA (by rfl) (by rfl) (by rfl) (by first | decide | simp)))) (by first | rfl | (simp only [go_sem, Nat.reduceAdd, Nat.reduceMul, reduceIte, Nat.reduceEqDiff, Nat.reduceLeDiff, Int.reduceToNat, Int.reducePow, Int.reduceBEq, Int.reduceBNe, Int.reduceLT, Int.reduceLE, decide_true, decide_false])) ?_)
    rw [tf_a (by omega)]
    rfl
  · (refine fin_le (Le.refl _) (rv_one (rv1_cell (by first | exact pv_load (by rfl) (by rfl) (by rfl) (by rfl) | exact pv_loadA (by rfl) (by rfl) (by rfl) (by first | decide | simp)))) (by first | rfl | (simp only [go_sem, Nat.reduceAdd, Nat.reduceMul, reduceIte, Nat.reduceEqDiff, Nat.reduceLeDiff, Int.reduceToNat, Int.reducePow, Int.reduceBEq, Int.reduceBNe, Int.reduceLT, Int.reduceLE, decide_true, decide_false])) ?_)
    rw [tf_b (by omega) (by assumption)]
    rfl
  · (refine fin_le (Le.refl _) (rv_one (rv1_cell (by first | exact pv_load (by rfl) (by rfl) (by rfl) (by rfl) | exact pv_loadA (by rfl) (by rfl) (by rfl) (by first | decide | simp)))) (by first | rfl | (simp only [go_sem, Nat.reduceAdd, Nat.reduceMul, reduceIte, Nat.reduceEqDiff, Nat.reduceLeDiff, Int.reduceToNat, Int.reducePow, Int.reduceBEq, Int.reduceBNe, Int.reduceLT, Int.reduceLE, decide_true, decide_false])) ?_)
    rw [tf_c (by omega) (by assumption) (by assumption)]
    rfl
  · (refine fin_le (Le.refl _) (rv_one (rv1_cell (by first | exact pv_load (by rfl) (by rfl) (by rfl) (by rfl) | exact pv_loadA (by rfl) (by rfl) (by rfl) (by first | decide | simp)))) (by first | rfl | (simp only [go_sem, Nat.reduceAdd, Nat.reduceMul, reduceIte, Nat.reduceEqDiff, Nat.reduceLeDiff, Int.reduceToNat, Int.reducePow, Int.reduceBEq, Int.reduceBNe, Int.reduceLT, Int.reduceLE, decide_true, decide_false])) ?_)
    rw [tf_d (by omega) (by assumption) (by assumption) (by omega)]
    rfl
  have e := tf_e (t := t) (by omega) (by assumption) (by assumption) (by omega)
  refine aw_loop_at [3, 4, 29, 30, 31, 32, 33, 34, 35, 36, 37, 38, 39, 40, 41, 42, 43, 44, 45, 46, 47, 48, 49, 50, 51, 52, 53, 54, 55, 56, 57, 58, 59, 60, 61, 62, 63, 64, 65, 66, 67, 68, 69, 70, 71, 72, 73, 74, 75, 76, 77, 78] (fun k : Nat => k ≤ t.ops.length ∧ firstSome (opAt t.facts t.ops) k = none) (fun k => t.ops.length - k) (fun k => [(3, .int k)]) (fun _ => [(1, ⟨25, t.cs, true⟩), (2, ⟨27, [.int 0, .int 0], true⟩)]) 0 ⟨by omega, rfl⟩ ?_ ?_
  · (refine atS ?_)
    (exact weakS)
  · rintro k ⟨hk, hn⟩ K hK
    (refine atS ?_)
    by_cases hlt : k < t.ops.length
    · have hkk := opAt_eq (n := t.facts) hlt
      (repeat' (first | (refine hK _ ?_; clear hK K) | (refine aw_seq (fun K hK => ?_)) | (refine gR ?_; refine regS ?_) | (refine gC 9 ?_; refine callS (in_pc _ _ _) ?_) | (refine gC 10 ?_; refine callS (at_pc _ _) ?_) | (refine gC 31 ?_; refine callS (refIsSet_pc _ _ (by omega)) ?_) | (refine gC 24 ?_; refine callS (disjoint_pc _ _) ?_) | (refine gE ?_; (first | (refine exN ?_) | (refine exS (fun _ => ?_)))) | (refine gG ?_; refine guardS (fun hc => ?_) (fun hc => ?_) <;> (try (first | contradiction | (exfalso; omega)))) | (refine gQ ?_; (first | (refine condT ?_) | (refine condS (fun hc => ?_) (fun hc => ?_) <;> (try (first | contradiction | (exfalso; omega)))))) | (refine aw_block ?_) | (refine gT ?_; refine retS ?_) | (refine gS ?_; refine skipS ?_)))
      all_goals first
        | ((refine fin_le (Le.refl _) (rv_one (rv1_cell (by first | exact pv_load (by rfl) (by rfl) (by rfl) (by rfl) | exact pv_loadA (by rfl) (by rfl) (by rfl) (by first | decide | simp)))) (by first | rfl | (simp only [go_sem, Nat.reduceAdd, Nat.reduceMul, reduceIte, Nat.reduceEqDiff, Nat.reduceLeDiff, Int.reduceToNat, Int.reducePow, Int.reduceBEq, Int.reduceBNe, Int.reduceLT, Int.reduceLE, decide_true, decide_false])) ?_); rw [e, firstSome_hit hn (by rw [hkk, opOk_no (by first | exact .inl (by assumption) | exact .inr (.inl (by assumption)) | exact .inr (.inr (.inl (by assumption))) | exact .inr (.inr (.inr (by assumption)))), if_neg (by omega)]) hlt]; rfl)
        | ((refine fin_le (Le.refl _) (rv_one (rv1_cell (by first | exact pv_load (by rfl) (by rfl) (by rfl) (by rfl) | exact pv_loadA (by rfl) (by rfl) (by rfl) (by first | decide | simp)))) (by first | rfl | (simp only [go_sem, Nat.reduceAdd, Nat.reduceMul, reduceIte, Nat.reduceEqDiff, Nat.reduceLeDiff, Int.reduceToNat, Int.reducePow, Int.reduceBEq, Int.reduceBNe, Int.reduceLT, Int.reduceLE, decide_true, decide_false])) ?_); rw [e, firstSome_hit hn (by rw [hkk, show opE t.ops[k] t.facts = 3 by rw [opOk_yes (by assumption) (by assumption) (by assumption) (by assumption), if_pos (by omega)], if_neg (by omega)]) hlt]; rfl)
        | (refine ⟨k + 1, ⟨by omega, firstSome_step hn (by rw [hkk, show opE t.ops[k] t.facts = 0 by rw [opOk_yes (by assumption) (by assumption) (by assumption) (by assumption), if_neg (by omega)], if_pos rfl])⟩, by omega, ?_⟩; (refine atS ?_); (exact weakS); done)
    · obtain rfl : k = t.ops.length := by omega
      (repeat' (first | (refine hK _ ?_; clear hK K) | (refine aw_seq (fun K hK => ?_)) | (refine gR ?_; refine regS ?_) | (refine gE ?_; refine exN ?_) | (refine gQ ?_; refine condS (fun hc => ?_) (fun hc => ?_) <;> (try (first | contradiction | (exfalso; omega)))) | (refine gX ?_; refine exitS ?_) | (refine gT ?_; refine retS ?_) | (apply_assumption (exfalso := false) (symm := false))))
      (refine fin_le (Le.refl _) (rv_one (rv1_cell (by first | exact pv_load (by rfl) (by rfl) (by rfl) (by rfl) | exact pv_loadA (by rfl) (by rfl) (by rfl) (by first | decide | simp)))) (by first | rfl | (simp only [go_sem, Nat.reduceAdd, Nat.reduceMul, reduceIte, Nat.reduceEqDiff, Nat.reduceLeDiff, Int.reduceToNat, Int.reducePow, Int.reduceBEq, Int.reduceBNe, Int.reduceLT, Int.reduceLE, decide_true, decide_false])) ?_)
      rw [e, hn]
      rfl

end Go.Proofs.Ythdlckclpmfidaa
