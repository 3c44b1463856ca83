import Derived.Test.YtpnpnbbanfgpgaaInx
import Derived.Test.YtpnpnbbanfgpgaaAbh



namespace Go.Proofs.Ytpnpnbbanfgpgaa
open Go.Ab
open Go
set_option linter.unusedSimpArgs false
set_option linter.unusedVariables false
set_option maxRecDepth 10000
attribute [local irreducible] PV AOp AOps AW PCall OCall MCall WCall HCall Ab.Fin OFin OFin2 MFin HFin RV RV1 Le AStk AGrd ADr ADx ADo AOpX AAny
set_option maxHeartbeats 4000000
/-! multi-valued tasks -/
abbrev asg (p : Int × Int) : AV := .agg [.int p.1, .int p.2]
abbrev asc (p : Int × Int) : List AV := [.int p.1, .int p.2]
abbrev asgs (l : List (Int × Int)) : AV := .isl 2 16 (l.map asg)
structure MOp where
  pre : List (Int × Int)
  post : List (Int × Int)
  cost : Int
  deriving Inhabited, DecidableEq
structure MTask where
  sizes : List Int
  init : List Int
  goal : List (Int × Int)
  ops : List MOp
  deriving Inhabited, DecidableEq
abbrev MOp.av (o : MOp) : AV := .agg [asgs o.pre, asgs o.post, .int o.cost]
abbrev moc (o : MOp) : List AV := [asgs o.pre, asgs o.post, .int o.cost]
abbrev mopsA (l : List MOp) : AV := .isl 3 56 (l.map MOp.av)
abbrev MTask.av (m : MTask) : AV := .agg [ints m.sizes, ints m.init, asgs m.goal, mopsA m.ops]
abbrev MTask.cs (m : MTask) : List AV := [ints m.sizes, ints m.init, asgs m.goal, mopsA m.ops]
@[go_sem] theorem asc_flat (l : List (Int × Int)) : (l.map asg).flatMap AV.cells = l.flatMap asc := by rw [List.flatMap_map]; rfl
@[go_sem] theorem asc_app (a b : List (Int × Int)) : (a ++ b).flatMap asc = a.flatMap asc ++ b.flatMap asc := List.flatMap_append
@[go_sem] theorem asc_len (l : List (Int × Int)) : (l.flatMap asc).length = l.length * 2 := by
  induction l with
  | nil => rfl
  | cons w l ih => simp [List.flatMap_cons, ih]; omega
@[go_sem] theorem asc_purge (id : Nat) (l : List (Int × Int)) : AV.purgeL id (l.flatMap asc) = l.flatMap asc := purgeL_flat id asc l fun _ => rfl
@[go_sem] theorem asc_ment (id : Nat) (l : List (Int × Int)) : AV.mentL id (l.flatMap asc) = false := mentL_flat id asc l fun _ => rfl
theorem asc_pur (l : List (Int × Int)) : AV.purL (l.flatMap asc) = true := purL_flat asc l fun _ => rfl
@[go_sem] theorem asc_sealD (id sz bw n : Nat) (es : List AV) (l : List (Int × Int)) : AV.sealDL id sz bw n es (l.flatMap asc) = l.flatMap asc := sealDL_pur (asc_pur l)
@[go_sem] theorem asc_fix (ids pins : List Nat) (l : List (Int × Int)) : AV.fixL ids pins (l.flatMap asc) = l.flatMap asc := fixL_pur (asc_pur l)
@[go_sem] theorem asc_onl (ids : List Nat) (l : List (Int × Int)) : AV.onlL ids (l.flatMap asc) = true := onlL_pur (asc_pur l)
@[go_sem] theorem asc_mk (a b : Int) : asc (a, b) = [.int a, .int b] := rfl
@[go_sem] theorem moc_flat (l : List MOp) : (l.map MOp.av).flatMap AV.cells = l.flatMap moc := by rw [List.flatMap_map]; rfl
@[go_sem] theorem moc_app (a b : List MOp) : (a ++ b).flatMap moc = a.flatMap moc ++ b.flatMap moc := List.flatMap_append
@[go_sem] theorem moc_len (l : List MOp) : (l.flatMap moc).length = l.length * 3 := by
  induction l with
  | nil => rfl
  | cons w l ih => simp [List.flatMap_cons, ih]; omega
@[go_sem] theorem moc_purge (id : Nat) (l : List MOp) : AV.purgeL id (l.flatMap moc) = l.flatMap moc := purgeL_flat id moc l fun _ => rfl
@[go_sem] theorem moc_ment (id : Nat) (l : List MOp) : AV.mentL id (l.flatMap moc) = false := mentL_flat id moc l fun _ => rfl
theorem moc_pur (l : List MOp) : AV.purL (l.flatMap moc) = true := purL_flat moc l fun _ => rfl
@[go_sem] theorem moc_sealD (id sz bw n : Nat) (es : List AV) (l : List MOp) : AV.sealDL id sz bw n es (l.flatMap moc) = l.flatMap moc := sealDL_pur (moc_pur l)
@[go_sem] theorem moc_fix (ids pins : List Nat) (l : List MOp) : AV.fixL ids pins (l.flatMap moc) = l.flatMap moc := fixL_pur (moc_pur l)
@[go_sem] theorem moc_onl (ids : List Nat) (l : List MOp) : AV.onlL ids (l.flatMap moc) = true := onlL_pur (moc_pur l)
theorem sameAssigns_pc (a b : List (Int × Int)) : PCall Try.prog 54 [asgs a, asgs b] (fun r => r = .bool (decide (a = b))) := by
  (refine enterS Try.func54 Try.ntmps54 ?_)
  (refine aw_bound (i := 0) rfl (fun hb => ?_); (try simp only [List.length_map] at hb))
  (refine aw_bound (i := 1) rfl (fun hb1 => ?_); (try simp only [List.length_map] at hb1))
  (repeat' (first | (refine hK _ ?_; clear hK K) | (refine aw_seq (fun K hK => ?_)) | (refine gR ?_; refine regS ?_) | (refine gQ ?_; refine condS (fun hc => ?_) (fun hc => ?_) <;> (try (first | contradiction | (exfalso; omega)))) | (refine aw_block ?_) | (refine gT ?_; refine retS ?_) | (refine gS ?_; refine skipS ?_)))
  · (refine fin_le (Le.refl _) (rv_one (rv1_tmp (by rfl))) (by first | rfl | (simp only [go_sem, Nat.reduceAdd, Nat.reduceMul, reduceIte, Nat.reduceEqDiff, Nat.reduceLeDiff, Int.reduceToNat, Int.reducePow, Int.reduceBEq, Int.reduceBNe, Int.reduceLT, Int.reduceLE, decide_true, decide_false])) ?_)
    rw [decide_eq_false (by rintro rfl; omega)]
  refine aw_loop_at [4, 5, 11, 12, 13, 14, 15, 16, 17, 18, 19, 20, 21, 22, 23, 24, 25] (fun k : Nat => k ≤ a.length ∧ a.take k = b.take k) (fun k => a.length - k) (fun k => [(5, .int k)]) (fun _ => []) 0 ⟨by omega, by simp⟩ ?_ ?_
  · (refine atS ?_)
    (exact weakS)
  · rintro k ⟨hk, hn⟩ K hK
    (refine atS ?_)
    by_cases hlt : k < a.length
    · have hlb : k < b.length := by omega
      (repeat' (first | (refine hK _ ?_; clear hK K) | (refine aw_seq (fun K hK => ?_)) | (refine gR ?_; refine regS ?_) | (refine gD 6 ?_; refine drS (.it 0 0 (.it 1 0 (.it 2 0 (.it 3 0 (.it 4 0 (.it 5 0 (.it 6 0 (.it 7 0 (.it 8 0 .nil))))))))) [0, 1, 2, 3, 4, 5, 6, 7, 8] ?_) | (refine gE ?_; (first | (refine exN ?_) | (refine exS (fun _ => ?_)))) | (refine gQ ?_; refine condS (fun hc => ?_) (fun hc => ?_) <;> (try (first | contradiction | (exfalso; omega)))) | (refine aw_block ?_) | (refine gT ?_; refine retS ?_) | (refine gS ?_; refine skipS ?_)))
      · (refine fin_le (Le.refl _) (rv_one (rv1_tmp (by rfl))) (by first | rfl | (simp only [go_sem, Nat.reduceAdd, Nat.reduceMul, reduceIte, Nat.reduceEqDiff, Nat.reduceLeDiff, Int.reduceToNat, Int.reducePow, Int.reduceBEq, Int.reduceBNe, Int.reduceLT, Int.reduceLE, decide_true, decide_false])) ?_)
        rw [decide_eq_false]
        rintro rfl
        simp_all
      · have hc2 : a[k] = b[k] := Prod.ext (by simp_all) (by simp_all)
        (refine ⟨k + 1, ⟨by omega, by rw [List.take_succ_eq_append_getElem hlt, List.take_succ_eq_append_getElem hlb, hn, hc2]⟩, by omega, ?_⟩; (refine atS ?_); (exact weakS))
    · (repeat' (first | (refine hK _ ?_; clear hK K) | (refine aw_seq (fun K hK => ?_)) | (refine gR ?_; refine regS ?_) | (refine gQ ?_; refine condS (fun hc => ?_) (fun hc => ?_) <;> (try (first | contradiction | (exfalso; omega)))) | (refine gX ?_; refine exitS ?_) | (refine gT ?_; refine retS ?_) | (apply_assumption (exfalso := false) (symm := false))))
      (refine fin_le (Le.refl _) (rv_one (rv1_tmp (by rfl))) (by first | rfl | (simp only [go_sem, Nat.reduceAdd, Nat.reduceMul, reduceIte, Nat.reduceEqDiff, Nat.reduceLeDiff, Int.reduceToNat, Int.reducePow, Int.reduceBEq, Int.reduceBNe, Int.reduceLT, Int.reduceLE, decide_true, decide_false])) ?_)
      rw [List.take_of_length_le (by omega), List.take_of_length_le (by omega)] at hn
      rw [hn]; simp

theorem mop_ext {a b : MOp} (h1 : a.cost = b.cost) (h2 : a.pre = b.pre) (h3 : a.post = b.post) : a = b := by cases a; cases b; simp_all
theorem mtask_ext {a b : MTask} (h1 : a.sizes = b.sizes) (h2 : a.init = b.init) (h3 : a.goal = b.goal) (h4 : a.ops = b.ops) : a = b := by cases a; cases b; simp_all
theorem sameMulti_pc (a b : MTask) : PCall Try.prog 29 [a.av, b.av] (fun r => r = .bool (decide (a = b))) := by
  (refine enterS Try.func29 Try.ntmps29 ?_)
  (refine aw_reach (i := 0) rfl (fun hR => ?_))
  have hb0 := hR 3 56 (a.ops.map MOp.av) (.agg (c := mopsA a.ops) (by simp) .refl)
  rw [List.length_map] at hb0
  clear hR
  (refine aw_reach (i := 1) rfl (fun hR => ?_))
  have hb1 := hR 3 56 (b.ops.map MOp.av) (.agg (c := mopsA b.ops) (by simp) .refl)
  rw [List.length_map] at hb1
  clear hR
  (repeat' (first | (refine hK _ ?_; clear hK K) | (refine aw_seq (fun K hK => ?_)) | (refine gR ?_; refine regS ?_) | (refine gC 23 ?_; refine callS (ints_pc _ _) ?_) | (refine gC 54 ?_; refine callS (sameAssigns_pc _ _) ?_) | (refine gE ?_; refine exN ?_) | (refine gG ?_; refine guardS (fun hc => ?_) (fun hc => ?_) <;> (try (first | contradiction | (exfalso; omega)))) | (refine gQ ?_; (first | (refine condT ?_) | (refine condS (fun hc => ?_) (fun hc => ?_) <;> (try (first | contradiction | (exfalso; omega)))))) | (refine aw_block ?_) | (refine gT ?_; refine retS ?_) | (refine gS ?_; refine skipS ?_)))
  any_goals ((refine fin_le (Le.refl _) (rv_one (rv1_tmp (by rfl))) (by first | rfl | (simp only [go_sem, Nat.reduceAdd, Nat.reduceMul, reduceIte, Nat.reduceEqDiff, Nat.reduceLeDiff, Int.reduceToNat, Int.reducePow, Int.reduceBEq, Int.reduceBNe, Int.reduceLT, Int.reduceLE, decide_true, decide_false])) ?_); rw [decide_eq_false (by rintro rfl; simp_all)]; done)
  have e1 : a.sizes = b.sizes := by simp_all
  have e2 : a.init = b.init := by simp_all
  have e3 : a.goal = b.goal := by simp_all
  refine aw_loop_at [4, 5, 6, 7, 39, 40, 41, 42, 43, 44, 45, 46, 47, 48, 49, 50, 51, 52, 53, 54, 55, 56, 57, 58, 59, 60, 61, 62, 63, 64, 65, 66, 67, 68, 69, 70, 71, 72, 73, 74, 75, 76] (fun k : Nat => k ≤ a.ops.length ∧ a.ops.take k = b.ops.take k) (fun k => a.ops.length - k) (fun k => [(5, .int k)]) (fun _ => [(2, ⟨40, a.cs, true⟩), (3, ⟨40, b.cs, true⟩)]) 0 ⟨by omega, by simp⟩ ?_ ?_
  · (refine atS ?_)
    (exact weakS)
  · rintro k ⟨hk, hn⟩ K hK
    (refine atS ?_)
    by_cases hlt : k < a.ops.length
    · have hlb : k < b.ops.length := by omega
      (repeat' (first | (refine hK _ ?_; clear hK K) | (refine aw_seq (fun K hK => ?_)) | (refine gR ?_; refine regS ?_) | (refine gC 54 ?_; refine callS (sameAssigns_pc _ _) ?_) | (refine gE ?_; (first | (refine exN ?_) | (refine exS (fun _ => ?_)))) | (refine gG ?_; refine guardS (fun hc => ?_) (fun hc => ?_) <;> (try (first | contradiction | (exfalso; omega)))) | (refine gQ ?_; (first | (refine condT ?_) | (refine condS (fun hc => ?_) (fun hc => ?_) <;> (try (first | contradiction | (exfalso; omega)))))) | (refine aw_block ?_) | (refine gT ?_; refine retS ?_) | (refine gS ?_; refine skipS ?_)))
      any_goals ((refine fin_le (Le.refl _) (rv_one (rv1_tmp (by rfl))) (by first | rfl | (simp only [go_sem, Nat.reduceAdd, Nat.reduceMul, reduceIte, Nat.reduceEqDiff, Nat.reduceLeDiff, Int.reduceToNat, Int.reducePow, Int.reduceBEq, Int.reduceBNe, Int.reduceLT, Int.reduceLE, decide_true, decide_false])) ?_); rw [decide_eq_false (by rintro rfl; simp_all)]; done)
      have e4 : a.ops[k] = b.ops[k] := mop_ext (by assumption) (by simp_all) (by simp_all)
      (refine ⟨k + 1, ⟨by omega, by rw [List.take_succ_eq_append_getElem hlt, List.take_succ_eq_append_getElem hlb, hn, e4]⟩, by omega, ?_⟩; (refine atS ?_); (exact weakS))
    · (repeat' (first | (refine hK _ ?_; clear hK K) | (refine aw_seq (fun K hK => ?_)) | (refine gR ?_; refine regS ?_) | (refine gE ?_; refine exN ?_) | (refine gQ ?_; refine condS (fun hc => ?_) (fun hc => ?_) <;> (try (first | contradiction | (exfalso; omega)))) | (refine gX ?_; refine exitS ?_) | (refine gT ?_; refine retS ?_) | (apply_assumption (exfalso := false) (symm := false))))
      (refine fin_le (Le.refl _) (rv_one (rv1_tmp (by rfl))) (by first | rfl | (simp only [go_sem, Nat.reduceAdd, Nat.reduceMul, reduceIte, Nat.reduceEqDiff, Nat.reduceLeDiff, Int.reduceToNat, Int.reducePow, Int.reduceBEq, Int.reduceBNe, Int.reduceLT, Int.reduceLE, decide_true, decide_false])) ?_)
      rw [List.take_of_length_le (by omega), List.take_of_length_le (by omega)] at hn
      rw [decide_eq_true (mtask_ext e1 e2 e3 hn)]

theorem cloneA_oc0 (ws : List (Int × Int)) : OCall Try.prog 63 [asgs ws] [5] (fun x hp => x = .sl 2 16 5 0 ws.length ∧ hp = [(5, ⟨61, ws.flatMap asc, false⟩)]) := by
  (refine enterO Try.func63 Try.ntmps63 ?_)
  (refine aw_bound (i := 0) rfl (fun hb => ?_); (try simp only [List.length_map] at hb))
  (repeat' (first | (refine hK _ ?_; clear hK K) | (refine aw_seq (fun K hK => ?_)) | (refine gR ?_; refine regS ?_) | (refine stk_op (fun K hK => ?_); (first | (refine aop_eqNil (by rfl) (fun b hnil => ?_); cases b) | (refine appendS ?_))) | (refine gQ ?_; (first | (refine condT ?_) | (refine condF ?_))) | (refine gT ?_; refine retS ?_) | (refine gS ?_; refine skipS ?_)))
  · refine ofin_sl rfl (by rfl) (by rfl) (asc_pur ws) ⟨by simp, rfl⟩
  · have h0 : ws = [] := by simpa using hnil rfl
    subst h0
    refine ofin_le (le_virt 2 5 2 16 61 rfl rfl) (ofin_sl rfl (by rfl) (by rfl) rfl ⟨rfl, rfl⟩)
theorem cloneA_oc (m : Nat) (ws : List (Int × Int)) : OCall Try.prog 63 [asgs ws] [5 + m] (fun x hp => x = .sl 2 16 (5 + m) 0 ws.length ∧ hp = [(5 + m, ⟨61, ws.flatMap asc, false⟩)]) :=
  (cloneA_oc0 ws).ren m fun x hp ⟨h1, h2⟩ => by subst h1; subst h2; exact ⟨rfl, by simp only [renHp, renL_pur (asc_pur ws)]⟩
end Go.Proofs.Ytpnpnbbanfgpgaa
