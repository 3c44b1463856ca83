import Derived.Test.YtjefjhcaicohjaaNumj

namespace Go.Proofs.Ytjefjhcaicohjaa
open Go.Ab
open Go
set_option linter.unusedSimpArgs false
set_option linter.unusedVariables false
set_option maxRecDepth 10000
attribute [local irreducible] PV AOp AOps AW PCall OCall Ab.Fin OFin RV RV1 Le AStk AGrd ADr ADx ADo AOpX AAny
set_option maxHeartbeats 4000000
/-! rows of pairs -/
abbrev prc (w : Int × Int) : List AV := [.int w.1, .int w.2]
def setA (ws : List (Int × Int)) (k : Nat) (x : Int) : List (Int × Int) := ws.modify k fun w => (x, w.2)
def setB (ws : List (Int × Int)) (k : Nat) (x : Int) : List (Int × Int) := ws.modify k fun w => (w.1, x)
@[go_sem] theorem setA_len (ws : List (Int × Int)) (k : Nat) (x : Int) : (setA ws k x).length = ws.length := by simp [setA]
@[go_sem] theorem setB_len (ws : List (Int × Int)) (k : Nat) (x : Int) : (setB ws k x).length = ws.length := by simp [setB]
theorem modify_set {α : Type} {l : List α} {k : Nat} (h : k < l.length) (f : α → α) : l.modify k f = l.set k (f l[k]) := by
  apply List.ext_getElem?
  intro i
  rw [List.getElem?_modify, List.getElem?_set]
  by_cases hi : k = i
  · subst hi; simp [h]
  · simp [hi]
theorem setA_eq {ws : List (Int × Int)} {k : Nat} (h : k < ws.length) (x : Int) : setA ws k x = ws.set k (x, ws[k].2) := by
  unfold setA; rw [modify_set h]
theorem setB_eq {ws : List (Int × Int)} {k : Nat} (h : k < ws.length) (x : Int) : setB ws k x = ws.set k (ws[k].1, x) := by
  unfold setB; rw [modify_set h]
@[go_sem] theorem setA_get1 (ws : List (Int × Int)) (k : Nat) (x : Int) (h : k < (setA ws k x).length) : ((setA ws k x)[k]'h).1 = x := by
  have h2 : k < ws.length := by simpa [setA] using h
  simp only [setA_eq h2, List.getElem_set_self]
@[go_sem] theorem setA_get2 (ws : List (Int × Int)) (k : Nat) (x : Int) (h : k < (setA ws k x).length) : ((setA ws k x)[k]'h).2 = (ws[k]'(by simpa [setA] using h)).2 := by
  have h2 : k < ws.length := by simpa [setA] using h
  simp only [setA_eq h2, List.getElem_set_self]
@[go_sem] theorem setB_get1 (ws : List (Int × Int)) (k : Nat) (x : Int) (h : k < (setB ws k x).length) : ((setB ws k x)[k]'h).1 = (ws[k]'(by simpa [setB] using h)).1 := by
  have h2 : k < ws.length := by simpa [setB] using h
  simp only [setB_eq h2, List.getElem_set_self]
@[go_sem] theorem setB_get2 (ws : List (Int × Int)) (k : Nat) (x : Int) (h : k < (setB ws k x).length) : ((setB ws k x)[k]'h).2 = x := by
  have h2 : k < ws.length := by simpa [setB] using h
  simp only [setB_eq h2, List.getElem_set_self]
@[go_sem] theorem prc_mk (a b : Int) : prc (a, b) = [.int a, .int b] := rfl
@[go_sem] theorem pr_flat (ws : List (Int × Int)) : (ws.map pr).flatMap AV.cells = ws.flatMap prc := by rw [List.flatMap_map]; rfl
@[go_sem] theorem prc_app (a b : List (Int × Int)) : (a ++ b).flatMap prc = a.flatMap prc ++ b.flatMap prc := List.flatMap_append
@[go_sem] theorem prc_len (ws : List (Int × Int)) : (ws.flatMap prc).length = ws.length * 2 := by
  induction ws with
  | nil => rfl
  | cons w ws ih => simp [List.flatMap_cons, ih]; omega
theorem prc_get? (ws : List (Int × Int)) (k : Nat) : (ws.flatMap prc)[k * 2]? = ws[k]?.map (fun w => AV.int w.1) ∧ (ws.flatMap prc)[k * 2 + 1]? = ws[k]?.map (fun w => AV.int w.2) := by
  induction ws generalizing k with
  | nil => simp
  | cons w ws ih =>
    cases k with
    | zero => simp [List.flatMap_cons]
    | succ k =>
      have := ih k
      simp only [List.flatMap_cons, Nat.add_mul, Nat.one_mul, List.getElem?_cons_succ]
      exact this
@[go_sem] theorem prc_get0 (ws : List (Int × Int)) (k : Nat) (h : k * 2 < (ws.flatMap prc).length) : (ws.flatMap prc)[k * 2]'h = .int (ws[k]'(by rw [prc_len] at h; omega)).1 := by
  have h2 : k < ws.length := by rw [prc_len] at h; omega
  have := (prc_get? ws k).1
  rw [List.getElem?_eq_getElem h, List.getElem?_eq_getElem h2] at this
  simpa using this
@[go_sem] theorem prc_get1 (ws : List (Int × Int)) (k : Nat) (h : k * 2 + 1 < (ws.flatMap prc).length) : (ws.flatMap prc)[k * 2 + 1]'h = .int (ws[k]'(by rw [prc_len] at h; omega)).2 := by
  have h2 : k < ws.length := by rw [prc_len] at h; omega
  have := (prc_get? ws k).2
  rw [List.getElem?_eq_getElem h, List.getElem?_eq_getElem h2] at this
  simpa using this
@[go_sem] theorem prc_set0 (ws : List (Int × Int)) (k : Nat) (x : Int) : (ws.flatMap prc).set (k * 2) (.int x) = (setA ws k x).flatMap prc := by
  unfold setA
  induction ws generalizing k with
  | nil => simp
  | cons w ws ih =>
    cases k with
    | zero => simp [List.flatMap_cons]
    | succ k =>
      have := ih k
      simp only [List.flatMap_cons, Nat.add_mul, Nat.one_mul, List.modify_succ_cons, List.cons_append, List.nil_append, List.set_cons_succ]
      rw [this]
@[go_sem] theorem prc_set1 (ws : List (Int × Int)) (k : Nat) (x : Int) : (ws.flatMap prc).set (k * 2 + 1) (.int x) = (setB ws k x).flatMap prc := by
  unfold setB
  induction ws generalizing k with
  | nil => simp
  | cons w ws ih =>
    cases k with
    | zero => simp [List.flatMap_cons]
    | succ k =>
      have := ih k
      simp only [List.flatMap_cons, Nat.add_mul, Nat.one_mul, List.modify_succ_cons, List.cons_append, List.nil_append, List.set_cons_succ]
      rw [this]
@[go_sem] theorem prc_purge (id : Nat) (ws : List (Int × Int)) : AV.purgeL id (ws.flatMap prc) = ws.flatMap prc := purgeL_flat id prc ws fun _ => rfl
@[go_sem] theorem prc_ment (id : Nat) (ws : List (Int × Int)) : AV.mentL id (ws.flatMap prc) = false := mentL_flat id prc ws fun _ => rfl
theorem prc_pur (ws : List (Int × Int)) : AV.purL (ws.flatMap prc) = true := purL_flat prc ws fun _ => rfl
theorem cloneP_oc0 (ws : List (Int × Int)) : OCall Try.prog 115 [prs ws] [5] (fun x hp => x = .sl 2 16 5 0 ws.length ∧ hp = [(5, ⟨122, ws.flatMap prc, false⟩)]) := by
  (refine enterO Try.func115 Try.ntmps115 ?_)
  (refine aw_bound (i := 0) rfl (fun hb => ?_); (try simp only [List.length_map] at hb))
  (repeat' (first | (refine hK _ ?_; clear hK K) | (refine aw_seq (fun K hK => ?_)) | (refine gR ?_; refine regS ?_) | (refine gE ?_; (first | (refine exN ?_) | (refine exS (fun _ => ?_)))) | (refine stk_op (fun K hK => ?_); (first | (refine aop_eqNil (by rfl) (fun b hnil => ?_); cases b) | (refine aop_append (by rfl) (by rfl) (by rfl) (by first | rfl | (simp only [go_sem, Nat.reduceAdd, Nat.reduceMul, reduceIte, Nat.reduceEqDiff, Nat.reduceLeDiff, Int.reduceBEq, Int.reduceBNe, Int.reduceLT, Int.reduceLE, decide_true, decide_false, List.length_take, List.length_map]; omega) | simp) (by rfl) (by first | exact esOne_one rfl | exact esOne_map (fun _ => rfl)) (by rfl) (by first | decide | (simp; done) | (simp; omega)) (by first | decide | (simp; done) | (simp; omega)) (by first | omega | (simp only [go_sem, Nat.reduceAdd, Nat.reduceMul, reduceIte, Nat.reduceEqDiff, Nat.reduceLeDiff, Int.reduceBEq, Int.reduceBNe, Int.reduceLT, Int.reduceLE, decide_true, decide_false]; omega)) ?_) | (refine aop_appendV (by rfl) (by rfl) (by rfl) (by first | exact esOne_one rfl | exact esOne_map (fun _ => rfl)) (by rfl) (by first | decide | (simp; done) | (simp; omega)) (by first | decide | (simp; done) | (simp; omega)) (by first | omega | (simp only [go_sem, Nat.reduceAdd, Nat.reduceMul, reduceIte, Nat.reduceEqDiff, Nat.reduceLeDiff, Int.reduceBEq, Int.reduceBNe, Int.reduceLT, Int.reduceLE, decide_true, decide_false]; omega)) ?_) | (refine aop_le (le_virt 5 7 2 16 122 (by rfl) (by first | rfl | (simp [St.free, mentHp, AV.mentL, AV.ment]))) ?_; simp only [go_sem, Nat.reduceAdd, Nat.reduceMul, reduceIte, Nat.reduceEqDiff, Nat.reduceLeDiff, Int.reduceBEq, Int.reduceBNe, Int.reduceLT, Int.reduceLE, decide_true, decide_false]; refine aop_append (by rfl) (by rfl) (by rfl) (by first | rfl | (simp only [go_sem, Nat.reduceAdd, Nat.reduceMul, reduceIte, Nat.reduceEqDiff, Nat.reduceLeDiff, Int.reduceBEq, Int.reduceBNe, Int.reduceLT, Int.reduceLE, decide_true, decide_false, List.length_take, List.length_map]; omega) | simp) (by rfl) (by first | exact esOne_one rfl | exact esOne_map (fun _ => rfl)) (by rfl) (by first | decide | (simp; done) | (simp; omega)) (by first | decide | (simp; done) | (simp; omega)) (by first | omega | (simp only [go_sem, Nat.reduceAdd, Nat.reduceMul, reduceIte, Nat.reduceEqDiff, Nat.reduceLeDiff, Int.reduceBEq, Int.reduceBNe, Int.reduceLT, Int.reduceLE, decide_true, decide_false]; omega)) ?_))) | (refine gQ ?_; (first | (refine condT ?_) | (refine condF ?_) | (refine condS (fun hc => ?_) (fun hc => ?_) <;> (try (first | contradiction | (exfalso; omega)))))) | (refine gW ?_; refine wopsS ?_) | (refine aw_block ?_) | (refine gX ?_; refine exitS ?_) | (refine gT ?_; refine retS ?_) | (refine gS ?_; refine skipS ?_) | (apply_assumption (exfalso := false) (symm := false))))
  · refine ofin_sl rfl (by rfl) (by rfl) (prc_pur ws) ⟨by simp, rfl⟩
  · have h0 : ws = [] := by simpa using hnil rfl
    subst h0
    refine ofin_le (le_virt 2 5 2 16 122 rfl rfl) (ofin_sl rfl (by rfl) (by rfl) rfl ⟨rfl, rfl⟩)
theorem cloneP_oc (m : Nat) (ws : List (Int × Int)) : OCall Try.prog 115 [prs ws] [5 + m] (fun x hp => x = .sl 2 16 (5 + m) 0 ws.length ∧ hp = [(5 + m, ⟨122, ws.flatMap prc, false⟩)]) :=
  (cloneP_oc0 ws).ren m fun x hp ⟨h1, h2⟩ => by subst h1; subst h2; exact ⟨rfl, by simp only [renHp, renL_pur (prc_pur ws)]⟩

/-! widening -/
def upd (v w : List (Int × Int)) (c : Chg) : List (Int × Int) :=
  w.modify c.var.toNat fun p => (max (-1000000) (min p.1 (lowOf c.f v + c.const)), min 1000000 (max p.2 (highOf c.f v + c.const)))
theorem upd_eq {v w : List (Int × Int)} {c : Chg} (h : c.var.toNat < w.length) : upd v w c = setB (setA w c.var.toNat (max (-1000000) (min w[c.var.toNat].1 (lowOf c.f v + c.const)))) c.var.toNat (min 1000000 (max w[c.var.toNat].2 (highOf c.f v + c.const))) := by
  rw [setA_eq h, setB_eq (by simpa using h)]
  simp only [List.getElem_set_self, List.set_set]
  unfold upd; rw [modify_set h]
def updOp (v w : List (Int × Int)) (o : NOp) : List (Int × Int) := if posN v o.pre = true then o.chg.foldl (upd v) w else w
def widenOf (t : NT) (v : List (Int × Int)) : List (Int × Int) := t.ops.foldl (updOp v) v
theorem upd_len (v w : List (Int × Int)) (c : Chg) : (upd v w c).length = w.length := by simp [upd]
theorem foldUpd_len (v : List (Int × Int)) (cs : List Chg) : ∀ w : List (Int × Int), (cs.foldl (upd v) w).length = w.length := by
  induction cs with
  | nil => intro w; rfl
  | cons c cs ih => intro w; simp [ih, upd_len]
theorem updOp_len (v w : List (Int × Int)) (o : NOp) : (updOp v w o).length = w.length := by
  unfold updOp; split
  · exact foldUpd_len v _ w
  · rfl
theorem foldOp_len (v : List (Int × Int)) (os : List NOp) : ∀ w : List (Int × Int), (os.foldl (updOp v) w).length = w.length := by
  induction os with
  | nil => intro w; rfl
  | cons c cs ih => intro w; simp [ih, updOp_len]
theorem foldl_take {α β : Type} {f : β → α → β} {b : β} {l : List α} {k : Nat} (hk : k < l.length) : (l.take (k + 1)).foldl f b = f ((l.take k).foldl f b) l[k] := by
  rw [List.take_succ_eq_append_getElem hk, List.foldl_append]; rfl
theorem widen_pc (t : NT) (v : List (Int × Int)) (h8 : v.length ≤ 8) (b2 : BdP v) (hw : ∀ o ∈ t.ops, WfC v.length o.pre) (hg : ∀ o ∈ t.ops, WfG v.length o.chg) : PCall Try.prog 89 [t.av, prs v] (fun r => r = prs (widenOf t v)) := by
  (refine enterS Try.func89 Try.ntmps89 ?_)
  (refine aw_reach (i := 0) rfl (fun hR => ?_))
  have hRc : ∀ k (h : k < t.ops.length), t.ops[k].chg.length * 40 ≤ 140737488355328 := by
    intro k hk
    have := hR 3 40 (t.ops[k].chg.map Chg.av) (.agg (c := .isl 3 56 (t.ops.map NOp.av)) (by simp) (.isl (List.mem_map_of_mem (List.getElem_mem hk)) (by simp [AV.cells]) .refl))
    rwa [List.length_map] at this
  have hb2 := hR 3 56 (t.ops.map NOp.av) (.agg (c := .isl 3 56 (t.ops.map NOp.av)) (by simp) .refl)
  rw [List.length_map] at hb2
  clear hR
  (repeat' (first | (refine hK _ ?_; clear hK K) | (refine aw_seq (fun K hK => ?_)) | (refine gR ?_; refine regS ?_) | (refine gD 10 ?_; refine drS (.it 0 0 (.it 1 0 (.it 2 0 (.it 3 0 (.it 4 0 (.it 5 0 (.it 6 0 (.it 7 0 (.it 8 0 (.it 9 0 (.it 10 0 (.it 11 0 (.it 12 0 (.it 13 0 (.it 14 0 (.it 15 0 (.it 16 0 (.it 17 0 (.it 18 3 .nil))))))))))))))))))) [0, 1, 2, 3, 4, 5, 6, 7, 8, 9, 10, 11, 12, 13, 14, 15, 16, 17] ?_) | (refine gD 11 ?_; refine drS (.it 0 0 (.it 1 0 (.it 2 0 (.it 3 0 (.it 4 0 (.it 5 0 (.it 6 0 (.it 7 0 (.it 8 0 (.it 9 0 (.it 10 0 (.it 11 0 (.it 12 0 (.it 13 0 (.it 14 0 (.it 15 0 (.it 16 0 (.it 17 0 (.it 18 3 .nil))))))))))))))))))) [0, 1, 2, 3, 4, 5, 6, 7, 8, 9, 10, 11, 12, 13, 14, 15, 16, 17] ?_) | (refine gE ?_; (first | (refine exN ?_) | (refine exS (fun _ => ?_)))) | (refine gC 116 ?_; refine callS (possible_pc _ (by assumption) (by assumption) _ (by assumption)) ?_) | (refine gC 117 ?_; refine callS (spanOf_pc _ _ (by assumption) (by assumption) (by assumption) (by assumption)) ?_) | (refine stk_op (fun K hK => ?_); (first | (refine aop_callO (cloneP_oc 12000 _) (by rfl) (free_one (by first | rfl | (simp [St.free, mentHp, AV.mentL, AV.ment]))) (fun x hp hx => ?_); obtain ⟨rfl, rfl⟩ := hx) | (refine aop_pv (pv_fieldAddrF (by rfl) (by rfl) (by first | decide | (simp; done) | (simp; omega))) ?_) | (refine aop_pv (pv_fieldAddrIF (by rfl) (by rfl) (by first | decide | (simp; done) | (simp; omega))) ?_))) | (refine adx_op (fun K hK => ?_); (first | (refine pv_fieldAddrF (by rfl) (by rfl) (by first | decide | (simp; done) | (simp; omega)) ?_) | (refine pv_fieldAddrIF (by rfl) (by rfl) (by first | decide | (simp; done) | (simp; omega)) ?_))) | (refine And.intro ?_ ?_) | (refine gDx ?_; refine adxS ?_) | (refine gO ?_; refine adoS ?_) | (refine gQ ?_; (first | (refine condT ?_) | (refine condF ?_) | (refine condS (fun hc => ?_) (fun hc => ?_) <;> (try (first | contradiction | (exfalso; omega)))))) | (refine gW ?_; refine wopsS ?_) | (refine gWd ?_; refine wdrS ?_) | (refine aw_block ?_) | (refine gX ?_; refine exitS ?_) | (refine gT ?_; refine retS ?_) | (refine gS ?_; refine skipS ?_) | (apply_assumption (exfalso := false) (symm := false))))
  refine aw_loop_at [7, 9, 10, 16, 17, 18, 19, 20, 21, 22, 23, 24, 25, 26, 27, 28, 29, 30, 31, 32, 33, 34, 35, 36, 37, 38, 39, 40, 41, 42, 43, 44, 45, 46, 47, 48, 49, 50, 51, 52, 53, 54, 55, 56, 57, 58, 59, 60, 61, 62, 63, 64, 65, 66, 67, 68, 69, 70, 71, 72, 73] (fun k : Nat => k ≤ t.ops.length) (fun k => t.ops.length - k) (fun k => [(16, .int k), (5, .sl 2 16 12005 0 v.length)])
    (fun k => [(2, ⟨62, [ints t.init, .isl 3 40 (t.goal.map Cmp.av), .isl 3 56 (t.ops.map NOp.av)], true⟩), (12005, ⟨122, ((t.ops.take k).foldl (updOp v) v).flatMap prc, false⟩)]) 0 (by omega) ?_ ?_
  · (simp only [sets, havoc, go_sem, Nat.reduceAdd, Nat.reduceMul, reduceIte, Nat.reduceEqDiff, Nat.reduceLeDiff, Int.reduceBEq, Int.reduceBNe, Int.reduceLT, Int.reduceLE, decide_true, decide_false])
    (exact weakS)
  · rintro k hk K hK
    (simp only [sets, havoc, go_sem, Nat.reduceAdd, Nat.reduceMul, reduceIte, Nat.reduceEqDiff, Nat.reduceLeDiff, Int.reduceBEq, Int.reduceBNe, Int.reduceLT, Int.reduceLE, decide_true, decide_false])
    by_cases hlt : k < t.ops.length
    · have hwc := hw _ (List.getElem_mem hlt)
      have hwg := hg _ (List.getElem_mem hlt)
      have hb3 := hRc k hlt
      have ht := foldl_take (f := updOp v) (b := v) hlt
      have hlen := foldOp_len v (t.ops.take k) v
      generalize (t.ops.take k).foldl (updOp v) v = w at ht hlen
      (repeat' (first | (refine hK _ ?_; clear hK K) | (refine aw_seq (fun K hK => ?_)) | (refine gR ?_; refine regS ?_) | (refine gD 10 ?_; refine drS (.it 0 0 (.it 1 0 (.it 2 0 (.it 3 0 (.it 4 0 (.it 5 0 (.it 6 0 (.it 7 0 (.it 8 0 (.it 9 0 (.it 10 0 (.it 11 0 (.it 12 0 (.it 13 0 (.it 14 0 (.it 15 0 (.it 16 0 (.it 17 0 (.it 18 3 .nil))))))))))))))))))) [0, 1, 2, 3, 4, 5, 6, 7, 8, 9, 10, 11, 12, 13, 14, 15, 16, 17] ?_) | (refine gD 11 ?_; refine drS (.it 0 0 (.it 1 0 (.it 2 0 (.it 3 0 (.it 4 0 (.it 5 0 (.it 6 0 (.it 7 0 (.it 8 0 (.it 9 0 (.it 10 0 (.it 11 0 (.it 12 0 (.it 13 0 (.it 14 0 (.it 15 0 (.it 16 0 (.it 17 0 (.it 18 3 .nil))))))))))))))))))) [0, 1, 2, 3, 4, 5, 6, 7, 8, 9, 10, 11, 12, 13, 14, 15, 16, 17] ?_) | (refine gE ?_; (first | (refine exN ?_) | (refine exS (fun _ => ?_)))) | (refine gC 116 ?_; refine callS (possible_pc _ (by assumption) (by assumption) _ (by assumption)) ?_) | (refine gC 117 ?_; refine callS (spanOf_pc _ _ (by assumption) (by assumption) (by assumption) (by assumption)) ?_) | (refine stk_op (fun K hK => ?_); (first | (refine aop_callO (cloneP_oc 12000 _) (by rfl) (free_one (by first | rfl | (simp [St.free, mentHp, AV.mentL, AV.ment]))) (fun x hp hx => ?_); obtain ⟨rfl, rfl⟩ := hx) | (refine aop_pv (pv_fieldAddrF (by rfl) (by rfl) (by first | decide | (simp; done) | (simp; omega))) ?_) | (refine aop_pv (pv_fieldAddrIF (by rfl) (by rfl) (by first | decide | (simp; done) | (simp; omega))) ?_))) | (refine adx_op (fun K hK => ?_); (first | (refine pv_fieldAddrF (by rfl) (by rfl) (by first | decide | (simp; done) | (simp; omega)) ?_) | (refine pv_fieldAddrIF (by rfl) (by rfl) (by first | decide | (simp; done) | (simp; omega)) ?_))) | (refine And.intro ?_ ?_) | (refine gDx ?_; refine adxS ?_) | (refine gO ?_; refine adoS ?_) | (refine gQ ?_; (first | (refine condT ?_) | (refine condF ?_) | (refine condS (fun hc => ?_) (fun hc => ?_) <;> (try (first | contradiction | (exfalso; omega)))))) | (refine gW ?_; refine wopsS ?_) | (refine gWd ?_; refine wdrS ?_) | (refine aw_block ?_) | (refine gX ?_; refine exitS ?_) | (refine gT ?_; refine retS ?_) | (refine gS ?_; refine skipS ?_) | (apply_assumption (exfalso := false) (symm := false))))
      · have hpf : posN v t.ops[k].pre = false := by assumption
        have hu : updOp v w t.ops[k] = w := by unfold updOp; rw [if_neg (by rw [hpf]; simp)]
        refine ⟨k + 1, by omega, by omega, ?_⟩
        rw [ht, hu]
        (simp only [sets, havoc, go_sem, Nat.reduceAdd, Nat.reduceMul, reduceIte, Nat.reduceEqDiff, Nat.reduceLeDiff, Int.reduceBEq, Int.reduceBNe, Int.reduceLT, Int.reduceLE, decide_true, decide_false])
        (exact weakS)
      · have hpt : posN v t.ops[k].pre = true := by assumption
        have hu : updOp v w t.ops[k] = t.ops[k].chg.foldl (upd v) w := by unfold updOp; rw [if_pos hpt]
        refine aw_loop_at [9, 10, 28, 29, 30, 31, 32, 33, 34, 35, 36, 37, 38, 39, 40, 41, 42, 43, 44, 45, 46, 47, 48, 49, 50, 51, 52, 53, 54, 55, 56, 57, 58, 59, 60, 61, 62, 63, 64, 65, 66, 67, 68, 69, 70, 71, 72] (fun j : Nat => j ≤ t.ops[k].chg.length) (fun j => t.ops[k].chg.length - j) (fun j => [(28, .int j), (5, .sl 2 16 12005 0 v.length)])
          (fun j => [(2, ⟨62, [ints t.init, .isl 3 40 (t.goal.map Cmp.av), .isl 3 56 (t.ops.map NOp.av)], true⟩), (12005, ⟨122, ((t.ops[k].chg.take j).foldl (upd v) w).flatMap prc, false⟩)]) 0 (by omega) ?_ ?_
        · (simp only [sets, havoc, go_sem, Nat.reduceAdd, Nat.reduceMul, reduceIte, Nat.reduceEqDiff, Nat.reduceLeDiff, Int.reduceBEq, Int.reduceBNe, Int.reduceLT, Int.reduceLE, decide_true, decide_false])
          (exact weakS)
        · rintro j hj K hK
          (simp only [sets, havoc, go_sem, Nat.reduceAdd, Nat.reduceMul, reduceIte, Nat.reduceEqDiff, Nat.reduceLeDiff, Int.reduceBEq, Int.reduceBNe, Int.reduceLT, Int.reduceLE, decide_true, decide_false])
          by_cases hlj : j < t.ops[k].chg.length
          · obtain ⟨g1, g2, g3, g4, g5, g6⟩ := hwg _ (List.getElem_mem hlj)
            have hjt := foldl_take (f := upd v) (b := w) hlj
            have hjl := foldUpd_len v (t.ops[k].chg.take j) w
            generalize (t.ops[k].chg.take j).foldl (upd v) w = z at hjt hjl
            have d1 := low_bd g3 g4 b2
            have d2 := high_bd g3 g4 b2
            have hvz : t.ops[k].chg[j].var.toNat < z.length := by omega
            (repeat' (first | (refine hK _ ?_; clear hK K) | (refine aw_seq (fun K hK => ?_)) | (refine gR ?_; refine regS ?_) | (refine gD 10 ?_; refine drS (.it 0 0 (.it 1 0 (.it 2 0 (.it 3 0 (.it 4 0 (.it 5 0 (.it 6 0 (.it 7 0 (.it 8 0 (.it 9 0 (.it 10 0 (.it 11 0 (.it 12 0 (.it 13 0 (.it 14 0 (.it 15 0 (.it 16 0 (.it 17 0 (.it 18 3 .nil))))))))))))))))))) [0, 1, 2, 3, 4, 5, 6, 7, 8, 9, 10, 11, 12, 13, 14, 15, 16, 17] ?_) | (refine gD 11 ?_; refine drS (.it 0 0 (.it 1 0 (.it 2 0 (.it 3 0 (.it 4 0 (.it 5 0 (.it 6 0 (.it 7 0 (.it 8 0 (.it 9 0 (.it 10 0 (.it 11 0 (.it 12 0 (.it 13 0 (.it 14 0 (.it 15 0 (.it 16 0 (.it 17 0 (.it 18 3 .nil))))))))))))))))))) [0, 1, 2, 3, 4, 5, 6, 7, 8, 9, 10, 11, 12, 13, 14, 15, 16, 17] ?_) | (refine gE ?_; (first | (refine exN ?_) | (refine exS (fun _ => ?_)))) | (refine gC 116 ?_; refine callS (possible_pc _ (by assumption) (by assumption) _ (by assumption)) ?_) | (refine gC 117 ?_; refine callS (spanOf_pc _ _ (by assumption) (by assumption) (by assumption) (by assumption)) ?_) | (refine stk_op (fun K hK => ?_); (first | (refine aop_callO (cloneP_oc 12000 _) (by rfl) (free_one (by first | rfl | (simp [St.free, mentHp, AV.mentL, AV.ment]))) (fun x hp hx => ?_); obtain ⟨rfl, rfl⟩ := hx) | (refine aop_pv (pv_fieldAddrF (by rfl) (by rfl) (by first | decide | (simp; done) | (simp; omega))) ?_) | (refine aop_pv (pv_fieldAddrIF (by rfl) (by rfl) (by first | decide | (simp; done) | (simp; omega))) ?_))) | (refine adx_op (fun K hK => ?_); (first | (refine pv_fieldAddrF (by rfl) (by rfl) (by first | decide | (simp; done) | (simp; omega)) ?_) | (refine pv_fieldAddrIF (by rfl) (by rfl) (by first | decide | (simp; done) | (simp; omega)) ?_))) | (refine And.intro ?_ ?_) | (refine gDx ?_; refine adxS ?_) | (refine gO ?_; refine adoS ?_) | (refine gQ ?_; (first | (refine condT ?_) | (refine condF ?_) | (refine condS (fun hc => ?_) (fun hc => ?_) <;> (try (first | contradiction | (exfalso; omega)))))) | (refine gW ?_; refine wopsS ?_) | (refine gWd ?_; refine wdrS ?_) | (refine aw_block ?_) | (refine gX ?_; refine exitS ?_) | (refine gT ?_; refine retS ?_) | (refine gS ?_; refine skipS ?_) | (apply_assumption (exfalso := false) (symm := false))))
            refine ⟨j + 1, by omega, by omega, ?_⟩
            rw [hjt, upd_eq hvz]
            (simp only [sets, havoc, go_sem, Nat.reduceAdd, Nat.reduceMul, reduceIte, Nat.reduceEqDiff, Nat.reduceLeDiff, Int.reduceBEq, Int.reduceBNe, Int.reduceLT, Int.reduceLE, decide_true, decide_false])
            (exact weakS)
          · rw [List.take_of_length_le (by omega)]
            (repeat' (first | (refine hK _ ?_; clear hK K) | (refine aw_seq (fun K hK => ?_)) | (refine gR ?_; refine regS ?_) | (refine gD 10 ?_; refine drS (.it 0 0 (.it 1 0 (.it 2 0 (.it 3 0 (.it 4 0 (.it 5 0 (.it 6 0 (.it 7 0 (.it 8 0 (.it 9 0 (.it 10 0 (.it 11 0 (.it 12 0 (.it 13 0 (.it 14 0 (.it 15 0 (.it 16 0 (.it 17 0 (.it 18 3 .nil))))))))))))))))))) [0, 1, 2, 3, 4, 5, 6, 7, 8, 9, 10, 11, 12, 13, 14, 15, 16, 17] ?_) | (refine gD 11 ?_; refine drS (.it 0 0 (.it 1 0 (.it 2 0 (.it 3 0 (.it 4 0 (.it 5 0 (.it 6 0 (.it 7 0 (.it 8 0 (.it 9 0 (.it 10 0 (.it 11 0 (.it 12 0 (.it 13 0 (.it 14 0 (.it 15 0 (.it 16 0 (.it 17 0 (.it 18 3 .nil))))))))))))))))))) [0, 1, 2, 3, 4, 5, 6, 7, 8, 9, 10, 11, 12, 13, 14, 15, 16, 17] ?_) | (refine gE ?_; (first | (refine exN ?_) | (refine exS (fun _ => ?_)))) | (refine gC 116 ?_; refine callS (possible_pc _ (by assumption) (by assumption) _ (by assumption)) ?_) | (refine gC 117 ?_; refine callS (spanOf_pc _ _ (by assumption) (by assumption) (by assumption) (by assumption)) ?_) | (refine stk_op (fun K hK => ?_); (first | (refine aop_callO (cloneP_oc 12000 _) (by rfl) (free_one (by first | rfl | (simp [St.free, mentHp, AV.mentL, AV.ment]))) (fun x hp hx => ?_); obtain ⟨rfl, rfl⟩ := hx) | (refine aop_pv (pv_fieldAddrF (by rfl) (by rfl) (by first | decide | (simp; done) | (simp; omega))) ?_) | (refine aop_pv (pv_fieldAddrIF (by rfl) (by rfl) (by first | decide | (simp; done) | (simp; omega))) ?_))) | (refine adx_op (fun K hK => ?_); (first | (refine pv_fieldAddrF (by rfl) (by rfl) (by first | decide | (simp; done) | (simp; omega)) ?_) | (refine pv_fieldAddrIF (by rfl) (by rfl) (by first | decide | (simp; done) | (simp; omega)) ?_))) | (refine And.intro ?_ ?_) | (refine gDx ?_; refine adxS ?_) | (refine gO ?_; refine adoS ?_) | (refine gQ ?_; (first | (refine condT ?_) | (refine condF ?_) | (refine condS (fun hc => ?_) (fun hc => ?_) <;> (try (first | contradiction | (exfalso; omega)))))) | (refine gW ?_; refine wopsS ?_) | (refine gWd ?_; refine wdrS ?_) | (refine aw_block ?_) | (refine gX ?_; refine exitS ?_) | (refine gT ?_; refine retS ?_) | (refine gS ?_; refine skipS ?_) | (apply_assumption (exfalso := false) (symm := false))))
            refine ⟨k + 1, by omega, by omega, ?_⟩
            rw [ht, hu]
            (simp only [sets, havoc, go_sem, Nat.reduceAdd, Nat.reduceMul, reduceIte, Nat.reduceEqDiff, Nat.reduceLeDiff, Int.reduceBEq, Int.reduceBNe, Int.reduceLT, Int.reduceLE, decide_true, decide_false])
            (exact weakS)
    · rw [List.take_of_length_le (by omega)]
      have hlen := foldOp_len v t.ops v
      (repeat' (first | (refine hK _ ?_; clear hK K) | (refine aw_seq (fun K hK => ?_)) | (refine gR ?_; refine regS ?_) | (refine gD 10 ?_; refine drS (.it 0 0 (.it 1 0 (.it 2 0 (.it 3 0 (.it 4 0 (.it 5 0 (.it 6 0 (.it 7 0 (.it 8 0 (.it 9 0 (.it 10 0 (.it 11 0 (.it 12 0 (.it 13 0 (.it 14 0 (.it 15 0 (.it 16 0 (.it 17 0 (.it 18 3 .nil))))))))))))))))))) [0, 1, 2, 3, 4, 5, 6, 7, 8, 9, 10, 11, 12, 13, 14, 15, 16, 17] ?_) | (refine gD 11 ?_; refine drS (.it 0 0 (.it 1 0 (.it 2 0 (.it 3 0 (.it 4 0 (.it 5 0 (.it 6 0 (.it 7 0 (.it 8 0 (.it 9 0 (.it 10 0 (.it 11 0 (.it 12 0 (.it 13 0 (.it 14 0 (.it 15 0 (.it 16 0 (.it 17 0 (.it 18 3 .nil))))))))))))))))))) [0, 1, 2, 3, 4, 5, 6, 7, 8, 9, 10, 11, 12, 13, 14, 15, 16, 17] ?_) | (refine gE ?_; (first | (refine exN ?_) | (refine exS (fun _ => ?_)))) | (refine gC 116 ?_; refine callS (possible_pc _ (by assumption) (by assumption) _ (by assumption)) ?_) | (refine gC 117 ?_; refine callS (spanOf_pc _ _ (by assumption) (by assumption) (by assumption) (by assumption)) ?_) | (refine stk_op (fun K hK => ?_); (first | (refine aop_callO (cloneP_oc 12000 _) (by rfl) (free_one (by first | rfl | (simp [St.free, mentHp, AV.mentL, AV.ment]))) (fun x hp hx => ?_); obtain ⟨rfl, rfl⟩ := hx) | (refine aop_pv (pv_fieldAddrF (by rfl) (by rfl) (by first | decide | (simp; done) | (simp; omega))) ?_) | (refine aop_pv (pv_fieldAddrIF (by rfl) (by rfl) (by first | decide | (simp; done) | (simp; omega))) ?_))) | (refine adx_op (fun K hK => ?_); (first | (refine pv_fieldAddrF (by rfl) (by rfl) (by first | decide | (simp; done) | (simp; omega)) ?_) | (refine pv_fieldAddrIF (by rfl) (by rfl) (by first | decide | (simp; done) | (simp; omega)) ?_))) | (refine And.intro ?_ ?_) | (refine gDx ?_; refine adxS ?_) | (refine gO ?_; refine adoS ?_) | (refine gQ ?_; (first | (refine condT ?_) | (refine condF ?_) | (refine condS (fun hc => ?_) (fun hc => ?_) <;> (try (first | contradiction | (exfalso; omega)))))) | (refine gW ?_; refine wopsS ?_) | (refine gWd ?_; refine wdrS ?_) | (refine aw_block ?_) | (refine gX ?_; refine exitS ?_) | (refine gT ?_; refine retS ?_) | (refine gS ?_; refine skipS ?_) | (apply_assumption (exfalso := false) (symm := false))))
      refine fin_slM (f := pr) (widenOf t v) rfl (by rfl) (by simp only [hget, pr_flat]; rfl) hlen (fun _ => rfl) (fun _ => rfl) (by omega) rfl

theorem sameBounds_pc (a b : List (Int × Int)) : PCall Try.prog 51 [prs a, prs b] (fun r => r = .bool (decide (a = b))) := by
  (refine enterS Try.func51 Try.ntmps51 ?_)
  (refine aw_bound (i := 0) rfl (fun hb => ?_); (try simp only [List.length_map] at hb))
  (refine aw_bound (i := 1) rfl (fun hb1 => ?_); (try simp only [List.length_map] at hb1))
  (repeat' (first | (refine hK _ ?_; clear hK K) | (refine aw_seq (fun K hK => ?_)) | (refine gR ?_; refine regS ?_) | (refine gD 6 ?_; refine drS (.it 0 0 (.it 1 0 (.it 2 0 (.it 3 0 (.it 4 0 (.it 5 0 (.it 6 0 (.it 7 0 (.it 8 0 .nil))))))))) [0, 1, 2, 3, 4, 5, 6, 7, 8] ?_) | (refine gE ?_; (first | (refine exN ?_) | (refine exS (fun _ => ?_)))) | (refine stk_op (fun K hK => ?_); (first | (refine aop_pv (pv_neq (by rfl) (by rfl)) ?_) | (refine aop_pv (pv_neqB (by rfl) (by rfl)) ?_) | (refine aop_pv (pv_neqA (by rfl) (by rfl) (by kernel_rfl)) ?_))) | (refine adx_op (fun K hK => ?_); (first | (refine pv_neq (by rfl) (by rfl) ?_) | (refine pv_neqB (by rfl) (by rfl) ?_) | (refine pv_neqA (by rfl) (by rfl) (by kernel_rfl) ?_))) | (refine And.intro ?_ ?_) | (refine gDx ?_; refine adxS ?_) | (refine gQ ?_; (first | (refine condT ?_) | (refine condF ?_) | (refine condS (fun hc => ?_) (fun hc => ?_) <;> (try (first | contradiction | (exfalso; omega)))))) | (refine gW ?_; refine wopsS ?_) | (refine gWd ?_; refine wdrS ?_) | (refine aw_block ?_) | (refine gX ?_; refine exitS ?_) | (refine gT ?_; refine retS ?_) | (refine gS ?_; refine skipS ?_) | (apply_assumption (exfalso := false) (symm := false))))
  · (refine fin_le (Le.refl _) (rv_one (rv1_tmp (by rfl))) (by first | rfl | (simp only [go_sem, Nat.reduceAdd, Nat.reduceMul, reduceIte, Nat.reduceEqDiff, Nat.reduceLeDiff, Int.reduceBEq, Int.reduceBNe, Int.reduceLT, Int.reduceLE, decide_true, decide_false])) ?_)
    rw [decide_eq_false (by rintro rfl; omega)]
  refine aw_loop_at [4, 5, 11, 12, 13, 14, 15, 16, 17, 18, 19, 20, 21, 22, 23, 24, 25] (fun k : Nat => k ≤ a.length ∧ a.take k = b.take k) (fun k => a.length - k) (fun k => [(5, .int k)]) (fun _ => []) 0 ⟨by omega, by simp⟩ ?_ ?_
  · (simp only [sets, havoc, go_sem, Nat.reduceAdd, Nat.reduceMul, reduceIte, Nat.reduceEqDiff, Nat.reduceLeDiff, Int.reduceBEq, Int.reduceBNe, Int.reduceLT, Int.reduceLE, decide_true, decide_false])
    (exact weakS)
  · rintro k ⟨hk, hn⟩ K hK
    (simp only [sets, havoc, go_sem, Nat.reduceAdd, Nat.reduceMul, reduceIte, Nat.reduceEqDiff, Nat.reduceLeDiff, Int.reduceBEq, Int.reduceBNe, Int.reduceLT, Int.reduceLE, decide_true, decide_false])
    by_cases hlt : k < a.length
    · have hlt2 : k < b.length := by omega
      (repeat' (first | (refine hK _ ?_; clear hK K) | (refine aw_seq (fun K hK => ?_)) | (refine gR ?_; refine regS ?_) | (refine gD 6 ?_; refine drS (.it 0 0 (.it 1 0 (.it 2 0 (.it 3 0 (.it 4 0 (.it 5 0 (.it 6 0 (.it 7 0 (.it 8 0 .nil))))))))) [0, 1, 2, 3, 4, 5, 6, 7, 8] ?_) | (refine gE ?_; (first | (refine exN ?_) | (refine exS (fun _ => ?_)))) | (refine stk_op (fun K hK => ?_); (first | (refine aop_pv (pv_neq (by rfl) (by rfl)) ?_) | (refine aop_pv (pv_neqB (by rfl) (by rfl)) ?_) | (refine aop_pv (pv_neqA (by rfl) (by rfl) (by kernel_rfl)) ?_))) | (refine adx_op (fun K hK => ?_); (first | (refine pv_neq (by rfl) (by rfl) ?_) | (refine pv_neqB (by rfl) (by rfl) ?_) | (refine pv_neqA (by rfl) (by rfl) (by kernel_rfl) ?_))) | (refine And.intro ?_ ?_) | (refine gDx ?_; refine adxS ?_) | (refine gQ ?_; (first | (refine condT ?_) | (refine condF ?_) | (refine condS (fun hc => ?_) (fun hc => ?_) <;> (try (first | contradiction | (exfalso; omega)))))) | (refine gW ?_; refine wopsS ?_) | (refine gWd ?_; refine wdrS ?_) | (refine aw_block ?_) | (refine gX ?_; refine exitS ?_) | (refine gT ?_; refine retS ?_) | (refine gS ?_; refine skipS ?_) | (apply_assumption (exfalso := false) (symm := false))))
      · (refine fin_le (Le.refl _) (rv_one (rv1_tmp (by rfl))) (by first | rfl | (simp only [go_sem, Nat.reduceAdd, Nat.reduceMul, reduceIte, Nat.reduceEqDiff, Nat.reduceLeDiff, Int.reduceBEq, Int.reduceBNe, Int.reduceLT, Int.reduceLE, decide_true, decide_false])) ?_)
        rw [decide_eq_false (by rintro rfl; simp_all)]
      · (refine ⟨k + 1, ⟨by omega, by rw [List.take_succ_eq_append_getElem hlt, List.take_succ_eq_append_getElem hlt2, hn, show a[k] = b[k] from Prod.ext hc.1 hc.2]⟩, by omega, ?_⟩; (simp only [sets, havoc, go_sem, Nat.reduceAdd, Nat.reduceMul, reduceIte, Nat.reduceEqDiff, Nat.reduceLeDiff, Int.reduceBEq, Int.reduceBNe, Int.reduceLT, Int.reduceLE, decide_true, decide_false]); (exact weakS))
    · (repeat' (first | (refine hK _ ?_; clear hK K) | (refine aw_seq (fun K hK => ?_)) | (refine gR ?_; refine regS ?_) | (refine gD 6 ?_; refine drS (.it 0 0 (.it 1 0 (.it 2 0 (.it 3 0 (.it 4 0 (.it 5 0 (.it 6 0 (.it 7 0 (.it 8 0 .nil))))))))) [0, 1, 2, 3, 4, 5, 6, 7, 8] ?_) | (refine gE ?_; (first | (refine exN ?_) | (refine exS (fun _ => ?_)))) | (refine stk_op (fun K hK => ?_); (first | (refine aop_pv (pv_neq (by rfl) (by rfl)) ?_) | (refine aop_pv (pv_neqB (by rfl) (by rfl)) ?_) | (refine aop_pv (pv_neqA (by rfl) (by rfl) (by kernel_rfl)) ?_))) | (refine adx_op (fun K hK => ?_); (first | (refine pv_neq (by rfl) (by rfl) ?_) | (refine pv_neqB (by rfl) (by rfl) ?_) | (refine pv_neqA (by rfl) (by rfl) (by kernel_rfl) ?_))) | (refine And.intro ?_ ?_) | (refine gDx ?_; refine adxS ?_) | (refine gQ ?_; (first | (refine condT ?_) | (refine condF ?_) | (refine condS (fun hc => ?_) (fun hc => ?_) <;> (try (first | contradiction | (exfalso; omega)))))) | (refine gW ?_; refine wopsS ?_) | (refine gWd ?_; refine wdrS ?_) | (refine aw_block ?_) | (refine gX ?_; refine exitS ?_) | (refine gT ?_; refine retS ?_) | (refine gS ?_; refine skipS ?_) | (apply_assumption (exfalso := false) (symm := false))))
      (refine fin_le (Le.refl _) (rv_one (rv1_tmp (by rfl))) (by first | rfl | (simp only [go_sem, Nat.reduceAdd, Nat.reduceMul, reduceIte, Nat.reduceEqDiff, Nat.reduceLeDiff, Int.reduceBEq, Int.reduceBNe, Int.reduceLT, Int.reduceLE, decide_true, decide_false])) ?_)
      rw [List.take_of_length_le (by omega), List.take_of_length_le (by omega)] at hn
      rw [decide_eq_true hn]

end Go.Proofs.Ytjefjhcaicohjaa
