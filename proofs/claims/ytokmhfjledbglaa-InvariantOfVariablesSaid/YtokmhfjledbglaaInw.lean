import Derived.Test.YtokmhfjledbglaaInv



namespace Go.Proofs.Ytokmhfjledbglaa
open Go.Ab
open Go
set_option linter.unusedSimpArgs false
set_option linter.unusedVariables false
set_option maxRecDepth 10000
attribute [local irreducible] PV AOp AOps AW PCall OCall MCall WCall Ab.Fin OFin OFin2 MFin RV RV1 Le AStk AGrd ADr ADx ADo AOpX AAny
set_option maxHeartbeats 4000000
/-! groups of a task -/
theorem indexFuncO_pc (xs : List Op) (f : FuncId) [TyC Try.prog f] (caps : List AV) (hcap : AV.purL caps = true) (p : Op → Bool) (h : Answers f caps Op.av p xs) : PCall Try.prog 60 [opsA xs, .fn f caps] (fun r => r = .int (idxF p xs)) := by
  (refine enterS Try.func60 Try.ntmps60 ?_)
  (refine aw_bound (i := 0) rfl (fun hb => ?_); (try simp only [List.length_map] at hb))
  (repeat' (first | (refine hK _ ?_; clear hK K) | (refine aw_seq (fun K hK => ?_)) | (refine gR ?_; refine regS ?_) | (refine gE ?_; (first | (refine exN ?_) | (refine exS (fun _ => ?_)))) | (refine gQ ?_; (first | (refine condT ?_) | (refine condF ?_) | (refine condS (fun hc => ?_) (fun hc => ?_) <;> (try (first | contradiction | (exfalso; omega)))))) | (refine gW ?_; refine wopsS ?_) | (refine aw_block ?_) | (refine gX ?_; refine exitS ?_) | (refine gT ?_; refine retS ?_) | (refine gS ?_; refine skipS ?_) | (apply_assumption (exfalso := false) (symm := false))))
  refine aw_loop_at [4, 5, 8, 9, 10, 11, 12, 13, 14, 15, 16, 17, 18] (fun k : Nat => k ≤ xs.length ∧ ∀ i (hi : i < xs.length), i < k → p xs[i] = false) (fun k => xs.length - k) (fun k => [(8, .int k)]) (fun _ => []) 0 ⟨by omega, by omega⟩ ?_ ?_
  · (refine atS ?_)
    (exact weakS)
  · rintro k ⟨hk, hn⟩ K hK
    (refine atS ?_)
    by_cases hlt : k < xs.length
    · cases hp : p xs[k]
      · (repeat' (first | (refine hK _ ?_; clear hK K) | (refine aw_seq (fun K hK => ?_)) | (refine gR ?_; refine regS ?_) | (refine stk_op (fun K hK => ?_); refine aop_callV (by rfl) (h xs[k] (List.getElem_mem hlt)) (by simp [evalL, St.eval, AV.purL, AV.pur, hcap]) (fun x hx => ?_); rw [hp] at hx; subst hx) | (refine gE ?_; (first | (refine exN ?_) | (refine exS (fun _ => ?_)))) | (refine gQ ?_; (first | (refine condT ?_) | (refine condF ?_) | (refine condS (fun hc => ?_) (fun hc => ?_) <;> (try (first | contradiction | (exfalso; omega)))))) | (refine gW ?_; refine wopsS ?_) | (refine aw_block ?_) | (refine gX ?_; refine exitS ?_) | (refine gT ?_; refine retS ?_) | (refine gS ?_; refine skipS ?_) | (apply_assumption (exfalso := false) (symm := false))))
        refine ⟨k + 1, ⟨by omega, fun i hi hik => ?_⟩, by omega, ?_⟩
        · rcases Nat.lt_or_ge i k with h' | h'
          · exact hn i hi h'
          · obtain rfl : i = k := by omega
            exact hp
        · (refine atS ?_)
          (exact weakS)
      · (repeat' (first | (refine hK _ ?_; clear hK K) | (refine aw_seq (fun K hK => ?_)) | (refine gR ?_; refine regS ?_) | (refine stk_op (fun K hK => ?_); refine aop_callV (by rfl) (h xs[k] (List.getElem_mem hlt)) (by simp [evalL, St.eval, AV.purL, AV.pur, hcap]) (fun x hx => ?_); rw [hp] at hx; subst hx) | (refine gE ?_; (first | (refine exN ?_) | (refine exS (fun _ => ?_)))) | (refine gQ ?_; (first | (refine condT ?_) | (refine condF ?_) | (refine condS (fun hc => ?_) (fun hc => ?_) <;> (try (first | contradiction | (exfalso; omega)))))) | (refine gW ?_; refine wopsS ?_) | (refine aw_block ?_) | (refine gX ?_; refine exitS ?_) | (refine gT ?_; refine retS ?_) | (refine gS ?_; refine skipS ?_) | (apply_assumption (exfalso := false) (symm := false))))
        (refine fin_le (Le.refl _) (rv_one (rv1_tmp (by rfl))) (by first | rfl | (simp only [go_sem, Nat.reduceAdd, Nat.reduceMul, reduceIte, Nat.reduceEqDiff, Nat.reduceLeDiff, Int.reduceToNat, Int.reducePow, Int.reduceBEq, Int.reduceBNe, Int.reduceLT, Int.reduceLE, decide_true, decide_false])) ?_)
        rw [idxF_hit hlt hp hn]
    · (repeat' (first | (refine hK _ ?_; clear hK K) | (refine aw_seq (fun K hK => ?_)) | (refine gR ?_; refine regS ?_) | (refine gE ?_; (first | (refine exN ?_) | (refine exS (fun _ => ?_)))) | (refine gQ ?_; (first | (refine condT ?_) | (refine condF ?_) | (refine condS (fun hc => ?_) (fun hc => ?_) <;> (try (first | contradiction | (exfalso; omega)))))) | (refine gW ?_; refine wopsS ?_) | (refine aw_block ?_) | (refine gX ?_; refine exitS ?_) | (refine gT ?_; refine retS ?_) | (refine gS ?_; refine skipS ?_) | (apply_assumption (exfalso := false) (symm := false))))
      (refine fin_le (Le.refl _) (rv_one (rv1_tmp (by rfl))) (by first | rfl | (simp only [go_sem, Nat.reduceAdd, Nat.reduceMul, reduceIte, Nat.reduceEqDiff, Nat.reduceLeDiff, Int.reduceToNat, Int.reducePow, Int.reduceBEq, Int.reduceBNe, Int.reduceLT, Int.reduceLE, decide_true, decide_false])) ?_)
      rw [idxF_none fun i hi => hn i hi (by omega)]
theorem containsFuncO_pc (xs : List Op) (f : FuncId) [TyC Try.prog f] (caps : List AV) (hcap : AV.purL caps = true) (p : Op → Bool) (h : Answers f caps Op.av p xs) : PCall Try.prog 44 [opsA xs, .fn f caps] (fun r => r = .bool (xs.any p)) := by
  (refine enterS Try.func44 Try.ntmps44 ?_)
  (repeat' (first | (refine hK _ ?_; clear hK K) | (refine aw_seq (fun K hK => ?_)) | (refine gR ?_; refine regS ?_) | (refine stk_op (fun K hK => ?_); refine aop_call (indexFuncO_pc xs f caps hcap p h) (by simp [evalL, St.eval, AV.purL, AV.pur, hcap]) (fun x hx => ?_); subst hx) | (refine gE ?_; (first | (refine exN ?_) | (refine exS (fun _ => ?_)))) | (refine gQ ?_; (first | (refine condT ?_) | (refine condF ?_) | (refine condS (fun hc => ?_) (fun hc => ?_) <;> (try (first | contradiction | (exfalso; omega)))))) | (refine gW ?_; refine wopsS ?_) | (refine aw_block ?_) | (refine gX ?_; refine exitS ?_) | (refine gT ?_; refine retS ?_) | (refine gS ?_; refine skipS ?_) | (apply_assumption (exfalso := false) (symm := false))))
  (refine fin_le (Le.refl _) (rv_one (rv1_tmp (by rfl))) (by first | rfl | (simp only [go_sem, Nat.reduceAdd, Nat.reduceMul, reduceIte, Nat.reduceEqDiff, Nat.reduceLeDiff, Int.reduceToNat, Int.reducePow, Int.reduceBEq, Int.reduceBNe, Int.reduceLT, Int.reduceLE, decide_true, decide_false])) ?_)
  rw [idxF_any]
theorem keepsF_pc (g : List Int) (n : Int) (h0 : 0 ≤ n) (h24 : n ≤ 24) (hg : isSet g n = true) (l : List Op) (hl : ∀ o ∈ l, opOk o n = true) : Answers 45 [.iptr [ints g]] Op.av (fun o => !keepsB o g) l := by
  intro o ho
  
  (refine enterS Try.func45 Try.ntmps45 ?_)
  (repeat' (first | (refine hK _ ?_; clear hK K) | (refine aw_seq (fun K hK => ?_)) | (refine gR ?_; refine regS ?_) | (refine gC 46 ?_; refine callS (keeps_pc o g n h0 h24 (hl o ho) hg) ?_) | (refine gE ?_; (first | (refine exN ?_) | (refine exS (fun _ => ?_)))) | (refine gQ ?_; (first | (refine condT ?_) | (refine condF ?_) | (refine condS (fun hc => ?_) (fun hc => ?_) <;> (try (first | contradiction | (exfalso; omega)))))) | (refine gW ?_; refine wopsS ?_) | (refine aw_block ?_) | (refine gX ?_; refine exitS ?_) | (refine gT ?_; refine retS ?_) | (refine gS ?_; refine skipS ?_) | (apply_assumption (exfalso := false) (symm := false))))
  (refine fin_le (Le.refl _) (rv_one (rv1_tmp (by rfl))) (by first | rfl | (simp only [go_sem, Nat.reduceAdd, Nat.reduceMul, reduceIte, Nat.reduceEqDiff, Nat.reduceLeDiff, Int.reduceToNat, Int.reducePow, Int.reduceBEq, Int.reduceBNe, Int.reduceLT, Int.reduceLE, decide_true, decide_false])) ?_)
  rfl

def holdsB (t : Task) (g : List Int) : Bool := decide ((capB t.init g).length ≤ 1) && !t.ops.any fun o => !keepsB o g
theorem holds_pc (t : Task) (g : List Int) (hw : WfT t) (hg : isSet g t.facts = true) : PCall Try.prog 26 [t.av, ints g] (fun r => r = .bool (holdsB t g)) := by
  have h40 := hw.n40
  have hl1 := set_len hw.init hw.f0 hw.f1
  
  
  (refine enterS Try.func26 Try.ntmps26 ?_)
  (repeat' (first | (refine hK _ ?_; clear hK K) | (refine aw_seq (fun K hK => ?_)) | (refine gR ?_; refine regS ?_) | (refine gC 43 ?_; refine callS (common_pc t.init g (isSet_iff.1 hg).2 hl1) ?_) | (refine gC 44 ?_; refine callS (containsFuncO_pc t.ops 45 [.iptr [ints g]] rfl _ (keepsF_pc g t.facts hw.f0 hw.f1 hg _ fun o ho => (hw.ops o ho).1)) ?_) | (refine stk_op (fun K hK => ?_); (first | (refine aop_pv (pv_fieldAddrF (by rfl) (by rfl) (by first | decide | (simp; done) | (simp; omega))) ?_) | (refine aop_pv (pv_fieldAddrIF (by rfl) (by rfl) (by first | decide | (simp; done) | (simp; omega))) ?_) | (refine aop_le (le_sealPtr 3 rfl rfl rfl) ?_; simp only [go_sem, Nat.reduceAdd, Nat.reduceMul, reduceIte, Nat.reduceEqDiff, Nat.reduceLeDiff, Int.reduceToNat, Int.reducePow, Int.reduceBEq, Int.reduceBNe, Int.reduceLT, Int.reduceLE, decide_true, decide_false]; refine aop_pv pv_makeFunc ?_))) | (refine gE ?_; (first | (refine exN ?_) | (refine exS (fun _ => ?_)))) | (refine gG ?_; refine guardS (fun hc => ?_) (fun hc => ?_) <;> (try (first | contradiction | (exfalso; omega)))) | (refine gQ ?_; (first | (refine condT ?_) | (refine condF ?_) | (refine condS (fun hc => ?_) (fun hc => ?_) <;> (try (first | contradiction | (exfalso; omega)))))) | (refine gW ?_; refine wopsS ?_) | (refine aw_block ?_) | (refine gX ?_; refine exitS ?_) | (refine gT ?_; refine retS ?_) | (refine gS ?_; refine skipS ?_) | (apply_assumption (exfalso := false) (symm := false))))
  all_goals (refine fin_le (Le.refl _) (rv_one (rv1_tmp (by rfl))) (by first | rfl | (simp only [go_sem, Nat.reduceAdd, Nat.reduceMul, reduceIte, Nat.reduceEqDiff, Nat.reduceLeDiff, Int.reduceToNat, Int.reducePow, Int.reduceBEq, Int.reduceBNe, Int.reduceLT, Int.reduceLE, decide_true, decide_false])) ?_)
  all_goals (unfold holdsB; simp_all <;> omega)

/-! the reference's groups -/
def cntIn (a b : List Int) : Int := (capB a b).length
theorem countIn_pc (a b : List Int) : PCall Try.prog 21 [ints a, ints b] (fun r => r = .int (cntIn a b)) := by
  (refine enterS Try.func21 Try.ntmps21 ?_)
  (refine aw_bound (i := 0) rfl (fun hb => ?_); (try simp only [List.length_map] at hb))
  (repeat' (first | (refine hK _ ?_; clear hK K) | (refine aw_seq (fun K hK => ?_)) | (refine gR ?_; refine regS ?_) | (refine gC 17 ?_; refine callS (has_pc _ _) ?_) | (refine gE ?_; (first | (refine exN ?_) | (refine exS (fun _ => ?_)))) | (refine gQ ?_; (first | (refine condT ?_) | (refine condF ?_) | (refine condS (fun hc => ?_) (fun hc => ?_) <;> (try (first | contradiction | (exfalso; omega)))))) | (refine gW ?_; refine wopsS ?_) | (refine aw_block ?_) | (refine gX ?_; refine exitS ?_) | (refine gT ?_; refine retS ?_) | (refine gS ?_; refine skipS ?_) | (apply_assumption (exfalso := false) (symm := false))))
  refine aw_loop_at [5, 6, 7, 8, 9, 10, 11, 12, 13, 14, 15, 16, 17, 18, 19, 20] (fun k : Nat => k ≤ a.length) (fun k => a.length - k) (fun k => [(6, .int k), (5, .int (cntIn (a.take k) b))]) (fun _ => []) 0 (by omega) ?_ ?_
  · (refine atS ?_)
    (exact weakS)
  · rintro k hk K hK
    (refine atS ?_)
    have hrl := capB_len (a := a) (b := b) (k := k)
    have hc0 : cntIn (a.take k) b = (capB (a.take k) b).length := rfl
    by_cases hlt : k < a.length
    · (repeat' (first | (refine hK _ ?_; clear hK K) | (refine aw_seq (fun K hK => ?_)) | (refine gR ?_; refine regS ?_) | (refine gC 17 ?_; refine callS (has_pc _ _) ?_) | (refine gE ?_; (first | (refine exN ?_) | (refine exS (fun _ => ?_)))) | (refine gQ ?_; (first | (refine condT ?_) | (refine condF ?_) | (refine condS (fun hc => ?_) (fun hc => ?_) <;> (try (first | contradiction | (exfalso; omega)))))) | (refine gW ?_; refine wopsS ?_) | (refine aw_block ?_) | (refine gX ?_; refine exitS ?_) | (refine gT ?_; refine retS ?_) | (refine gS ?_; refine skipS ?_) | (apply_assumption (exfalso := false) (symm := false))))
      · refine ⟨k + 1, by omega, by omega, ?_⟩
        have e : cntIn (a.take (k + 1)) b = cntIn (a.take k) b + 1 := by unfold cntIn; rw [capB_yes hlt (by assumption)]; simp
        rw [e]
        (refine atS ?_)
        (exact weakS)
      · refine ⟨k + 1, by omega, by omega, ?_⟩
        have e : cntIn (a.take (k + 1)) b = cntIn (a.take k) b := by unfold cntIn; rw [capB_no hlt (by assumption)]
        rw [e]
        (refine atS ?_)
        (exact weakS)
    · obtain rfl : k = a.length := by omega
      rw [List.take_length]
      (repeat' (first | (refine hK _ ?_; clear hK K) | (refine aw_seq (fun K hK => ?_)) | (refine gR ?_; refine regS ?_) | (refine gC 17 ?_; refine callS (has_pc _ _) ?_) | (refine gE ?_; (first | (refine exN ?_) | (refine exS (fun _ => ?_)))) | (refine gQ ?_; (first | (refine condT ?_) | (refine condF ?_) | (refine condS (fun hc => ?_) (fun hc => ?_) <;> (try (first | contradiction | (exfalso; omega)))))) | (refine gW ?_; refine wopsS ?_) | (refine aw_block ?_) | (refine gX ?_; refine exitS ?_) | (refine gT ?_; refine retS ?_) | (refine gS ?_; refine skipS ?_) | (apply_assumption (exfalso := false) (symm := false))))
      (refine fin_le (Le.refl _) (rv_one (rv1_tmp (by rfl))) (by first | rfl | (simp only [go_sem, Nat.reduceAdd, Nat.reduceMul, reduceIte, Nat.reduceEqDiff, Nat.reduceLeDiff, Int.reduceToNat, Int.reducePow, Int.reduceBEq, Int.reduceBNe, Int.reduceLT, Int.reduceLE, decide_true, decide_false])) ?_)
      rfl

/-- The facts of the group that are true before: none, or one. -/
def oneS (g : List Int) (i : Int) : List Int := if i < 0 then [] else [g[i.toNat]!]
/-- The precondition's facts within the group are true. -/
def canL (pre g s : List Int) : Bool := pre.all fun x => !hasB g x || hasB s x
def presN (o : Op) (g : List Int) (i : Int) : Int := cntIn o.add g + if 0 ≤ i ∧ hasB o.add g[i.toNat]! = false ∧ hasB o.del g[i.toNat]! = false then 1 else 0
def presAt (o : Op) (g : List Int) (i : Int) : Bool := !(canL o.pre g (oneS g i) && decide (1 < presN o g i))
def presB (o : Op) (g : List Int) : Bool := presAt o g (-1) && decide (∀ i, i < g.length → presAt o g (i : Int) = true)
theorem canL_step {pre g s : List Int} {k : Nat} (hk : k < pre.length) : canL (pre.take (k + 1)) g s = (canL (pre.take k) g s && (!hasB g pre[k] || hasB s pre[k])) := by
  unfold canL; rw [List.take_succ_eq_append_getElem hk, List.all_append]; simp
@[local go_sem] theorem hasB_nil (x : Int) : hasB [] x = false := rfl
theorem pres_no {o : Op} {g : List Int} {i : Int} (h1 : -1 ≤ i) (h2 : i < g.length) (h : presAt o g i = false) : presB o g = false := by
  unfold presB
  rw [Bool.and_eq_false_iff]
  by_cases h0 : 0 ≤ i
  · right
    rw [decide_eq_false_iff_not]
    intro hh
    have := hh i.toNat (by omega)
    rw [show ((i.toNat : Nat) : Int) = i by omega, h] at this
    cases this
  · left
    rw [show i = -1 by omega] at h
    exact h
theorem pres_next {o : Op} {g : List Int} {i : Int} (h1 : -1 ≤ i) (h2 : i < g.length) (hn : 0 ≤ i → presAt o g (-1) = true) (hnj : ∀ j : Nat, (j : Int) < i → presAt o g (j : Int) = true) (h : presAt o g i = true) :
    -1 ≤ i + 1 ∧ i + 1 ≤ g.length ∧ (0 ≤ i + 1 → presAt o g (-1) = true) ∧ ∀ j : Nat, (j : Int) < i + 1 → presAt o g (j : Int) = true := by
  refine ⟨by omega, by omega, fun _ => ?_, fun j hj => ?_⟩
  · by_cases h0 : 0 ≤ i
    · exact hn h0
    · rw [show i = -1 by omega] at h; exact h
  · by_cases hji : (j : Int) < i
    · exact hnj j hji
    · rw [show (j : Int) = i by omega]; exact h
theorem pres_yes {o : Op} {g : List Int} {i : Int} (h1 : -1 ≤ i) (h2 : ¬ i < g.length) (hn : 0 ≤ i → presAt o g (-1) = true) (hnj : ∀ j : Nat, (j : Int) < i → presAt o g (j : Int) = true) : presB o g = true := by
  unfold presB
  rw [hn (by omega), Bool.true_and, decide_eq_true_eq]
  exact fun j hj => hnj j (by omega)
theorem preserved_pc (o : Op) (g : List Int) (hg : g.length ≤ 1000) (ha : o.add.length ≤ 1000) : PCall Try.prog 28 [o.av, ints g] (fun r => r = .bool (presB o g)) := by
  (refine enterS Try.func28 Try.ntmps28 ?_)
  (refine aw_reach (i := 0) rfl (fun hR => ?_))
  have hb := hR 1 8 (o.pre.map AV.int) (.agg (c := ints o.pre) (by simp) .refl)
  rw [List.length_map] at hb
  clear hR
  (repeat' (first | (refine hK _ ?_; clear hK K) | (refine aw_seq (fun K hK => ?_)) | (refine gR ?_; refine regS ?_) | (refine gD 14 ?_; refine drS (.it 0 0 (.it 1 0 (.it 2 0 (.it 3 0 (.it 4 0 (.it 5 0 (.it 6 0 (.it 7 0 (.it 8 0 (.it 9 2 (.it 10 0 (.it 11 0 (.it 12 0 (.it 13 0 (.it 14 0 (.it 15 0 (.it 16 0 (.it 17 0 (.it 18 0 (.it 19 2 (.it 20 0 (.it 21 0 .nil)))))))))))))))))))))) [0, 1, 2, 3, 4, 5, 6, 7, 8, 9, 10, 11, 12, 13, 14, 15, 16, 17, 18, 19, 20, 21] ?_) | (refine gC 17 ?_; refine callS (has_pc _ _) ?_) | (refine gC 21 ?_; refine callS (countIn_pc _ _) ?_) | (refine gCd 17 ?_; refine callD (has_pc _ _) ?_) | (refine stk_op (fun K hK => ?_); (first | (refine aop_pv (pv_fieldAddrF (by rfl) (by rfl) (by first | decide | (simp; done) | (simp; omega))) ?_) | (refine aop_pv (pv_fieldAddrIF (by rfl) (by rfl) (by first | decide | (simp; done) | (simp; omega))) ?_))) | (refine adx_op (fun K hK => ?_); (first | (refine aopx_pv (pv_fieldAddrF (by rfl) (by rfl) (by first | decide | (simp; done) | (simp; omega))) ?_) | (refine aopx_pv (pv_fieldAddrIF (by rfl) (by rfl) (by first | decide | (simp; done) | (simp; omega))) ?_))) | (refine And.intro ?_ ?_) | (refine gDx ?_; refine adxS ?_) | (refine gE ?_; (first | (refine exN ?_) | (refine exS (fun _ => ?_)))) | (refine gG ?_; refine guardS (fun hc => ?_) (fun hc => ?_) <;> (try (first | contradiction | (exfalso; omega)))) | (refine gGd ?_; refine guardD (fun hc => ?_) (fun hc => ?_) <;> (try (first | contradiction | (exfalso; omega)))) | (refine gQ ?_; (first | (refine condT ?_) | (refine condF ?_) | (refine condS (fun hc => ?_) (fun hc => ?_) <;> (try (first | contradiction | (exfalso; omega)))))) | (refine gWd ?_; refine wdrS ?_) | (refine gW ?_; refine wopsS ?_) | (refine aw_block ?_) | (refine gX ?_; refine exitS ?_) | (refine gT ?_; refine retS ?_) | (refine gS ?_; refine skipS ?_) | (apply_assumption (exfalso := false) (symm := false))))
  refine aw_loop_at [4, 5, 6, 7, 8, 9, 10, 11, 12, 13, 14, 15, 16, 17, 18, 19, 20, 21, 22, 23, 24, 25, 26, 27, 28, 29, 30, 31, 32, 33, 34, 35, 36, 37, 38, 39, 40, 41, 42, 43, 44, 45, 46, 47, 48, 49, 50, 51, 52, 53, 54, 55, 56, 57, 58, 59, 60, 61, 62, 63, 64, 65, 66, 67, 68, 69, 70, 71, 72, 73, 74, 75, 76, 77, 78, 79] (fun i : Int => -1 ≤ i ∧ i ≤ g.length ∧ (0 ≤ i → presAt o g (-1) = true) ∧ ∀ j : Nat, (j : Int) < i → presAt o g (j : Int) = true) (fun i => (g.length - i).toNat) (fun i => [(5, .int i)]) (fun _ => [(2, ⟨55, opc o, true⟩)]) (-1) ⟨by omega, by omega, by omega, by omega⟩ ?_ ?_
  · (refine atS ?_)
    (exact weakS)
  · rintro i ⟨hi1, hi2, hn, hnj⟩ K hK
    (refine atS ?_)
    by_cases hlt : i < g.length
    · have hcn : 0 ≤ cntIn o.add g ∧ cntIn o.add g ≤ 1000 := by have := capB_le (a := o.add) (b := g); unfold cntIn; omega
      
      
      (repeat' (first | (refine hK _ ?_; clear hK K) | (refine aw_seq (fun K hK => ?_)) | (refine gRx 9 (by rfl) ?_; refine regS ?_) | (refine gD 14 ?_; refine drS (.it 0 0 (.it 1 0 (.it 2 0 (.it 3 0 (.it 4 0 (.it 5 0 (.it 6 0 (.it 7 0 (.it 8 0 (.it 9 2 (.it 10 0 (.it 11 0 (.it 12 0 (.it 13 0 (.it 14 0 (.it 15 0 (.it 16 0 (.it 17 0 (.it 18 0 (.it 19 2 (.it 20 0 (.it 21 0 .nil)))))))))))))))))))))) [0, 1, 2, 3, 4, 5, 6, 7, 8, 9, 10, 11, 12, 13, 14, 15, 16, 17, 18, 19, 20, 21] ?_) | (refine gC 17 ?_; refine callS (has_pc _ _) ?_) | (refine gC 17 ?_; refine callS (has_pc [g[i.toNat]] _) ?_) | (refine gC 17 ?_; refine callS (has_pc [] _) ?_) | (refine gC 21 ?_; refine callS (countIn_pc _ _) ?_) | (refine gCd 17 ?_; refine callD (has_pc _ _) ?_) | (refine gCd 17 ?_; refine callD (has_pc [g[i.toNat]] _) ?_) | (refine gCd 17 ?_; refine callD (has_pc [] _) ?_) | (refine stk_op (fun K hK => ?_); (first | (refine aop_pv (pv_fieldAddrF (by rfl) (by rfl) (by first | decide | (simp; done) | (simp; omega))) ?_) | (refine aop_pv (pv_fieldAddrIF (by rfl) (by rfl) (by first | decide | (simp; done) | (simp; omega))) ?_))) | (refine adx_op (fun K hK => ?_); (first | (refine aopx_pv (pv_fieldAddrF (by rfl) (by rfl) (by first | decide | (simp; done) | (simp; omega))) ?_) | (refine aopx_pv (pv_fieldAddrIF (by rfl) (by rfl) (by first | decide | (simp; done) | (simp; omega))) ?_))) | (refine And.intro ?_ ?_) | (refine gDx ?_; refine adxS ?_) | (refine gE ?_; (first | (refine exN ?_) | (refine exS (fun _ => ?_)))) | (refine gG ?_; refine guardS (fun hc => ?_) (fun hc => ?_) <;> (try (first | contradiction | (exfalso; omega)))) | (refine gGd ?_; refine guardD (fun hc => ?_) (fun hc => ?_) <;> (try (first | contradiction | (exfalso; omega)))) | (refine gQ ?_; (first | (refine condT ?_) | (refine condF ?_) | (refine condS (fun hc => ?_) (fun hc => ?_) <;> (try (first | contradiction | (exfalso; omega)))))) | (refine gWd ?_; refine wdrS ?_) | (refine gW ?_; refine wopsS ?_) | (refine aw_block ?_) | (refine gX ?_; refine exitS ?_) | (refine gT ?_; refine retS ?_) | (refine gS ?_; refine skipS ?_) | (apply_assumption (exfalso := false) (symm := false))))
      · have hgt : g[i.toNat]! = g[i.toNat] := getBang (by omega)
        refine aw_loop_at [7, 8, 23, 24, 25, 26, 27, 28, 29, 30, 31, 32, 33, 34, 35, 36, 37, 38, 39, 40, 41, 42, 43, 44, 45, 46] (fun k : Nat => k ≤ o.pre.length) (fun k => o.pre.length - k) (fun k => [(8, .int k), (7, .bool (canL (o.pre.take k) g [g[i.toNat]]))]) (fun _ => [(2, ⟨55, opc o, true⟩)]) 0 (by omega) ?_ ?_
        · (refine atS ?_)
          (exact weakS)
        · rintro k hk K hK
          (refine atS ?_)
          by_cases hkt : k < o.pre.length
          · have hst := canL_step (g := g) (s := [g[i.toNat]]) hkt
            (repeat' (first | (refine hK _ ?_; clear hK K) | (refine aw_seq (fun K hK => ?_)) | (refine gR ?_; refine regS ?_) | (refine gD 14 ?_; refine drS (.it 0 0 (.it 1 0 (.it 2 0 (.it 3 0 (.it 4 0 (.it 5 0 (.it 6 0 (.it 7 0 (.it 8 0 (.it 9 2 (.it 10 0 (.it 11 0 (.it 12 0 (.it 13 0 (.it 14 0 (.it 15 0 (.it 16 0 (.it 17 0 (.it 18 0 (.it 19 2 (.it 20 0 (.it 21 0 .nil)))))))))))))))))))))) [0, 1, 2, 3, 4, 5, 6, 7, 8, 9, 10, 11, 12, 13, 14, 15, 16, 17, 18, 19, 20, 21] ?_) | (refine gC 17 ?_; refine callS (has_pc _ _) ?_) | (refine gC 17 ?_; refine callS (has_pc [g[i.toNat]] _) ?_) | (refine gC 17 ?_; refine callS (has_pc [] _) ?_) | (refine gC 21 ?_; refine callS (countIn_pc _ _) ?_) | (refine gCd 17 ?_; refine callD (has_pc _ _) ?_) | (refine gCd 17 ?_; refine callD (has_pc [g[i.toNat]] _) ?_) | (refine gCd 17 ?_; refine callD (has_pc [] _) ?_) | (refine stk_op (fun K hK => ?_); (first | (refine aop_pv (pv_fieldAddrF (by rfl) (by rfl) (by first | decide | (simp; done) | (simp; omega))) ?_) | (refine aop_pv (pv_fieldAddrIF (by rfl) (by rfl) (by first | decide | (simp; done) | (simp; omega))) ?_))) | (refine adx_op (fun K hK => ?_); (first | (refine aopx_pv (pv_fieldAddrF (by rfl) (by rfl) (by first | decide | (simp; done) | (simp; omega))) ?_) | (refine aopx_pv (pv_fieldAddrIF (by rfl) (by rfl) (by first | decide | (simp; done) | (simp; omega))) ?_))) | (refine And.intro ?_ ?_) | (refine gDx ?_; refine adxS ?_) | (refine gE ?_; (first | (refine exN ?_) | (refine exS (fun _ => ?_)))) | (refine gG ?_; refine guardS (fun hc => ?_) (fun hc => ?_) <;> (try (first | contradiction | (exfalso; omega)))) | (refine gGd ?_; refine guardD (fun hc => ?_) (fun hc => ?_) <;> (try (first | contradiction | (exfalso; omega)))) | (refine gQ ?_; (first | (refine condT ?_) | (refine condF ?_) | (refine condS (fun hc => ?_) (fun hc => ?_) <;> (try (first | contradiction | (exfalso; omega)))))) | (refine gWd ?_; refine wdrS ?_) | (refine gW ?_; refine wopsS ?_) | (refine aw_block ?_) | (refine gX ?_; refine exitS ?_) | (refine gT ?_; refine retS ?_) | (refine gS ?_; refine skipS ?_) | (apply_assumption (exfalso := false) (symm := false))))
            all_goals (refine ⟨k + 1, by omega, by omega, ?_⟩; rw [hst]; simp only [*, Bool.not_true, Bool.not_false, Bool.false_or, Bool.true_or, Bool.and_true, Bool.and_false]; (refine atS ?_); (exact weakS))
          · obtain rfl : k = o.pre.length := by omega
            rw [List.take_length]
            have hone : oneS g i = [g[i.toNat]] := by rw [oneS, if_neg (by omega), hgt]
            have hpa : presAt o g i = !(canL o.pre g [g[i.toNat]] && decide (1 < presN o g i)) := by rw [← hone]; rfl
            have hpn : presN o g i = cntIn o.add g + if 0 ≤ i ∧ hasB o.add g[i.toNat]! = false ∧ hasB o.del g[i.toNat]! = false then 1 else 0 := rfl
            rw [hgt] at hpn
            generalize canL o.pre g [g[i.toNat]] = can at *
            (repeat' (first | (refine hK _ ?_; clear hK K) | (refine aw_seq (fun K hK => ?_)) | (refine gR ?_; refine regS ?_) | (refine gD 14 ?_; refine drS (.it 0 0 (.it 1 0 (.it 2 0 (.it 3 0 (.it 4 0 (.it 5 0 (.it 6 0 (.it 7 0 (.it 8 0 (.it 9 2 (.it 10 0 (.it 11 0 (.it 12 0 (.it 13 0 (.it 14 0 (.it 15 0 (.it 16 0 (.it 17 0 (.it 18 0 (.it 19 2 (.it 20 0 (.it 21 0 .nil)))))))))))))))))))))) [0, 1, 2, 3, 4, 5, 6, 7, 8, 9, 10, 11, 12, 13, 14, 15, 16, 17, 18, 19, 20, 21] ?_) | (refine gC 17 ?_; refine callS (has_pc _ _) ?_) | (refine gC 17 ?_; refine callS (has_pc [g[i.toNat]] _) ?_) | (refine gC 17 ?_; refine callS (has_pc [] _) ?_) | (refine gC 21 ?_; refine callS (countIn_pc _ _) ?_) | (refine gCd 17 ?_; refine callD (has_pc _ _) ?_) | (refine gCd 17 ?_; refine callD (has_pc [g[i.toNat]] _) ?_) | (refine gCd 17 ?_; refine callD (has_pc [] _) ?_) | (refine stk_op (fun K hK => ?_); (first | (refine aop_pv (pv_fieldAddrF (by rfl) (by rfl) (by first | decide | (simp; done) | (simp; omega))) ?_) | (refine aop_pv (pv_fieldAddrIF (by rfl) (by rfl) (by first | decide | (simp; done) | (simp; omega))) ?_))) | (refine adx_op (fun K hK => ?_); (first | (refine aopx_pv (pv_fieldAddrF (by rfl) (by rfl) (by first | decide | (simp; done) | (simp; omega))) ?_) | (refine aopx_pv (pv_fieldAddrIF (by rfl) (by rfl) (by first | decide | (simp; done) | (simp; omega))) ?_))) | (refine And.intro ?_ ?_) | (refine gDx ?_; refine adxS ?_) | (refine gE ?_; (first | (refine exN ?_) | (refine exS (fun _ => ?_)))) | (refine gG ?_; refine guardS (fun hc => ?_) (fun hc => ?_) <;> (try (first | contradiction | (exfalso; omega)))) | (refine gGd ?_; refine guardD (fun hc => ?_) (fun hc => ?_) <;> (try (first | contradiction | (exfalso; omega)))) | (refine gQ ?_; (first | (refine condT ?_) | (refine condF ?_) | (refine condS (fun hc => ?_) (fun hc => ?_) <;> (try (first | contradiction | (exfalso; omega)))))) | (refine gWd ?_; refine wdrS ?_) | (refine gW ?_; refine wopsS ?_) | (refine aw_block ?_) | (refine gX ?_; refine exitS ?_) | (refine gT ?_; refine retS ?_) | (refine gS ?_; refine skipS ?_) | (apply_assumption (exfalso := false) (symm := false))))
            all_goals first
              | ((refine fin_le (Le.refl _) (rv_one (rv1_tmp (by rfl))) (by first | rfl | (simp only [go_sem, Nat.reduceAdd, Nat.reduceMul, reduceIte, Nat.reduceEqDiff, Nat.reduceLeDiff, Int.reduceToNat, Int.reducePow, Int.reduceBEq, Int.reduceBNe, Int.reduceLT, Int.reduceLE, decide_true, decide_false])) ?_); rw [pres_no hi1 hlt (by rw [hpa, hpn]; simp_all <;> omega)]; done)
              | (refine ⟨i + 1, pres_next hi1 hlt hn hnj (by rw [hpa, hpn]; simp_all <;> omega), by omega, ?_⟩; (refine atS ?_); (exact weakS); done)
      · refine aw_le (le_nilI 6 1 8 rfl) ?_
        simp only [go_sem, Nat.reduceAdd, Nat.reduceMul, reduceIte, Nat.reduceEqDiff, Nat.reduceLeDiff, Int.reduceToNat, Int.reducePow, Int.reduceBEq, Int.reduceBNe, Int.reduceLT, Int.reduceLE, decide_true, decide_false]
        refine aw_loop_at [7, 8, 23, 24, 25, 26, 27, 28, 29, 30, 31, 32, 33, 34, 35, 36, 37, 38, 39, 40, 41, 42, 43, 44, 45, 46] (fun k : Nat => k ≤ o.pre.length) (fun k => o.pre.length - k) (fun k => [(8, .int k), (7, .bool (canL (o.pre.take k) g []))]) (fun _ => [(2, ⟨55, opc o, true⟩)]) 0 (by omega) ?_ ?_
        · (refine atS ?_)
          (exact weakS)
        · rintro k hk K hK
          (refine atS ?_)
          by_cases hkt : k < o.pre.length
          · have hst := canL_step (g := g) (s := []) hkt
            (repeat' (first | (refine hK _ ?_; clear hK K) | (refine aw_seq (fun K hK => ?_)) | (refine gR ?_; refine regS ?_) | (refine gD 14 ?_; refine drS (.it 0 0 (.it 1 0 (.it 2 0 (.it 3 0 (.it 4 0 (.it 5 0 (.it 6 0 (.it 7 0 (.it 8 0 (.it 9 2 (.it 10 0 (.it 11 0 (.it 12 0 (.it 13 0 (.it 14 0 (.it 15 0 (.it 16 0 (.it 17 0 (.it 18 0 (.it 19 2 (.it 20 0 (.it 21 0 .nil)))))))))))))))))))))) [0, 1, 2, 3, 4, 5, 6, 7, 8, 9, 10, 11, 12, 13, 14, 15, 16, 17, 18, 19, 20, 21] ?_) | (refine gC 17 ?_; refine callS (has_pc _ _) ?_) | (refine gC 17 ?_; refine callS (has_pc [g[i.toNat]] _) ?_) | (refine gC 17 ?_; refine callS (has_pc [] _) ?_) | (refine gC 21 ?_; refine callS (countIn_pc _ _) ?_) | (refine gCd 17 ?_; refine callD (has_pc _ _) ?_) | (refine gCd 17 ?_; refine callD (has_pc [g[i.toNat]] _) ?_) | (refine gCd 17 ?_; refine callD (has_pc [] _) ?_) | (refine stk_op (fun K hK => ?_); (first | (refine aop_pv (pv_fieldAddrF (by rfl) (by rfl) (by first | decide | (simp; done) | (simp; omega))) ?_) | (refine aop_pv (pv_fieldAddrIF (by rfl) (by rfl) (by first | decide | (simp; done) | (simp; omega))) ?_))) | (refine adx_op (fun K hK => ?_); (first | (refine aopx_pv (pv_fieldAddrF (by rfl) (by rfl) (by first | decide | (simp; done) | (simp; omega))) ?_) | (refine aopx_pv (pv_fieldAddrIF (by rfl) (by rfl) (by first | decide | (simp; done) | (simp; omega))) ?_))) | (refine And.intro ?_ ?_) | (refine gDx ?_; refine adxS ?_) | (refine gE ?_; (first | (refine exN ?_) | (refine exS (fun _ => ?_)))) | (refine gG ?_; refine guardS (fun hc => ?_) (fun hc => ?_) <;> (try (first | contradiction | (exfalso; omega)))) | (refine gGd ?_; refine guardD (fun hc => ?_) (fun hc => ?_) <;> (try (first | contradiction | (exfalso; omega)))) | (refine gQ ?_; (first | (refine condT ?_) | (refine condF ?_) | (refine condS (fun hc => ?_) (fun hc => ?_) <;> (try (first | contradiction | (exfalso; omega)))))) | (refine gWd ?_; refine wdrS ?_) | (refine gW ?_; refine wopsS ?_) | (refine aw_block ?_) | (refine gX ?_; refine exitS ?_) | (refine gT ?_; refine retS ?_) | (refine gS ?_; refine skipS ?_) | (apply_assumption (exfalso := false) (symm := false))))
            all_goals (refine ⟨k + 1, by omega, by omega, ?_⟩; rw [hst]; simp only [*, Bool.not_true, Bool.not_false, Bool.false_or, Bool.true_or, Bool.and_true, Bool.and_false]; (refine atS ?_); (exact weakS))
          · obtain rfl : k = o.pre.length := by omega
            rw [List.take_length]
            have hone : oneS g i = [] := by rw [oneS, if_pos (by omega)]
            have hpa : presAt o g i = !(canL o.pre g [] && decide (1 < presN o g i)) := by rw [← hone]; rfl
            have hpn : presN o g i = cntIn o.add g + if 0 ≤ i ∧ hasB o.add g[i.toNat]! = false ∧ hasB o.del g[i.toNat]! = false then 1 else 0 := rfl
            skip
            generalize canL o.pre g [] = can at *
            (repeat' (first | (refine hK _ ?_; clear hK K) | (refine aw_seq (fun K hK => ?_)) | (refine gR ?_; refine regS ?_) | (refine gD 14 ?_; refine drS (.it 0 0 (.it 1 0 (.it 2 0 (.it 3 0 (.it 4 0 (.it 5 0 (.it 6 0 (.it 7 0 (.it 8 0 (.it 9 2 (.it 10 0 (.it 11 0 (.it 12 0 (.it 13 0 (.it 14 0 (.it 15 0 (.it 16 0 (.it 17 0 (.it 18 0 (.it 19 2 (.it 20 0 (.it 21 0 .nil)))))))))))))))))))))) [0, 1, 2, 3, 4, 5, 6, 7, 8, 9, 10, 11, 12, 13, 14, 15, 16, 17, 18, 19, 20, 21] ?_) | (refine gC 17 ?_; refine callS (has_pc _ _) ?_) | (refine gC 17 ?_; refine callS (has_pc [g[i.toNat]] _) ?_) | (refine gC 17 ?_; refine callS (has_pc [] _) ?_) | (refine gC 21 ?_; refine callS (countIn_pc _ _) ?_) | (refine gCd 17 ?_; refine callD (has_pc _ _) ?_) | (refine gCd 17 ?_; refine callD (has_pc [g[i.toNat]] _) ?_) | (refine gCd 17 ?_; refine callD (has_pc [] _) ?_) | (refine stk_op (fun K hK => ?_); (first | (refine aop_pv (pv_fieldAddrF (by rfl) (by rfl) (by first | decide | (simp; done) | (simp; omega))) ?_) | (refine aop_pv (pv_fieldAddrIF (by rfl) (by rfl) (by first | decide | (simp; done) | (simp; omega))) ?_))) | (refine adx_op (fun K hK => ?_); (first | (refine aopx_pv (pv_fieldAddrF (by rfl) (by rfl) (by first | decide | (simp; done) | (simp; omega))) ?_) | (refine aopx_pv (pv_fieldAddrIF (by rfl) (by rfl) (by first | decide | (simp; done) | (simp; omega))) ?_))) | (refine And.intro ?_ ?_) | (refine gDx ?_; refine adxS ?_) | (refine gE ?_; (first | (refine exN ?_) | (refine exS (fun _ => ?_)))) | (refine gG ?_; refine guardS (fun hc => ?_) (fun hc => ?_) <;> (try (first | contradiction | (exfalso; omega)))) | (refine gGd ?_; refine guardD (fun hc => ?_) (fun hc => ?_) <;> (try (first | contradiction | (exfalso; omega)))) | (refine gQ ?_; (first | (refine condT ?_) | (refine condF ?_) | (refine condS (fun hc => ?_) (fun hc => ?_) <;> (try (first | contradiction | (exfalso; omega)))))) | (refine gWd ?_; refine wdrS ?_) | (refine gW ?_; refine wopsS ?_) | (refine aw_block ?_) | (refine gX ?_; refine exitS ?_) | (refine gT ?_; refine retS ?_) | (refine gS ?_; refine skipS ?_) | (apply_assumption (exfalso := false) (symm := false))))
            all_goals first
              | ((refine fin_le (Le.refl _) (rv_one (rv1_tmp (by rfl))) (by first | rfl | (simp only [go_sem, Nat.reduceAdd, Nat.reduceMul, reduceIte, Nat.reduceEqDiff, Nat.reduceLeDiff, Int.reduceToNat, Int.reducePow, Int.reduceBEq, Int.reduceBNe, Int.reduceLT, Int.reduceLE, decide_true, decide_false])) ?_); rw [pres_no hi1 hlt (by rw [hpa, hpn]; simp_all <;> omega)]; done)
              | (refine ⟨i + 1, pres_next hi1 hlt hn hnj (by rw [hpa, hpn]; simp_all <;> omega), by omega, ?_⟩; (refine atS ?_); (exact weakS); done)
    · (repeat' (first | (refine hK _ ?_; clear hK K) | (refine aw_seq (fun K hK => ?_)) | (refine gR ?_; refine regS ?_) | (refine gD 14 ?_; refine drS (.it 0 0 (.it 1 0 (.it 2 0 (.it 3 0 (.it 4 0 (.it 5 0 (.it 6 0 (.it 7 0 (.it 8 0 (.it 9 2 (.it 10 0 (.it 11 0 (.it 12 0 (.it 13 0 (.it 14 0 (.it 15 0 (.it 16 0 (.it 17 0 (.it 18 0 (.it 19 2 (.it 20 0 (.it 21 0 .nil)))))))))))))))))))))) [0, 1, 2, 3, 4, 5, 6, 7, 8, 9, 10, 11, 12, 13, 14, 15, 16, 17, 18, 19, 20, 21] ?_) | (refine gC 17 ?_; refine callS (has_pc _ _) ?_) | (refine gC 17 ?_; refine callS (has_pc [g[i.toNat]] _) ?_) | (refine gC 17 ?_; refine callS (has_pc [] _) ?_) | (refine gC 21 ?_; refine callS (countIn_pc _ _) ?_) | (refine gCd 17 ?_; refine callD (has_pc _ _) ?_) | (refine gCd 17 ?_; refine callD (has_pc [g[i.toNat]] _) ?_) | (refine gCd 17 ?_; refine callD (has_pc [] _) ?_) | (refine stk_op (fun K hK => ?_); (first | (refine aop_pv (pv_fieldAddrF (by rfl) (by rfl) (by first | decide | (simp; done) | (simp; omega))) ?_) | (refine aop_pv (pv_fieldAddrIF (by rfl) (by rfl) (by first | decide | (simp; done) | (simp; omega))) ?_))) | (refine adx_op (fun K hK => ?_); (first | (refine aopx_pv (pv_fieldAddrF (by rfl) (by rfl) (by first | decide | (simp; done) | (simp; omega))) ?_) | (refine aopx_pv (pv_fieldAddrIF (by rfl) (by rfl) (by first | decide | (simp; done) | (simp; omega))) ?_))) | (refine And.intro ?_ ?_) | (refine gDx ?_; refine adxS ?_) | (refine gE ?_; (first | (refine exN ?_) | (refine exS (fun _ => ?_)))) | (refine gG ?_; refine guardS (fun hc => ?_) (fun hc => ?_) <;> (try (first | contradiction | (exfalso; omega)))) | (refine gGd ?_; refine guardD (fun hc => ?_) (fun hc => ?_) <;> (try (first | contradiction | (exfalso; omega)))) | (refine gQ ?_; (first | (refine condT ?_) | (refine condF ?_) | (refine condS (fun hc => ?_) (fun hc => ?_) <;> (try (first | contradiction | (exfalso; omega)))))) | (refine gWd ?_; refine wdrS ?_) | (refine gW ?_; refine wopsS ?_) | (refine aw_block ?_) | (refine gX ?_; refine exitS ?_) | (refine gT ?_; refine retS ?_) | (refine gS ?_; refine skipS ?_) | (apply_assumption (exfalso := false) (symm := false))))
      (refine fin_le (Le.refl _) (rv_one (rv1_tmp (by rfl))) (by first | rfl | (simp only [go_sem, Nat.reduceAdd, Nat.reduceMul, reduceIte, Nat.reduceEqDiff, Nat.reduceLeDiff, Int.reduceToNat, Int.reducePow, Int.reduceBEq, Int.reduceBNe, Int.reduceLT, Int.reduceLE, decide_true, decide_false])) ?_)
      rw [pres_yes hi1 hlt hn hnj]



end Go.Proofs.Ytokmhfjledbglaa
