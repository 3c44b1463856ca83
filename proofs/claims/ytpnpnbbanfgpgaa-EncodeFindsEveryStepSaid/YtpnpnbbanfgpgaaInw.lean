import Derived.Test.YtpnpnbbanfgpgaaInv



namespace Go.Proofs.Ytpnpnbbanfgpgaa
open Go.Ab
open Go
set_option linter.unusedSimpArgs false
set_option linter.unusedVariables false
set_option maxRecDepth 10000
attribute [local irreducible] PV AOp AOps AW PCall OCall MCall WCall Ab.Fin OFin OFin2 MFin RV RV1 Le AStk AGrd ADr ADx ADo AOpX AAny
set_option maxHeartbeats 4000000
/-! groups of a task -/
theorem indexFuncO_pc (xs : List Op) (f : FuncId) [TyC Try.prog f] (caps : List AV) (hcap : AV.purL caps = true) (p : Op → Bool) (h : Answers f caps Op.av p xs) : PCall Try.prog 72 [opsA xs, .fn f caps] (fun r => r = .int (idxF p xs)) := by
  (refine enterS Try.func72 Try.ntmps72 ?_)
  (refine aw_bound (i := 0) rfl (fun hb => ?_); (try simp only [List.length_map] at hb))
  (repeat' (first | (refine hK _ ?_; clear hK K) | (refine aw_seq (fun K hK => ?_)) | (refine gR ?_; refine regS ?_) | (refine gE ?_; (first | (refine exN ?_) | (refine exS (fun _ => ?_)))) | (refine gQ ?_; (first | (refine condT ?_) | (refine condF ?_) | (refine condS (fun hc => ?_) (fun hc => ?_) <;> (try (first | contradiction | (exfalso; omega)))))) | (refine gW ?_; refine wopsS ?_) | (refine aw_block ?_) | (refine gX ?_; refine exitS ?_) | (refine gT ?_; refine retS ?_) | (refine gS ?_; refine skipS ?_) | (apply_assumption (exfalso := false) (symm := false))))
  refine aw_loop_at [4, 5, 8, 9, 10, 11, 12, 13, 14, 15, 16, 17, 18] (fun k : Nat => k ≤ xs.length ∧ ∀ i (hi : i < xs.length), i < k → p xs[i] = false) (fun k => xs.length - k) (fun k => [(8, .int k)]) (fun _ => []) 0 ⟨by omega, by omega⟩ ?_ ?_
  · (refine atS ?_)
    (exact weakS)
  · rintro k ⟨hk, hn⟩ K hK
    (refine atS ?_)
    by_cases hlt : k < xs.length
    · cases hp : p xs[k]
      · (repeat' (first | (refine hK _ ?_; clear hK K) | (refine aw_seq (fun K hK => ?_)) | (refine gR ?_; refine regS ?_) | (refine stk_op (fun K hK => ?_); refine aop_callV (by rfl) (h xs[k] (List.getElem_mem hlt)) (by simp [evalL, St.eval, AV.purL, AV.pur, hcap]) (fun x hx => ?_); rw [hp] at hx; subst hx) | (refine gE ?_; (first | (refine exN ?_) | (refine exS (fun _ => ?_)))) | (refine gQ ?_; (first | (refine condT ?_) | (refine condF ?_) | (refine condS (fun hc => ?_) (fun hc => ?_) <;> (try (first | contradiction | (exfalso; omega)))))) | (refine gW ?_; refine wopsS ?_) | (refine aw_block ?_) | (refine gX ?_; refine exitS ?_) | (refine gT ?_; refine retS ?_) | (refine gS ?_; refine skipS ?_) | (apply_assumption (exfalso := false) (symm := false))))
        refine ⟨k + 1, ⟨by omega, fun i hi hik => ?_⟩, by omega, ?_⟩
        · rcases Nat.lt_or_ge i k with h' | h'
          · exact hn i hi h'
          · obtain rfl : i = k := by omega
            exact hp
        · (refine atS ?_)
          (exact weakS)
      · (repeat' (first | (refine hK _ ?_; clear hK K) | (refine aw_seq (fun K hK => ?_)) | (refine gR ?_; refine regS ?_) | (refine stk_op (fun K hK => ?_); refine aop_callV (by rfl) (h xs[k] (List.getElem_mem hlt)) (by simp [evalL, St.eval, AV.purL, AV.pur, hcap]) (fun x hx => ?_); rw [hp] at hx; subst hx) | (refine gE ?_; (first | (refine exN ?_) | (refine exS (fun _ => ?_)))) | (refine gQ ?_; (first | (refine condT ?_) | (refine condF ?_) | (refine condS (fun hc => ?_) (fun hc => ?_) <;> (try (first | contradiction | (exfalso; omega)))))) | (refine gW ?_; refine wopsS ?_) | (refine aw_block ?_) | (refine gX ?_; refine exitS ?_) | (refine gT ?_; refine retS ?_) | (refine gS ?_; refine skipS ?_) | (apply_assumption (exfalso := false) (symm := false))))
        (refine fin_le (Le.refl _) (rv_one (rv1_tmp (by rfl))) (by first | rfl | (simp only [go_sem, Nat.reduceAdd, Nat.reduceMul, reduceIte, Nat.reduceEqDiff, Nat.reduceLeDiff, Int.reduceToNat, Int.reducePow, Int.reduceBEq, Int.reduceBNe, Int.reduceLT, Int.reduceLE, decide_true, decide_false])) ?_)
        rw [idxF_hit hlt hp hn]
    · (repeat' (first | (refine hK _ ?_; clear hK K) | (refine aw_seq (fun K hK => ?_)) | (refine gR ?_; refine regS ?_) | (refine gE ?_; (first | (refine exN ?_) | (refine exS (fun _ => ?_)))) | (refine gQ ?_; (first | (refine condT ?_) | (refine condF ?_) | (refine condS (fun hc => ?_) (fun hc => ?_) <;> (try (first | contradiction | (exfalso; omega)))))) | (refine gW ?_; refine wopsS ?_) | (refine aw_block ?_) | (refine gX ?_; refine exitS ?_) | (refine gT ?_; refine retS ?_) | (refine gS ?_; refine skipS ?_) | (apply_assumption (exfalso := false) (symm := false))))
      (refine fin_le (Le.refl _) (rv_one (rv1_tmp (by rfl))) (by first | rfl | (simp only [go_sem, Nat.reduceAdd, Nat.reduceMul, reduceIte, Nat.reduceEqDiff, Nat.reduceLeDiff, Int.reduceToNat, Int.reducePow, Int.reduceBEq, Int.reduceBNe, Int.reduceLT, Int.reduceLE, decide_true, decide_false])) ?_)
      rw [idxF_none fun i hi => hn i hi (by omega)]
theorem containsFuncO_pc (xs : List Op) (f : FuncId) [TyC Try.prog f] (caps : List AV) (hcap : AV.purL caps = true) (p : Op → Bool) (h : Answers f caps Op.av p xs) : PCall Try.prog 57 [opsA xs, .fn f caps] (fun r => r = .bool (xs.any p)) := by
  (refine enterS Try.func57 Try.ntmps57 ?_)
  (repeat' (first | (refine hK _ ?_; clear hK K) | (refine aw_seq (fun K hK => ?_)) | (refine gR ?_; refine regS ?_) | (refine stk_op (fun K hK => ?_); refine aop_call (indexFuncO_pc xs f caps hcap p h) (by simp [evalL, St.eval, AV.purL, AV.pur, hcap]) (fun x hx => ?_); subst hx) | (refine gE ?_; (first | (refine exN ?_) | (refine exS (fun _ => ?_)))) | (refine gQ ?_; (first | (refine condT ?_) | (refine condF ?_) | (refine condS (fun hc => ?_) (fun hc => ?_) <;> (try (first | contradiction | (exfalso; omega)))))) | (refine gW ?_; refine wopsS ?_) | (refine aw_block ?_) | (refine gX ?_; refine exitS ?_) | (refine gT ?_; refine retS ?_) | (refine gS ?_; refine skipS ?_) | (apply_assumption (exfalso := false) (symm := false))))
  (refine fin_le (Le.refl _) (rv_one (rv1_tmp (by rfl))) (by first | rfl | (simp only [go_sem, Nat.reduceAdd, Nat.reduceMul, reduceIte, Nat.reduceEqDiff, Nat.reduceLeDiff, Int.reduceToNat, Int.reducePow, Int.reduceBEq, Int.reduceBNe, Int.reduceLT, Int.reduceLE, decide_true, decide_false])) ?_)
  rw [idxF_any]
theorem keepsF_pc (g : List Int) (n : Int) (h0 : 0 ≤ n) (h24 : n ≤ 24) (hg : isSet g n = true) (l : List Op) (hl : ∀ o ∈ l, opOk o n = true) : Answers 58 [.iptr [ints g]] Op.av (fun o => !keepsB o g) l := by
  intro o ho
  
  (refine enterS Try.func58 Try.ntmps58 ?_)
  (repeat' (first | (refine hK _ ?_; clear hK K) | (refine aw_seq (fun K hK => ?_)) | (refine gR ?_; refine regS ?_) | (refine gC 59 ?_; refine callS (keeps_pc o g n h0 h24 (hl o ho) hg) ?_) | (refine gE ?_; (first | (refine exN ?_) | (refine exS (fun _ => ?_)))) | (refine gQ ?_; (first | (refine condT ?_) | (refine condF ?_) | (refine condS (fun hc => ?_) (fun hc => ?_) <;> (try (first | contradiction | (exfalso; omega)))))) | (refine gW ?_; refine wopsS ?_) | (refine aw_block ?_) | (refine gX ?_; refine exitS ?_) | (refine gT ?_; refine retS ?_) | (refine gS ?_; refine skipS ?_) | (apply_assumption (exfalso := false) (symm := false))))
  (refine fin_le (Le.refl _) (rv_one (rv1_tmp (by rfl))) (by first | rfl | (simp only [go_sem, Nat.reduceAdd, Nat.reduceMul, reduceIte, Nat.reduceEqDiff, Nat.reduceLeDiff, Int.reduceToNat, Int.reducePow, Int.reduceBEq, Int.reduceBNe, Int.reduceLT, Int.reduceLE, decide_true, decide_false])) ?_)
  rfl

def holdsB (t : Task) (g : List Int) : Bool := decide ((capB t.init g).length ≤ 1) && !t.ops.any fun o => !keepsB o g
theorem holds_pc (t : Task) (g : List Int) (hw : WfT t) (hg : isSet g t.facts = true) : PCall Try.prog 33 [t.av, ints g] (fun r => r = .bool (holdsB t g)) := by
  have h40 := hw.n40
  have hl1 := set_len hw.init hw.f0 hw.f1
  
  
  (refine enterS Try.func33 Try.ntmps33 ?_)
  (repeat' (first | (refine hK _ ?_; clear hK K) | (refine aw_seq (fun K hK => ?_)) | (refine gR ?_; refine regS ?_) | (refine gC 56 ?_; refine callS (common_pc t.init g (isSet_iff.1 hg).2 hl1) ?_) | (refine gC 57 ?_; refine callS (containsFuncO_pc t.ops 58 [.iptr [ints g]] rfl _ (keepsF_pc g t.facts hw.f0 hw.f1 hg _ fun o ho => (hw.ops o ho).1)) ?_) | (refine stk_op (fun K hK => ?_); (first | (refine aop_pv (pv_fieldAddrF (by rfl) (by rfl) (by first | decide | (simp; done) | (simp; omega))) ?_) | (refine aop_pv (pv_fieldAddrIF (by rfl) (by rfl) (by first | decide | (simp; done) | (simp; omega))) ?_) | (refine aop_le (le_sealPtr 3 rfl rfl rfl) ?_; simp only [go_sem, Nat.reduceAdd, Nat.reduceMul, reduceIte, Nat.reduceEqDiff, Nat.reduceLeDiff, Int.reduceToNat, Int.reducePow, Int.reduceBEq, Int.reduceBNe, Int.reduceLT, Int.reduceLE, decide_true, decide_false]; refine aop_pv pv_makeFunc ?_))) | (refine gE ?_; (first | (refine exN ?_) | (refine exS (fun _ => ?_)))) | (refine gG ?_; refine guardS (fun hc => ?_) (fun hc => ?_) <;> (try (first | contradiction | (exfalso; omega)))) | (refine gQ ?_; (first | (refine condT ?_) | (refine condF ?_) | (refine condS (fun hc => ?_) (fun hc => ?_) <;> (try (first | contradiction | (exfalso; omega)))))) | (refine gW ?_; refine wopsS ?_) | (refine aw_block ?_) | (refine gX ?_; refine exitS ?_) | (refine gT ?_; refine retS ?_) | (refine gS ?_; refine skipS ?_) | (apply_assumption (exfalso := false) (symm := false))))
  all_goals (refine fin_le (Le.refl _) (rv_one (rv1_tmp (by rfl))) (by first | rfl | (simp only [go_sem, Nat.reduceAdd, Nat.reduceMul, reduceIte, Nat.reduceEqDiff, Nat.reduceLeDiff, Int.reduceToNat, Int.reducePow, Int.reduceBEq, Int.reduceBNe, Int.reduceLT, Int.reduceLE, decide_true, decide_false])) ?_)
  all_goals (unfold holdsB; simp_all <;> omega)

/-! the reference's groups -/
def cntIn (a b : List Int) : Int := (capB a b).length
/-- The facts of the group that are true before: none, or one. -/
def oneS (g : List Int) (i : Int) : List Int := if i < 0 then [] else [g[i.toNat]!]
/-- The precondition's facts within the group are true. -/
def canL (pre g s : List Int) : Bool := pre.all fun x => !hasB g x || hasB s x
def presN (o : Op) (g : List Int) (i : Int) : Int := cntIn o.add g + if 0 ≤ i ∧ hasB o.add g[i.toNat]! = false ∧ hasB o.del g[i.toNat]! = false then 1 else 0
def presAt (o : Op) (g : List Int) (i : Int) : Bool := !(canL o.pre g (oneS g i) && decide (1 < presN o g i))
def presB (o : Op) (g : List Int) : Bool := presAt o g (-1) && decide (∀ i, i < g.length → presAt o g (i : Int) = true)
theorem canL_step {pre g s : List Int} {k : Nat} (hk : k < pre.length) : canL (pre.take (k + 1)) g s = (canL (pre.take k) g s && (!hasB g pre[k] || hasB s pre[k])) := by
  unfold canL; rw [List.take_succ_eq_append_getElem hk, List.all_append]; simp
@[local go_sem] theorem hasB_nil (x : Int) : hasB [] x = false := rfl
theorem pres_no {o : Op} {g : List Int} {i : Int} (h1 : -1 ≤ i) (h2 : i < g.length) (h : presAt o g i = false) : presB o g = false := by
  unfold presB
  rw [Bool.and_eq_false_iff]
  by_cases h0 : 0 ≤ i
  · right
    rw [decide_eq_false_iff_not]
    intro hh
    have := hh i.toNat (by omega)
    rw [show ((i.toNat : Nat) : Int) = i by omega, h] at this
    cases this
  · left
    rw [show i = -1 by omega] at h
    exact h
theorem pres_next {o : Op} {g : List Int} {i : Int} (h1 : -1 ≤ i) (h2 : i < g.length) (hn : 0 ≤ i → presAt o g (-1) = true) (hnj : ∀ j : Nat, (j : Int) < i → presAt o g (j : Int) = true) (h : presAt o g i = true) :
    -1 ≤ i + 1 ∧ i + 1 ≤ g.length ∧ (0 ≤ i + 1 → presAt o g (-1) = true) ∧ ∀ j : Nat, (j : Int) < i + 1 → presAt o g (j : Int) = true := by
  refine ⟨by omega, by omega, fun _ => ?_, fun j hj => ?_⟩
  · by_cases h0 : 0 ≤ i
    · exact hn h0
    · rw [show i = -1 by omega] at h; exact h
  · by_cases hji : (j : Int) < i
    · exact hnj j hji
    · rw [show (j : Int) = i by omega]; exact h
theorem pres_yes {o : Op} {g : List Int} {i : Int} (h1 : -1 ≤ i) (h2 : ¬ i < g.length) (hn : 0 ≤ i → presAt o g (-1) = true) (hnj : ∀ j : Nat, (j : Int) < i → presAt o g (j : Int) = true) : presB o g = true := by
  unfold presB
  rw [hn (by omega), Bool.true_and, decide_eq_true_eq]
  exact fun j hj => hnj j (by omega)


end Go.Proofs.Ytpnpnbbanfgpgaa
