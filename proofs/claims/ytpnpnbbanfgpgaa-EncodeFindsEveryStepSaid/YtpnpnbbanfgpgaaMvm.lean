import Derived.Test.YtpnpnbbanfgpgaaMvl
import Derived.Test.YtpnpnbbanfgpgaaSto




namespace Go.Proofs.Ytpnpnbbanfgpgaa
open Go.Ab
open Go
set_option linter.unusedSimpArgs false
set_option linter.unusedVariables false
set_option maxRecDepth 10000
attribute [local irreducible] PV AOp AOps AW PCall OCall MCall WCall HCall Ab.Fin OFin OFin2 MFin HFin RV RV1 Le AStk AGrd ADr ADx ADo AOpX AAny
set_option maxHeartbeats 40000000
/-! running a multi-valued task -/
theorem indexFuncA_pc (xs : List (Int × Int)) (f : FuncId) [TyC Try.prog f] (caps : List AV) (hcap : AV.purL caps = true) (p : (Int × Int) → Bool) (h : Answers f caps asg p xs) : PCall Try.prog 79 [asgs xs, .fn f caps] (fun r => r = .int (idxF p xs)) := by
  (refine enterS Try.func79 Try.ntmps79 ?_)
  (refine aw_bound (i := 0) rfl (fun hb => ?_); (try simp only [List.length_map] at hb))
  (repeat' (first | (refine hK _ ?_; clear hK K) | (refine aw_seq (fun K hK => ?_)) | (refine gR ?_; refine regS ?_) | (refine aw_block ?_)))
  refine aw_loop_at [4, 5, 8, 9, 10, 11, 12, 13, 14, 15, 16, 17, 18] (fun k : Nat => k ≤ xs.length ∧ ∀ i (hi : i < xs.length), i < k → p xs[i] = false) (fun k => xs.length - k) (fun k => [(8, .int k)]) (fun _ => []) 0 ⟨by omega, by omega⟩ ?_ ?_
  · (refine atS ?_)
    (exact weakS)
  · rintro k ⟨hk, hn⟩ K hK
    (refine atS ?_)
    by_cases hlt : k < xs.length
    · cases hp : p xs[k]
      · (repeat' (first | (refine hK _ ?_; clear hK K) | (refine aw_seq (fun K hK => ?_)) | (refine gR ?_; refine regS ?_) | (refine stk_op (fun K hK => ?_); refine aop_callV (by rfl) (h xs[k] (List.getElem_mem hlt)) (by simp [evalL, St.eval, AV.purL, AV.pur, hcap]) (fun x hx => ?_); rw [hp] at hx; subst hx) | (refine gE ?_; (first | (refine exN ?_) | (refine exS (fun _ => ?_)))) | (refine gQ ?_; (first | (refine condF ?_) | (refine condS (fun hc => ?_) (fun hc => ?_) <;> (try (first | contradiction | (exfalso; omega)))))) | (refine aw_block ?_) | (refine gS ?_; refine skipS ?_)))
        refine ⟨k + 1, ⟨by omega, fun i hi hik => ?_⟩, by omega, ?_⟩
        · rcases Nat.lt_or_ge i k with h' | h'
          · exact hn i hi h'
          · obtain rfl : i = k := by omega
            exact hp
        · (refine atS ?_)
          (exact weakS)
      · (repeat' (first | (refine hK _ ?_; clear hK K) | (refine aw_seq (fun K hK => ?_)) | (refine gR ?_; refine regS ?_) | (refine stk_op (fun K hK => ?_); refine aop_callV (by rfl) (h xs[k] (List.getElem_mem hlt)) (by simp [evalL, St.eval, AV.purL, AV.pur, hcap]) (fun x hx => ?_); rw [hp] at hx; subst hx) | (refine gE ?_; refine exS (fun _ => ?_)) | (refine gQ ?_; (first | (refine condT ?_) | (refine condS (fun hc => ?_) (fun hc => ?_) <;> (try (first | contradiction | (exfalso; omega)))))) | (refine aw_block ?_) | (refine gT ?_; refine retS ?_) | (refine gS ?_; refine skipS ?_)))
        (refine fin_le (Le.refl _) (rv_one (rv1_tmp (by rfl))) (by first | rfl | (simp only [go_sem, Nat.reduceAdd, Nat.reduceMul, reduceIte, Nat.reduceEqDiff, Nat.reduceLeDiff, Int.reduceToNat, Int.reducePow, Int.reduceBEq, Int.reduceBNe, Int.reduceLT, Int.reduceLE, decide_true, decide_false])) ?_)
        rw [idxF_hit hlt hp hn]
    · (repeat' (first | (refine hK _ ?_; clear hK K) | (refine aw_seq (fun K hK => ?_)) | (refine gR ?_; refine regS ?_) | (refine gQ ?_; refine condS (fun hc => ?_) (fun hc => ?_) <;> (try (first | contradiction | (exfalso; omega)))) | (refine gX ?_; refine exitS ?_) | (refine gT ?_; refine retS ?_) | (apply_assumption (exfalso := false) (symm := false))))
      (refine fin_le (Le.refl _) (rv_one (rv1_tmp (by rfl))) (by first | rfl | (simp only [go_sem, Nat.reduceAdd, Nat.reduceMul, reduceIte, Nat.reduceEqDiff, Nat.reduceLeDiff, Int.reduceToNat, Int.reducePow, Int.reduceBEq, Int.reduceBNe, Int.reduceLT, Int.reduceLE, decide_true, decide_false])) ?_)
      rw [idxF_none fun i hi => hn i hi (by omega)]
theorem containsFuncA_pc (xs : List (Int × Int)) (f : FuncId) [TyC Try.prog f] (caps : List AV) (hcap : AV.purL caps = true) (p : (Int × Int) → Bool) (h : Answers f caps asg p xs) : PCall Try.prog 65 [asgs xs, .fn f caps] (fun r => r = .bool (xs.any p)) := by
  (refine enterS Try.func65 Try.ntmps65 ?_)
  (repeat' (first | (refine hK _ ?_; clear hK K) | (refine aw_seq (fun K hK => ?_)) | (refine gR ?_; refine regS ?_) | (refine stk_op (fun K hK => ?_); refine aop_call (indexFuncA_pc xs f caps hcap p h) (by simp [evalL, St.eval, AV.purL, AV.pur, hcap]) (fun x hx => ?_); subst hx) | (refine gT ?_; refine retS ?_)))
  (refine fin_le (Le.refl _) (rv_one (rv1_tmp (by rfl))) (by first | rfl | (simp only [go_sem, Nat.reduceAdd, Nat.reduceMul, reduceIte, Nat.reduceEqDiff, Nat.reduceLeDiff, Int.reduceToNat, Int.reducePow, Int.reduceBEq, Int.reduceBNe, Int.reduceLT, Int.reduceLE, decide_true, decide_false])) ?_)
  rw [idxF_any]

def holdsM (s : List Int) (l : List (Int × Int)) : Bool := l.all fun a => decide (s[a.1.toNat]! = a.2)
def InVars (s : List Int) (l : List (Int × Int)) : Prop := ∀ a ∈ l, 0 ≤ a.1 ∧ a.1 < s.length
theorem holdsMF_pc (s : List Int) (l : List (Int × Int)) (h : InVars s l) : Answers 66 [.iptr [ints s]] asg (fun a => !decide (s[a.1.toNat]! = a.2)) l := by
  intro a ha
  obtain ⟨h0, h1⟩ := h a ha
  have g := getElem!_pos s a.1.toNat (by omega)
  (refine enterS Try.func66 Try.ntmps66 ?_)
  (repeat' (first | (refine hK _ ?_; clear hK K) | (refine aw_seq (fun K hK => ?_)) | (refine gR ?_; refine regS ?_) | (refine gD 1 ?_; refine drS (.it 0 0 (.it 1 0 (.it 2 0 (.it 3 0 (.it 4 0 (.it 5 0 (.it 6 0 (.it 7 0 (.it 8 0 .nil))))))))) [0, 1, 2, 3, 4, 5, 6, 7, 8] ?_) | (refine gE ?_; (first | (refine exN ?_) | (refine exS (fun _ => ?_)))) | (refine gT ?_; refine retS ?_)))
  (refine fin_le (Le.refl _) (rv_one (rv1_tmp (by rfl))) (by first | rfl | (simp only [go_sem, Nat.reduceAdd, Nat.reduceMul, reduceIte, Nat.reduceEqDiff, Nat.reduceLeDiff, Int.reduceToNat, Int.reducePow, Int.reduceBEq, Int.reduceBNe, Int.reduceLT, Int.reduceLE, decide_true, decide_false])) ?_)
  rw [g]
  rfl
theorem holdsM_pc (s : List Int) (l : List (Int × Int)) (h : InVars s l) : PCall Try.prog 45 [ints s, asgs l] (fun r => r = .bool (holdsM s l)) := by
  
  (refine enterS Try.func45 Try.ntmps45 ?_)
  (repeat' (first | (refine hK _ ?_; clear hK K) | (refine aw_seq (fun K hK => ?_)) | (refine gR ?_; refine regS ?_) | (refine gC 65 ?_; refine callS (containsFuncA_pc l 66 [.iptr [ints s]] rfl _ (holdsMF_pc s l h)) ?_) | (refine stk_op (fun K hK => ?_); refine aop_le (le_sealPtr 2 rfl rfl rfl) ?_; simp only [go_sem, Nat.reduceAdd, Nat.reduceMul, reduceIte, Nat.reduceEqDiff, Nat.reduceLeDiff, Int.reduceToNat, Int.reducePow, Int.reduceBEq, Int.reduceBNe, Int.reduceLT, Int.reduceLE, decide_true, decide_false]; refine aop_pv pv_makeFunc ?_) | (refine gT ?_; refine retS ?_)))
  (refine fin_le (Le.refl _) (rv_one (rv1_tmp (by rfl))) (by first | rfl | (simp only [go_sem, Nat.reduceAdd, Nat.reduceMul, reduceIte, Nat.reduceEqDiff, Nat.reduceLeDiff, Int.reduceToNat, Int.reducePow, Int.reduceBEq, Int.reduceBNe, Int.reduceLT, Int.reduceLE, decide_true, decide_false])) ?_)
  unfold holdsM
  rw [show (l.any fun a => !decide (s[a.1.toNat]! = a.2)) = !(l.all fun a => decide (s[a.1.toNat]! = a.2)) from by rw [List.not_all_eq_any_not]]
  simp

def applyM (s : List Int) (l : List (Int × Int)) : List Int := l.foldl (fun s a => s.set a.1.toNat a.2) s
theorem applyM_len (s : List Int) : ∀ (l : List (Int × Int)), (applyM s l).length = s.length := by
  intro l
  unfold applyM
  induction l generalizing s with
  | nil => rfl
  | cons a r ih => rw [List.foldl_cons, ih]; simp
theorem applyM_take {s : List Int} {l : List (Int × Int)} {k : Nat} (h : k < l.length) : applyM s (l.take (k + 1)) = (applyM s (l.take k)).set l[k].1.toNat l[k].2 := by
  unfold applyM
  rw [List.take_succ_eq_append_getElem h, List.foldl_append]; rfl
theorem nextMt_pc (m : MTask) (s : List Int) (k : Nat) (hk : k < m.ops.length) (hs : s.length ≤ 1000) (hpl : m.ops[k].post.length ≤ 1000) (h : InVars s m.ops[k].post) : PCall Try.prog 46 [m.av, ints s, .int k] (fun r => r = ints (applyM s m.ops[k].post)) := by
  
  
  (refine enterS Try.func46 Try.ntmps46 ?_)
  (repeat' (first | (refine hK _ ?_; clear hK K) | (refine aw_seq (fun K hK => ?_)) | (refine gR ?_; refine regS ?_) | (refine stk_op (fun K hK => ?_); refine aop_callO (d := some 11) (cloneI_oc 11000 _) (by rfl) (by first | exact free_one (by first | rfl | (simp only [go_sem, Nat.reduceAdd, Nat.reduceMul, reduceIte, Nat.reduceEqDiff, Nat.reduceLeDiff, Int.reduceToNat, Int.reducePow, Int.reduceBEq, Int.reduceBNe, Int.reduceLT, Int.reduceLE, decide_true, decide_false]; done) | (simp only [go_sem, Nat.reduceAdd, Nat.reduceMul, reduceIte, Nat.reduceEqDiff, Nat.reduceLeDiff, Int.reduceToNat, Int.reducePow, Int.reduceBEq, Int.reduceBNe, Int.reduceLT, Int.reduceLE, decide_true, decide_false]; rfl) | (simp [St.free, mentHp, AV.mentL, AV.ment])) | (intro id hid; simp only [List.mem_cons, List.not_mem_nil, or_false] at hid; rcases hid with rfl | rfl | rfl | rfl <;> first | rfl | (simp only [go_sem, Nat.reduceAdd, Nat.reduceMul, reduceIte, Nat.reduceEqDiff, Nat.reduceLeDiff, Int.reduceToNat, Int.reducePow, Int.reduceBEq, Int.reduceBNe, Int.reduceLT, Int.reduceLE, decide_true, decide_false]; done) | (simp only [St.free, mentHp, go_sem, Nat.reduceAdd, Nat.reduceMul, reduceIte, Nat.reduceEqDiff, Nat.reduceLeDiff, Int.reduceToNat, Int.reducePow, Int.reduceBEq, Int.reduceBNe, Int.reduceLT, Int.reduceLE, decide_true, decide_false]; done) | (simp only [go_sem, Nat.reduceAdd, Nat.reduceMul, reduceIte, Nat.reduceEqDiff, Nat.reduceLeDiff, Int.reduceToNat, Int.reducePow, Int.reduceBEq, Int.reduceBNe, Int.reduceLT, Int.reduceLE, decide_true, decide_false]; rfl) | (simp [St.free, mentHp, AV.mentL, AV.ment]; try exact mentL_flat _ _ _ fun _ => rfl))) (fun x hp hx => ?_); obtain ⟨rfl, rfl⟩ := hx) | (refine gE ?_; (first | (refine exN ?_) | (refine exS (fun _ => ?_)))) | (refine aw_block ?_)))
  refine aw_loop_at [9, 19, 20, 21, 22, 23, 24, 25, 26, 27, 28, 29] (fun j : Nat => j ≤ m.ops[k].post.length) (fun j => m.ops[k].post.length - j) (fun j => [(19, .int j)]) (fun j => [(3, ⟨40, m.cs, true⟩), (11005, ⟨3, (applyM s (m.ops[k].post.take j)).map AV.int, false⟩)]) 0 (by omega) ?_ ?_
  · (refine atS ?_)
    (exact weakS)
  · rintro j hj K hK
    (refine atS ?_)
    have hal := applyM_len s (m.ops[k].post.take j)
    by_cases hlt : j < m.ops[k].post.length
    · have hst := applyM_take (s := s) hlt
      obtain ⟨v0, v1⟩ := h _ (List.getElem_mem hlt)
      generalize applyM s (m.ops[k].post.take j) = q at *
      (repeat' (first | (refine hK _ ?_; clear hK K) | (refine aw_seq (fun K hK => ?_)) | (refine gR ?_; refine regS ?_) | (refine gE ?_; (first | (refine exN ?_) | (refine exS (fun _ => ?_)))) | (refine gQ ?_; refine condS (fun hc => ?_) (fun hc => ?_) <;> (try (first | contradiction | (exfalso; omega)))) | (refine aw_block ?_) | (refine gS ?_; refine skipS ?_)))
      refine ⟨j + 1, by omega, by omega, ?_⟩
      rw [hst]
      (refine atS ?_)
      (refine le_weak (by (repeat (first | exact .nil | refine .drop ?_ | refine weak_keep ?_ (by first | rfl | (simp [List.map_set]))))) (by (repeat refine hsub_hasE (by rfl) (by first | rfl | (simp [List.map_set])) ?_); exact hsub_nil _))
    · obtain rfl : j = m.ops[k].post.length := by omega
      rw [List.take_length] at *
      (repeat' (first | (refine hK _ ?_; clear hK K) | (refine aw_seq (fun K hK => ?_)) | (refine gRx 7 (by rfl) ?_; refine regS ?_) | (refine gQ ?_; refine condS (fun hc => ?_) (fun hc => ?_) <;> (try (first | contradiction | (exfalso; omega)))) | (refine gX ?_; refine exitS ?_) | (apply_assumption (exfalso := false) (symm := false))))
      refine aw_le (le_sealMap (f := AV.int) 11005 8 s.length (applyM s m.ops[k].post) (by rfl) hal (fun _ => rfl) (fun _ => rfl)) ?_
      simp only [AV.sealSL, sealS_any, sealS_v, sealS_isl, sealS_iptr, sealS_ptr, sealS_sl, sealS_agg, sealS_tup, sealS_fn, purge_agg, purge_tup, purge_fn, and_self, AV.mentL, AV.ment, Bool.or_self, go_sem, Nat.reduceAdd, Nat.reduceMul, reduceIte, Nat.reduceEqDiff, Nat.reduceLeDiff, Int.reduceToNat, Int.reducePow, Int.reduceBEq, Int.reduceBNe, Int.reduceLT, Int.reduceLE, decide_true, decide_false]
      (repeat' (first | (refine hK _ ?_; clear hK K) | (refine gR ?_; refine regS ?_) | (refine gT ?_; refine retS ?_)))
      (refine fin_le (Le.refl _) (rv_one (rv1_tmp (by rfl))) (by first | rfl | (simp only [go_sem, Nat.reduceAdd, Nat.reduceMul, reduceIte, Nat.reduceEqDiff, Nat.reduceLeDiff, Int.reduceToNat, Int.reducePow, Int.reduceBEq, Int.reduceBNe, Int.reduceLT, Int.reduceLE, decide_true, decide_false])) ?_)
      rfl

theorem stateFM_pc (m : MTask) (s : List Int) (h : MValid m) : PCall Try.prog 52 [m.av, ints s] (fun r => r = faultP (if stB m s = true then (0, 0) else (5, -4))) := by
  
  cases hs : stB m s with
  | true =>
    have c1 := isStateM_pc m s
    rw [hs] at c1
    
    (refine enterS Try.func52 Try.ntmps52 ?_)
    (repeat' (first | (refine hK _ ?_; clear hK K) | (refine aw_seq (fun K hK => ?_)) | (refine gR ?_; refine regS ?_) | (refine gC 12 ?_; refine callS (mvalid_ok m h) ?_) | (refine gC 42 ?_; refine callS (c1) ?_) | (refine gE ?_; refine exN ?_) | (refine gQ ?_; refine condF ?_) | (refine gT ?_; refine retS ?_) | (refine gS ?_; refine skipS ?_)))
    (refine fin_le (Le.refl _) (rv_one (rv1_cell (by first | exact pv_load (by rfl) (by rfl) (by rfl) (by rfl) | exact pv_loadA (by rfl) (by rfl) (by rfl) (by first | decide | simp)))) (by first | rfl | (simp only [go_sem, Nat.reduceAdd, Nat.reduceMul, reduceIte, Nat.reduceEqDiff, Nat.reduceLeDiff, Int.reduceToNat, Int.reducePow, Int.reduceBEq, Int.reduceBNe, Int.reduceLT, Int.reduceLE, decide_true, decide_false])) ?_)
    rfl
  | false =>
    have c1 := isStateM_pc m s
    rw [hs] at c1
    (refine enterS Try.func52 Try.ntmps52 ?_)
    (repeat' (first | (refine hK _ ?_; clear hK K) | (refine aw_seq (fun K hK => ?_)) | (refine gR ?_; refine regS ?_) | (refine gC 12 ?_; refine callS (mvalid_ok m h) ?_) | (refine gC 42 ?_; refine callS (c1) ?_) | (refine gE ?_; refine exN ?_) | (refine gQ ?_; (first | (refine condT ?_) | (refine condF ?_))) | (refine gT ?_; refine retS ?_) | (refine gS ?_; refine skipS ?_)))
    (refine fin_le (Le.refl _) (rv_one (rv1_cell (by first | exact pv_load (by rfl) (by rfl) (by rfl) (by rfl) | exact pv_loadA (by rfl) (by rfl) (by rfl) (by first | decide | simp)))) (by first | rfl | (simp only [go_sem, Nat.reduceAdd, Nat.reduceMul, reduceIte, Nat.reduceEqDiff, Nat.reduceLeDiff, Int.reduceToNat, Int.reducePow, Int.reduceBEq, Int.reduceBNe, Int.reduceLT, Int.reduceLE, decide_true, decide_false])) ?_)
    rfl

theorem planFM_pc (m : MTask) (plan : List Int) (h : MValid m) (hl : m.ops.length ≤ 1000) : PCall Try.prog 44 [m.av, ints plan] (fun r => r = faultP (stepsFault m.ops.length plan)) := by
  
  (refine enterS Try.func44 Try.ntmps44 ?_)
  (repeat' (first | (refine hK _ ?_; clear hK K) | (refine aw_seq (fun K hK => ?_)) | (refine gR ?_; refine regS ?_) | (refine gC 12 ?_; refine callS (mvalid_ok m h) ?_) | (refine gC 50 ?_; refine callS (stepsF_pc _ _) ?_) | (refine gE ?_; refine exN ?_) | (refine gQ ?_; refine condF ?_) | (refine gT ?_; refine retS ?_) | (refine gS ?_; refine skipS ?_)))
  (refine fin_le (Le.refl _) (rv_one (rv1_cell (by first | exact pv_load (by rfl) (by rfl) (by rfl) (by rfl) | exact pv_loadA (by rfl) (by rfl) (by rfl) (by first | decide | simp)))) (by first | rfl | (simp only [go_sem, Nat.reduceAdd, Nat.reduceMul, reduceIte, Nat.reduceEqDiff, Nat.reduceLeDiff, Int.reduceToNat, Int.reducePow, Int.reduceBEq, Int.reduceBNe, Int.reduceLT, Int.reduceLE, decide_true, decide_false])) ?_)
  rfl

end Go.Proofs.Ytpnpnbbanfgpgaa
