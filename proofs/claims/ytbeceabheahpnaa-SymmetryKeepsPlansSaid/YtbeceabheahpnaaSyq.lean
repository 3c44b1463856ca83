import Derived.Test.YtbeceabheahpnaaSyp
import Derived.Test.YtbeceabheahpnaaAbj


namespace Go.Proofs.Ytbeceabheahpnaa
open Go.Ab
open Go
set_option linter.unusedSimpArgs false
set_option linter.unusedVariables false
set_option maxRecDepth 10000
attribute [local irreducible] PV AOp AOps AW PCall OCall MCall WCall HCall Ab.Fin OFin OFin2 MFin HFin RV RV1 Le AStk AGrd ADr ADx ADo AOpX AAny AOpsI wops wdr wgd wdt
set_option maxHeartbeats 100000000
/-! all permutations of the facts, by an iterator that calls itself -/
attribute [local go_sem] ment_ylS hsets_nil hsets_cons
@[local go_sem] theorem cast_0Q : ((0:Nat):Int) = 0 := rfl
section
variable {P : Program}
theorem aany_arms1 {ops : Array Oper} {hs : List Nat} {f : Nat} {listed : Array Bool} {s : St} {K : St → Prop} {i : Nat} (hr : Region.ready .any ops listed = [i]) (h : ArmR P ops hs f listed i s K) : AAny P ops hs (f + 1) listed s K := by
  unfold AAny
  intro R β G a w hrep hcl
  refine ⟨fun h => (by rw [hr] at h; cases h), fun k hk => ?_⟩
  have hmem := hk
  rw [hr] at hk
  simp only [List.mem_cons, List.not_mem_nil, or_false] at hk
  subst hk
  exact h R β G a w hrep hcl hmem
theorem hcall_le {f : FuncId} {args args' : List AV} {hp : Hp} {news pins : List Nat} {Q : AV → Hp → Prop} (h : HCall P f args hp news pins Q) (hl : ALeL args' args) : HCall P f args' hp news pins Q := by
  unfold HCall at h ⊢
  exact fun hle β G w vals out lp hH hno hv => h hle β G w vals out lp hH hno ⟨by rw [← (aleL_get hl).1]; exact hv.1, fun j x y hx hy => by
    have hj : j < args'.length := by have := lt_of_get hx; rw [(aleL_get hl).1]; exact this
    exact (aleL_get hl).2 j _ _ (List.getElem?_eq_getElem hj) hx G β y (hv.2 j _ y (List.getElem?_eq_getElem hj) hy)⟩
theorem armR_xY {ops : Array Oper} {hs : List Nat} {f : Nat} {listed : Array Bool} {s : St} {K : St → Prop} {d : Option Tmp} {op : Go.Op} {ty : TypeId} {pos : String} {aft : Array Edge} {j t : Nat} {b : Bool} {i : Nat} (hi : ops[i]? = some ⟨d, op, ty, pos, aft, some (j, b)⟩)
    (ht : (ops[j]?).bind (·.dst) = some t) (hc : s.fr[t]? = some (.bool b))
    (h : ∀ K' : St → Prop, (∀ s', AAny P ops hs f (listed.setIfInBounds i true) s' K → K' s') → AOpX P ⟨d, op, ty, pos, aft, none⟩ s K') : ArmR P ops hs f listed i s K := by
  intro R β G a w hrep hcl hmem
  have g1 := guard_known hrep ht hc
  have h2 := h _ (fun _ h => h)
  have h3 : AOpX P ⟨d, op, ty, pos, aft, some (j, b)⟩ s (fun s' => AAny P ops hs f (listed.setIfInBounds i true) s' K) := by
    unfold AOpX at h2 ⊢; exact h2
  unfold AOpX at h3
  unfold wpOp
  simp only [hi]
  rw [if_pos (by simp [Region.wanted, g1])]
  exact .inl (Oper.wp_mono (fun a' w' ⟨hx, β', G', s', hs', hr'⟩ => ⟨fun _ => hx, (by unfold AAny at hs'; exact hs' R β' G' a' w' hr' (hcl.set hmem))⟩) (h3 R β G a w _ hrep))
theorem armR_oY {ops : Array Oper} {hs : List Nat} {f : Nat} {listed : Array Bool} {s : St} {K : St → Prop} {d : Option Tmp} {op : Go.Op} {ty : TypeId} {pos : String} {aft : Array Edge} {j t : Nat} {b : Bool} {i : Nat} (hi : ops[i]? = some ⟨d, op, ty, pos, aft, some (j, b)⟩) (he : Go.Ab.early ops hs i = false)
    (ht : (ops[j]?).bind (·.dst) = some t) (hc : s.fr[t]? = some (.bool b))
    (h : ∀ K' : St → Prop, (∀ s', AAny P ops hs f (listed.setIfInBounds i true) s' K → K' s') → AOp P ⟨d, op, ty, pos, aft, none⟩ s K') : ArmR P ops hs f listed i s K := by
  intro R β G a w hrep hcl hmem
  have g1 := guard_known hrep ht hc
  have h2 := h _ (fun _ h => h)
  have h3 : AOp P ⟨d, op, ty, pos, aft, some (j, b)⟩ s (fun s' => AAny P ops hs f (listed.setIfInBounds i true) s' K) := by
    unfold AOp at h2 ⊢; exact h2
  unfold AOp at h3
  unfold wpOp
  simp only [hi]
  rw [if_pos (by simp [Region.wanted, g1])]
  exact .inl (Oper.wp_mono (fun a' w' ⟨β', G', s', hs', hr'⟩ => ⟨fun h => (by rw [he] at h; cases h), (by unfold AAny at hs'; exact hs' R β' G' a' w' hr' (hcl.set hmem))⟩) (h3 R β G a w _ hrep))
end
@[local go_sem] theorem purge_appQ (id : Nat) (a b : List AV) : AV.purgeL id (a ++ b) = AV.purgeL id a ++ AV.purgeL id b := purgeL_append id a b
@[local go_sem] theorem purge_rowsQ (id : Nat) (l : List (List Int)) : AV.purgeL id (l.map ints) = l.map ints := purgeL_map id _ _ fun _ => rfl
@[local go_sem] theorem onlL_rowsQ (ids : List Nat) (l : List (List Int)) : AV.onlL ids (l.map ints) = true := onlL_pur (purL_map ints l fun _ => rfl)
@[local go_sem] theorem purge_ylQ (i g : Nat) (y : YInfo) : AV.purge i (.yl g y) = if (g == i) = true then .any else .yl g y := rfl
@[local go_sem] theorem ghBlk_cs (cs : List AV) : (ghBlk cs).cs = cs := rfl
@[local go_sem] theorem beq_a : ((2 : Nat) == 301) = false := rfl
@[local go_sem] theorem beq_b : ((3 : Nat) == 301) = false := rfl
@[local go_sem] theorem beq_c : ((1 : Nat) == 301) = false := rfl
@[local go_sem] theorem beq_d : ((300 : Nat) == 301) = false := rfl
@[local go_sem] theorem beq_e : ((1000000001 : Nat) == 301) = false := rfl
@[local go_sem] theorem or_ff : (false || false) = false := rfl
@[local go_sem] theorem mentL_rowsQ (id : Nat) (l : List (List Int)) : AV.mentL id (l.map ints) = false := mentL_map id ints l fun _ => rfl
theorem permsK_mono (n m : Nat) (h : List Int) {k j : Nat} (hj : k ≤ j) : (permsK n m h k).length ≤ (permsK n m h j).length := by
  obtain ⟨d, rfl⟩ : ∃ d, j = k + d := ⟨j - k, by omega⟩
  induction d with
  | zero => exact Nat.le_refl _
  | succ d ih =>
    refine Nat.le_trans (ih (by omega)) ?_
    show _ ≤ (permsK n m h ((k + d) + 1)).length
    cases hb : hasB h ((k + d : Nat) : Int) with
    | true => rw [permsK_no hb]; exact Nat.le_refl _
    | false => rw [permsK_yes hb, List.length_append]; omega
theorem permutations_pc (n : Int) : PCall Try.prog 55 [.int n] (fun r => r = .fn 68 [.iptr [.int n]]) := by
  (refine enterS Try.func55 Try.ntmps55 ?_)
  (repeat' (first | (refine hK _ ?_; clear hK K) | (refine aw_seq (fun K hK => ?_)) | (refine gR ?_; refine regS ?_) | (refine stk_op (fun K hK => ?_); refine aop_le (le_sealPtr 1 rfl rfl rfl) ?_; simp only [go_sem, Nat.reduceAdd, Nat.reduceMul, reduceIte, Nat.reduceEqDiff, Nat.reduceLeDiff, Int.reduceToNat, Int.reducePow, Int.reduceBEq, Int.reduceBNe, Int.reduceLT, Int.reduceLE, decide_true, decide_false]; refine aop_pv pv_makeFunc ?_) | (refine gE ?_; (first | (refine exN ?_) | (refine exS (fun _ => ?_)))) | (refine gQ ?_; (first | (refine condT ?_) | (refine condF ?_) | (refine condS (fun hc => ?_) (fun hc => ?_) <;> (try (first | contradiction | (exfalso; omega)))))) | (refine gW ?_; refine wopsS ?_) | (refine aw_block ?_) | (refine gX ?_; refine exitS ?_) | (refine gT ?_; refine retS ?_) | (refine gS ?_; refine skipS ?_) | (apply_assumption (exfalso := false) (symm := false))))
  (refine fin_le (Le.refl _) (rv_one (rv1_tmp (by rfl))) (by first | rfl | (simp only [go_sem, Nat.reduceAdd, Nat.reduceMul, reduceIte, Nat.reduceEqDiff, Nat.reduceLeDiff, Int.reduceToNat, Int.reducePow, Int.reduceBEq, Int.reduceBNe, Int.reduceLT, Int.reduceLE, decide_true, decide_false])) ?_)
  rfl

theorem idxI_pc (xs : List Int) (n : Int) : PCall Try.prog 80 [ints xs, .int n] (fun r => r = .int (idxF (fun y => decide (y = n)) xs)) := by
  (refine enterS Try.func80 Try.ntmps80 ?_)
  (refine aw_bound (i := 0) rfl (fun hb => ?_); (try simp only [List.length_map] at hb))
  (repeat' (first | (refine hK _ ?_; clear hK K) | (refine aw_seq (fun K hK => ?_)) | (refine gR ?_; refine regS ?_) | (refine stk_op (fun K hK => ?_); (first | (refine aop_pv (pv_eql (by rfl) (by rfl)) ?_) | (refine aop_pv (pv_eqlB (by rfl) (by rfl)) ?_) | (refine aop_pv (pv_eqlA (by rfl) (by rfl) (by kernel_rfl)) ?_))) | (refine gE ?_; (first | (refine exN ?_) | (refine exS (fun _ => ?_)))) | (refine gQ ?_; (first | (refine condT ?_) | (refine condF ?_) | (refine condS (fun hc => ?_) (fun hc => ?_) <;> (try (first | contradiction | (exfalso; omega)))))) | (refine gW ?_; refine wopsS ?_) | (refine aw_block ?_) | (refine gX ?_; refine exitS ?_) | (refine gT ?_; refine retS ?_) | (refine gS ?_; refine skipS ?_) | (apply_assumption (exfalso := false) (symm := false))))
  refine aw_loop_at [4, 5, 8, 9, 10, 11, 12, 13, 14, 15, 16, 17, 18] (fun k : Nat => k ≤ xs.length ∧ ∀ i (hi : i < xs.length), i < k → decide (xs[i] = n) = false) (fun k => xs.length - k) (fun k => [(8, .int k)]) (fun _ => []) 0 ⟨by omega, by omega⟩ ?_ ?_
  · (refine atS ?_)
    (exact weakS)
  · rintro k ⟨hk, hn⟩ K hK
    (refine atS ?_)
    by_cases hlt : k < xs.length
    · (repeat' (first | (refine hK _ ?_; clear hK K) | (refine aw_seq (fun K hK => ?_)) | (refine gR ?_; refine regS ?_) | (refine stk_op (fun K hK => ?_); (first | (refine aop_pv (pv_eql (by rfl) (by rfl)) ?_) | (refine aop_pv (pv_eqlB (by rfl) (by rfl)) ?_) | (refine aop_pv (pv_eqlA (by rfl) (by rfl) (by kernel_rfl)) ?_))) | (refine gE ?_; (first | (refine exN ?_) | (refine exS (fun _ => ?_)))) | (refine gQ ?_; (first | (refine condT ?_) | (refine condF ?_) | (refine condS (fun hc => ?_) (fun hc => ?_) <;> (try (first | contradiction | (exfalso; omega)))))) | (refine gW ?_; refine wopsS ?_) | (refine aw_block ?_) | (refine gX ?_; refine exitS ?_) | (refine gT ?_; refine retS ?_) | (refine gS ?_; refine skipS ?_) | (apply_assumption (exfalso := false) (symm := false))))
      · (refine fin_le (Le.refl _) (rv_one (rv1_tmp (by rfl))) (by first | rfl | (simp only [go_sem, Nat.reduceAdd, Nat.reduceMul, reduceIte, Nat.reduceEqDiff, Nat.reduceLeDiff, Int.reduceToNat, Int.reducePow, Int.reduceBEq, Int.reduceBNe, Int.reduceLT, Int.reduceLE, decide_true, decide_false])) ?_)
        rw [idxF_hit hlt (by simp; omega) hn]
      · refine ⟨k + 1, ⟨by omega, upto_step hn fun _ => by simp; omega⟩, by omega, ?_⟩
        (refine atS ?_)
        (exact weakS)
    · (repeat' (first | (refine hK _ ?_; clear hK K) | (refine aw_seq (fun K hK => ?_)) | (refine gR ?_; refine regS ?_) | (refine stk_op (fun K hK => ?_); (first | (refine aop_pv (pv_eql (by rfl) (by rfl)) ?_) | (refine aop_pv (pv_eqlB (by rfl) (by rfl)) ?_) | (refine aop_pv (pv_eqlA (by rfl) (by rfl) (by kernel_rfl)) ?_))) | (refine gE ?_; (first | (refine exN ?_) | (refine exS (fun _ => ?_)))) | (refine gQ ?_; (first | (refine condT ?_) | (refine condF ?_) | (refine condS (fun hc => ?_) (fun hc => ?_) <;> (try (first | contradiction | (exfalso; omega)))))) | (refine gW ?_; refine wopsS ?_) | (refine aw_block ?_) | (refine gX ?_; refine exitS ?_) | (refine gT ?_; refine retS ?_) | (refine gS ?_; refine skipS ?_) | (apply_assumption (exfalso := false) (symm := false))))
      (refine fin_le (Le.refl _) (rv_one (rv1_tmp (by rfl))) (by first | rfl | (simp only [go_sem, Nat.reduceAdd, Nat.reduceMul, reduceIte, Nat.reduceEqDiff, Nat.reduceLeDiff, Int.reduceToNat, Int.reducePow, Int.reduceBEq, Int.reduceBNe, Int.reduceLT, Int.reduceLE, decide_true, decide_false])) ?_)
      rw [idxF_none fun i hi => hn i hi (by omega)]

theorem idxI_has (xs : List Int) (n : Int) : decide (0 ≤ idxF (fun y => decide (y = n)) xs) = hasB xs n := by
  rw [idxF_any, Bool.eq_iff_iff, List.any_eq_true, hasB_t]
  simp
theorem hasI_pc (xs : List Int) (n : Int) : PCall Try.prog 70 [ints xs, .int n] (fun r => r = .bool (hasB xs n)) := by
  rw [← idxI_has]
  (refine enterS Try.func70 Try.ntmps70 ?_)
  (repeat' (first | (refine hK _ ?_; clear hK K) | (refine aw_seq (fun K hK => ?_)) | (refine gR ?_; refine regS ?_) | (refine gC 80 ?_; refine callS (idxI_pc _ _) ?_) | (refine gE ?_; (first | (refine exN ?_) | (refine exS (fun _ => ?_)))) | (refine gQ ?_; (first | (refine condT ?_) | (refine condF ?_) | (refine condS (fun hc => ?_) (fun hc => ?_) <;> (try (first | contradiction | (exfalso; omega)))))) | (refine gW ?_; refine wopsS ?_) | (refine aw_block ?_) | (refine gX ?_; refine exitS ?_) | (refine gT ?_; refine retS ?_) | (refine gS ?_; refine skipS ?_) | (apply_assumption (exfalso := false) (symm := false))))
  (refine fin_le (Le.refl _) (rv_one (rv1_tmp (by rfl))) (by first | rfl | (simp only [go_sem, Nat.reduceAdd, Nat.reduceMul, reduceIte, Nat.reduceEqDiff, Nat.reduceLeDiff, Int.reduceToNat, Int.reducePow, Int.reduceBEq, Int.reduceBNe, Int.reduceLT, Int.reduceLE, decide_true, decide_false])) ?_)
  rfl

theorem all_pc (t : Task) (hw : WfT t) (h6 : t.facts ≤ 6) : PCall Try.prog 38 [t.av] (fun r => r = .isl 1 24 ((symL t).map ints)) := by
  obtain ⟨n, hn⟩ : ∃ n : Nat, t.facts = n := ⟨t.facts.toNat, (wf_nat hw).symm⟩
  have hn6 : n ≤ 6 := by omega
  have hsy : symL t = (permsF n n []).filter (symB t) := by unfold symL; rw [hn, Int.toNat_natCast]
  rw [hsy]
  (refine enterS Try.func38 Try.ntmps38 ?_)
  (repeat' (first | (refine hK _ ?_; clear hK K) | (refine aw_seq (fun K hK => ?_)) | (refine gRx 1 (by rfl) ?_; refine regS ?_) | (refine gC 55 ?_; refine callS (permutations_pc _) ?_) | (refine stk_op (fun K hK => ?_); (first | (refine aop_pv (pv_fieldAddrF (by rfl) (by rfl) (by first | decide | (simp; done) | (simp; omega))) ?_) | (refine aop_pv (pv_fieldAddrIF (by rfl) (by rfl) (by first | decide | (simp; done) | (simp; omega))) ?_) | (refine appendS ?_) | (refine virtS 18 21 1 24 22 ?_; refine appendS ?_))) | (refine gE ?_; (first | (refine exN ?_) | (refine exS (fun _ => ?_)))) | (refine gQ ?_; (first | (refine condT ?_) | (refine condF ?_) | (refine condS (fun hc => ?_) (fun hc => ?_) <;> (try (first | contradiction | (exfalso; omega)))))) | (refine gW ?_; refine wopsS ?_) | (refine aw_block ?_) | (refine gX ?_; refine exitS ?_) | (refine gT ?_; refine retS ?_) | (refine gS ?_; refine skipS ?_) | (apply_assumption (exfalso := false) (symm := false))))
  refine aw_region ?_
  refine aops_cons rfl (fun K1 hK1 => ?_)
  refine aop_alloc (d := 3) 300 (by rfl) ?_
  simp only [go_sem, Nat.reduceAdd, Nat.reduceMul, reduceIte, Nat.reduceEqDiff, Nat.reduceLeDiff, Int.reduceToNat, Int.reducePow, Int.reduceBEq, Int.reduceBNe, Int.reduceLT, Int.reduceLE, decide_true, decide_false]; refine hK1 _ ?_; clear hK1 K1
  refine aops_nil ?_
  (repeat' (first | (refine hK _ ?_; clear hK K) | (refine aw_seq (fun K hK => ?_)) | (refine gR ?_; refine regS ?_) | (refine gC 55 ?_; refine callS (permutations_pc _) ?_) | (refine stk_op (fun K hK => ?_); (first | (refine aop_pv (pv_fieldAddrF (by rfl) (by rfl) (by first | decide | (simp; done) | (simp; omega))) ?_) | (refine aop_pv (pv_fieldAddrIF (by rfl) (by rfl) (by first | decide | (simp; done) | (simp; omega))) ?_) | (refine appendS ?_) | (refine virtS 18 21 1 24 22 ?_; refine appendS ?_))) | (refine gE ?_; (first | (refine exN ?_) | (refine exS (fun _ => ?_)))) | (refine gQ ?_; (first | (refine condT ?_) | (refine condF ?_) | (refine condS (fun hc => ?_) (fun hc => ?_) <;> (try (first | contradiction | (exfalso; omega)))))) | (refine gW ?_; refine wopsS ?_) | (refine aw_block ?_) | (refine gX ?_; refine exitS ?_) | (refine gT ?_; refine retS ?_) | (refine gS ?_; refine skipS ?_) | (apply_assumption (exfalso := false) (symm := false))))
  rw [hn]
  (refine aw_le (le_virtH 300 0 301 1 24 22 (by rfl) (by rfl) (by first | rfl | (simp only [go_sem, Nat.reduceAdd, Nat.reduceMul, reduceIte, Nat.reduceEqDiff, Nat.reduceLeDiff, Int.reduceToNat, Int.reducePow, Int.reduceBEq, Int.reduceBNe, Int.reduceLT, Int.reduceLE, decide_true, decide_false]; done) | (simp only [go_sem, Nat.reduceAdd, Nat.reduceMul, reduceIte, Nat.reduceEqDiff, Nat.reduceLeDiff, Int.reduceToNat, Int.reducePow, Int.reduceBEq, Int.reduceBNe, Int.reduceLT, Int.reduceLE, decide_true, decide_false]; rfl) | (simp [St.free, mentHp, AV.mentL, AV.ment]))) ?_; simp only [go_sem, Nat.reduceAdd, Nat.reduceMul, reduceIte, Nat.reduceEqDiff, Nat.reduceLeDiff, Int.reduceToNat, Int.reducePow, Int.reduceBEq, Int.reduceBNe, Int.reduceLT, Int.reduceLE, decide_true, decide_false])
  have hK9 := hK
  refine aw_rangeFy 1000000001 (news := []) (by rfl) (by decide) (by first | rfl | (simp [AV.mentL, AV.ment]; done)) (by first | rfl | (simp [mentHp, AV.mentL, AV.ment]; done)) (by first | rfl | (simp [AV.mentL, AV.ment]; done)) (by rfl) (fun id h => by cases h) (fun y hyp hya hyb => ?_) (fun _ _ h => h)
  (refine enterH Try.func68 Try.ntmps68 ?_)
  (repeat' (first | (refine hK _ ?_; clear hK K) | (refine aw_seq (fun K hK => ?_)) | (refine gRx 2 (by rfl) ?_; refine regS ?_) | (refine stk_op (fun K hK => ?_); refine aop_le (.trans (le_sealPtr 1 rfl rfl rfl) (.trans (le_sealPtr 2 rfl rfl rfl) (le_sealPtr 3 rfl rfl rfl))) ?_; simp only [go_sem, Nat.reduceAdd, Nat.reduceMul, reduceIte, Nat.reduceEqDiff, Nat.reduceLeDiff, Int.reduceToNat, Int.reducePow, Int.reduceBEq, Int.reduceBNe, Int.reduceLT, Int.reduceLE, decide_true, decide_false]; refine aop_pv pv_makeFunc ?_) | (refine gE ?_; (first | (refine exN ?_) | (refine exS (fun _ => ?_)))) | (refine gQ ?_; (first | (refine condT ?_) | (refine condF ?_) | (refine condS (fun hc => ?_) (fun hc => ?_) <;> (try (first | contradiction | (exfalso; omega)))))) | (refine gW ?_; refine wopsS ?_) | (refine aw_block ?_) | (refine gX ?_; refine exitS ?_) | (refine gT ?_; refine retS ?_) | (refine gS ?_; refine skipS ?_) | (apply_assumption (exfalso := false) (symm := false))))
  have key : ∀ (m : Nat) (h : List Int) (L : List (List Int)), h.length + m = n → L.length + (permsF n m h).length ≤ 1000000 →
      HCall Try.prog 69 [ints h, .iptr [.int (n : Int)], .ptr 2 0, .ptr 3 0]
        [(1, ⟨25, [.int (n : Int), ints t.init, ints t.goal, opsA t.ops], true⟩), (300, ⟨39, [.sl 1 24 301 0 L.length], true⟩), (301, ⟨22, L.map ints, false⟩),
          (1000000001, ⟨1000000001, [t.av, .ptr 1 0, .nilS, .ptr 300 0, .any, .any, .any, .ptr 1 0, .int (n : Int), .fn 68 [.iptr [.int (n : Int)]], .any, .any, .any, .any, .any, .any, .any, .any, .any, .any, .any, .any, .any], false⟩),
          (2, ⟨84, [.yl 1000000001 y], true⟩), (3, ⟨84, [.fn 69 [.iptr [.int (n : Int)], .ptr 2 0, .ptr 3 0]], true⟩)] [] [2, 3]
        (fun x hp' => x = .bool true ∧ hp' = [(1, ⟨25, [.int (n : Int), ints t.init, ints t.goal, opsA t.ops], true⟩), (300, ⟨39, [.sl 1 24 301 0 (L ++ (permsF n m h).filter (symB t)).length], true⟩), (301, ⟨22, (L ++ (permsF n m h).filter (symB t)).map ints, false⟩),
          (1000000001, ⟨1000000001, [t.av, .ptr 1 0, .nilS, .ptr 300 0, .any, .any, .any, .ptr 1 0, .int (n : Int), .fn 68 [.iptr [.int (n : Int)]], .any, .any, .any, .any, .any, .any, .any, .any, .any, .any, .any, .any, .any], false⟩),
          (2, ⟨84, [.yl 1000000001 y], true⟩), (3, ⟨84, [.fn 69 [.iptr [.int (n : Int)], .ptr 2 0, .ptr 3 0]], true⟩)]) := by
    intro m
    induction m with
    | zero =>
      intro h L hl hb
      have hln : h.length = n := by omega
      have hf1 : permsF n 0 h = [h] := rfl
      rw [hf1] at hb ⊢
      have hop := ops_s (v := extG t h) hw (by rw [hln, hn]) rfl
      rw [show t.av = AV.agg [.int (n : Int), ints t.init, ints t.goal, opsA t.ops] by rw [← hn]] at hop
      have hLb : (L.length + 1) * 24 ≤ 140737488355328 := by simp at hb; omega
      cases hx : extG t h with
      | none =>
        rw [hx] at hop
        unfold extV at hop
        have hfl : [h].filter (symB t) = [] := by
          rw [List.filter_cons_of_neg (by unfold symB; rw [hx]; simp)]; simp
        rw [hfl, List.append_nil]
        
        (refine enterH Try.func69 Try.ntmps69 ?_)
        (repeat' (first | (refine hK _ ?_; clear hK K) | (refine aw_seq (fun K hK => ?_)) | (refine gRx 2 (by rfl) ?_; refine regS ?_) | (refine gD 6 ?_; refine drS (.it 0 0 (.it 1 0 (.it 2 1 (.it 3 0 (.it 4 0 (.it 6 0 (.it 8 0 (.it 5 2 (.it 7 2 (.it 9 2 (.it 10 3 (.it 11 2 (.it 12 2 (.it 13 1 .nil)))))))))))))) [0, 1, 3, 4, 5, 6, 7, 8, 9, 11, 12] ?_) | (refine gCd 70 ?_; refine callD (hasI_pc _ _) ?_) | (refine stk_op (fun K hK => ?_); (first | (refine aop_pv (pv_eql (by rfl) (by rfl)) ?_) | (refine aop_pv (pv_eqlB (by rfl) (by rfl)) ?_) | (refine aop_pv (pv_eqlA (by rfl) (by rfl) (by kernel_rfl)) ?_))) | (refine adx_op (fun K hK => ?_); refine aopx_buildSlice (d := 27) (by exact ⟨by decide, by decide, by decide⟩) (by rfl) (by rfl) (by rfl) (by rfl) ?_) | (refine And.intro ?_ ?_) | (refine gDx ?_; refine adxS ?_) | (refine ado_op (fun K hK => ?_); (first | (refine appendS ?_) | (refine virtS 25 28 1 8 3 ?_; refine appendS ?_))) | (refine gE ?_; (first | (refine exN ?_) | (refine exS (fun _ => ?_)))) | (refine gGd ?_; refine guardD (fun hc => ?_) (fun hc => ?_) <;> (try (first | contradiction | (exfalso; omega)))) | (refine gQ ?_; (first | (refine condT ?_) | (refine condF ?_) | (refine condS (fun hc => ?_) (fun hc => ?_) <;> (try (first | contradiction | (exfalso; omega)))))) | (refine gWd ?_; refine wdrS ?_) | (refine gW ?_; refine wopsS ?_) | (refine aw_block ?_) | (refine gX ?_; refine exitS ?_) | (refine gT ?_; refine retS ?_) | (refine gS ?_; refine skipS ?_) | (apply_assumption (exfalso := false) (symm := false))))
        refine aw_regionI ?_
        refine aopsI_cons rfl rfl (fun K1 hK1 => ?_)
        refine aop_pv (pv_load (by rfl) (by rfl) (by rfl) (by rfl)) ?_
        simp only [go_sem, Nat.reduceAdd, Nat.reduceMul, reduceIte, Nat.reduceEqDiff, Nat.reduceLeDiff, Int.reduceToNat, Int.reducePow, Int.reduceBEq, Int.reduceBNe, Int.reduceLT, Int.reduceLE, decide_true, decide_false]; refine hK1 _ ?_; clear hK1 K1
        refine aopsI_cons rfl rfl (fun K1 hK1 => ?_)
        refine aop_pv pv_move ?_
        simp only [go_sem, Nat.reduceAdd, Nat.reduceMul, reduceIte, Nat.reduceEqDiff, Nat.reduceLeDiff, Int.reduceToNat, Int.reducePow, Int.reduceBEq, Int.reduceBNe, Int.reduceLT, Int.reduceLE, decide_true, decide_false]; refine hK1 _ ?_; clear hK1 K1
        refine aopsI_yieldy 1000000002 hyp hya hyb (by rfl) (by rfl) (by rfl) (by rfl) (by rfl) (by decide) (by decide) (by decide) (by rfl) (by first | rfl | (simp only [go_sem, Nat.reduceAdd, Nat.reduceMul, reduceIte, Nat.reduceEqDiff, Nat.reduceLeDiff, Int.reduceToNat, Int.reducePow, Int.reduceBEq, Int.reduceBNe, Int.reduceLT, Int.reduceLE, decide_true, decide_false, Nat.reduceBEq, Bool.or_self, Bool.or_true, Bool.true_or, Bool.or_false, Bool.false_or, Bool.and_true, Bool.true_and, Bool.and_false, Bool.false_and, Bool.and_self, Bool.not_true, Bool.not_false, List.cons_append, List.nil_append, List.append_nil, if_true, if_false, Bool.false_eq_true, keysH]; done)) (by rfl) (by rfl) ?_
        simp only [go_sem, Nat.reduceAdd, Nat.reduceMul, reduceIte, Nat.reduceEqDiff, Nat.reduceLeDiff, Int.reduceToNat, Int.reducePow, Int.reduceBEq, Int.reduceBNe, Int.reduceLT, Int.reduceLE, decide_true, decide_false]
        
        refine gR ?_; refine regS ?_
        refine ⟨_, _, Le.refl _, by rfl, by rfl, ?_⟩
        simp only [go_sem, Nat.reduceAdd, Nat.reduceMul, reduceIte, Nat.reduceEqDiff, Nat.reduceLeDiff, Int.reduceToNat, Int.reducePow, Int.reduceBEq, Int.reduceBNe, Int.reduceLT, Int.reduceLE, decide_true, decide_false]
        (repeat' (first | (refine hK _ ?_; clear hK K) | (refine aw_seq (fun K hK => ?_)) | (refine gR ?_; refine regS ?_) | (refine gC 55 ?_; refine callS (permutations_pc _) ?_) | (refine gC 34 ?_; refine callS (hop) ?_) | (refine stk_op (fun K hK => ?_); (first | (refine aop_pv (pv_fieldAddrF (by rfl) (by rfl) (by first | decide | (simp; done) | (simp; omega))) ?_) | (refine aop_pv (pv_fieldAddrIF (by rfl) (by rfl) (by first | decide | (simp; done) | (simp; omega))) ?_) | (refine appendS ?_) | (refine virtS 18 21 1 24 22 ?_; refine appendS ?_))) | (refine gE ?_; (first | (refine exN ?_) | (refine exS (fun _ => ?_)))) | (refine gQ ?_; (first | (refine condT ?_) | (refine condF ?_) | (refine condS (fun hc => ?_) (fun hc => ?_) <;> (try (first | contradiction | (exfalso; omega)))))) | (refine gW ?_; refine wopsS ?_) | (refine aw_block ?_) | (refine gX ?_; refine exitS ?_) | (refine gT ?_; refine retS ?_) | (refine gS ?_; refine skipS ?_) | (apply_assumption (exfalso := false) (symm := false))))
        
        refine ⟨_, _, _, 1000000001, Le.refl _, by rfl, by rfl, by rfl, rfl, ?_⟩
        simp only [go_sem, Nat.reduceAdd, Nat.reduceMul, reduceIte, Nat.reduceEqDiff, Nat.reduceLeDiff, Int.reduceToNat, Int.reducePow, Int.reduceBEq, Int.reduceBNe, Int.reduceLT, Int.reduceLE, decide_true, decide_false]
        refine aopsI_cons rfl rfl (fun K1 hK1 => ?_)
        refine aop_pv pv_assign ?_
        simp only [go_sem, Nat.reduceAdd, Nat.reduceMul, reduceIte, Nat.reduceEqDiff, Nat.reduceLeDiff, Int.reduceToNat, Int.reducePow, Int.reduceBEq, Int.reduceBNe, Int.reduceLT, Int.reduceLE, decide_true, decide_false]; refine hK1 _ ?_; clear hK1 K1
        refine aopsI_nil ?_
        (repeat' (first | (refine hK _ ?_; clear hK K) | (refine aw_seq (fun K hK => ?_)) | (refine gR ?_; refine regS ?_) | (refine gD 6 ?_; refine drS (.it 0 0 (.it 1 0 (.it 2 1 (.it 3 0 (.it 4 0 (.it 6 0 (.it 8 0 (.it 5 2 (.it 7 2 (.it 9 2 (.it 10 3 (.it 11 2 (.it 12 2 (.it 13 1 .nil)))))))))))))) [0, 1, 3, 4, 5, 6, 7, 8, 9, 11, 12] ?_) | (refine gCd 70 ?_; refine callD (hasI_pc _ _) ?_) | (refine stk_op (fun K hK => ?_); (first | (refine aop_pv (pv_eql (by rfl) (by rfl)) ?_) | (refine aop_pv (pv_eqlB (by rfl) (by rfl)) ?_) | (refine aop_pv (pv_eqlA (by rfl) (by rfl) (by kernel_rfl)) ?_))) | (refine adx_op (fun K hK => ?_); refine aopx_buildSlice (d := 27) (by exact ⟨by decide, by decide, by decide⟩) (by rfl) (by rfl) (by rfl) (by rfl) ?_) | (refine And.intro ?_ ?_) | (refine gDx ?_; refine adxS ?_) | (refine ado_op (fun K hK => ?_); (first | (refine appendS ?_) | (refine virtS 25 28 1 8 3 ?_; refine appendS ?_))) | (refine gE ?_; (first | (refine exN ?_) | (refine exS (fun _ => ?_)))) | (refine gGd ?_; refine guardD (fun hc => ?_) (fun hc => ?_) <;> (try (first | contradiction | (exfalso; omega)))) | (refine gQ ?_; (first | (refine condT ?_) | (refine condF ?_) | (refine condS (fun hc => ?_) (fun hc => ?_) <;> (try (first | contradiction | (exfalso; omega)))))) | (refine gWd ?_; refine wdrS ?_) | (refine gW ?_; refine wopsS ?_) | (refine aw_block ?_) | (refine gX ?_; refine exitS ?_) | (refine gT ?_; refine retS ?_) | (refine gS ?_; refine skipS ?_) | (apply_assumption (exfalso := false) (symm := false))))
        refine hfin_del (rv_one (rv1_tmp (by rfl))) (by first | exact .inl rfl | exact .inr rfl) (by rfl) (by first | rfl | (simp only [go_sem, Nat.reduceAdd, Nat.reduceMul, reduceIte, Nat.reduceEqDiff, Nat.reduceLeDiff, Int.reduceToNat, Int.reducePow, Int.reduceBEq, Int.reduceBNe, Int.reduceLT, Int.reduceLE, decide_true, decide_false, Nat.reduceBEq, Bool.or_self, Bool.or_true, Bool.true_or, Bool.or_false, Bool.false_or, Bool.and_true, Bool.true_and, Bool.and_false, Bool.false_and, Bool.and_self, Bool.not_true, Bool.not_false, List.cons_append, List.nil_append, List.append_nil, if_true, if_false, Bool.false_eq_true, keysH]; done)) (by rfl) ⟨rfl, by rfl⟩
      | some l =>
        rw [hx] at hop
        unfold extV at hop
        generalize l.map Int.ofNat = q at hop
        have hfl : [h].filter (symB t) = [h] := by
          rw [List.filter_cons_of_pos (by unfold symB; rw [hx]; rfl)]; rfl
        rw [hfl]
        
        
        (refine enterH Try.func69 Try.ntmps69 ?_)
        (repeat' (first | (refine hK _ ?_; clear hK K) | (refine aw_seq (fun K hK => ?_)) | (refine gRx 2 (by rfl) ?_; refine regS ?_) | (refine gD 6 ?_; refine drS (.it 0 0 (.it 1 0 (.it 2 1 (.it 3 0 (.it 4 0 (.it 6 0 (.it 8 0 (.it 5 2 (.it 7 2 (.it 9 2 (.it 10 3 (.it 11 2 (.it 12 2 (.it 13 1 .nil)))))))))))))) [0, 1, 3, 4, 5, 6, 7, 8, 9, 11, 12] ?_) | (refine gCd 70 ?_; refine callD (hasI_pc _ _) ?_) | (refine stk_op (fun K hK => ?_); (first | (refine aop_pv (pv_eql (by rfl) (by rfl)) ?_) | (refine aop_pv (pv_eqlB (by rfl) (by rfl)) ?_) | (refine aop_pv (pv_eqlA (by rfl) (by rfl) (by kernel_rfl)) ?_))) | (refine adx_op (fun K hK => ?_); refine aopx_buildSlice (d := 27) (by exact ⟨by decide, by decide, by decide⟩) (by rfl) (by rfl) (by rfl) (by rfl) ?_) | (refine And.intro ?_ ?_) | (refine gDx ?_; refine adxS ?_) | (refine ado_op (fun K hK => ?_); (first | (refine appendS ?_) | (refine virtS 25 28 1 8 3 ?_; refine appendS ?_))) | (refine gE ?_; (first | (refine exN ?_) | (refine exS (fun _ => ?_)))) | (refine gGd ?_; refine guardD (fun hc => ?_) (fun hc => ?_) <;> (try (first | contradiction | (exfalso; omega)))) | (refine gQ ?_; (first | (refine condT ?_) | (refine condF ?_) | (refine condS (fun hc => ?_) (fun hc => ?_) <;> (try (first | contradiction | (exfalso; omega)))))) | (refine gWd ?_; refine wdrS ?_) | (refine gW ?_; refine wopsS ?_) | (refine aw_block ?_) | (refine gX ?_; refine exitS ?_) | (refine gT ?_; refine retS ?_) | (refine gS ?_; refine skipS ?_) | (apply_assumption (exfalso := false) (symm := false))))
        refine aw_regionI ?_
        refine aopsI_cons rfl rfl (fun K1 hK1 => ?_)
        refine aop_pv (pv_load (by rfl) (by rfl) (by rfl) (by rfl)) ?_
        simp only [go_sem, Nat.reduceAdd, Nat.reduceMul, reduceIte, Nat.reduceEqDiff, Nat.reduceLeDiff, Int.reduceToNat, Int.reducePow, Int.reduceBEq, Int.reduceBNe, Int.reduceLT, Int.reduceLE, decide_true, decide_false]; refine hK1 _ ?_; clear hK1 K1
        refine aopsI_cons rfl rfl (fun K1 hK1 => ?_)
        refine aop_pv pv_move ?_
        simp only [go_sem, Nat.reduceAdd, Nat.reduceMul, reduceIte, Nat.reduceEqDiff, Nat.reduceLeDiff, Int.reduceToNat, Int.reducePow, Int.reduceBEq, Int.reduceBNe, Int.reduceLT, Int.reduceLE, decide_true, decide_false]; refine hK1 _ ?_; clear hK1 K1
        refine aopsI_yieldy 1000000002 hyp hya hyb (by rfl) (by rfl) (by rfl) (by rfl) (by rfl) (by decide) (by decide) (by decide) (by rfl) (by first | rfl | (simp only [go_sem, Nat.reduceAdd, Nat.reduceMul, reduceIte, Nat.reduceEqDiff, Nat.reduceLeDiff, Int.reduceToNat, Int.reducePow, Int.reduceBEq, Int.reduceBNe, Int.reduceLT, Int.reduceLE, decide_true, decide_false, Nat.reduceBEq, Bool.or_self, Bool.or_true, Bool.true_or, Bool.or_false, Bool.false_or, Bool.and_true, Bool.true_and, Bool.and_false, Bool.false_and, Bool.and_self, Bool.not_true, Bool.not_false, List.cons_append, List.nil_append, List.append_nil, if_true, if_false, Bool.false_eq_true, keysH]; done)) (by rfl) (by rfl) ?_
        simp only [go_sem, Nat.reduceAdd, Nat.reduceMul, reduceIte, Nat.reduceEqDiff, Nat.reduceLeDiff, Int.reduceToNat, Int.reducePow, Int.reduceBEq, Int.reduceBNe, Int.reduceLT, Int.reduceLE, decide_true, decide_false]
        
        refine gR ?_; refine regS ?_
        refine ⟨_, _, Le.refl _, by rfl, by rfl, ?_⟩
        simp only [go_sem, Nat.reduceAdd, Nat.reduceMul, reduceIte, Nat.reduceEqDiff, Nat.reduceLeDiff, Int.reduceToNat, Int.reducePow, Int.reduceBEq, Int.reduceBNe, Int.reduceLT, Int.reduceLE, decide_true, decide_false]
        (repeat' (first | (refine hK _ ?_; clear hK K) | (refine aw_seq (fun K hK => ?_)) | (refine gR ?_; refine regS ?_) | (refine gC 55 ?_; refine callS (permutations_pc _) ?_) | (refine gC 34 ?_; refine callS (hop) ?_) | (refine stk_op (fun K hK => ?_); (first | (refine aop_pv (pv_fieldAddrF (by rfl) (by rfl) (by first | decide | (simp; done) | (simp; omega))) ?_) | (refine aop_pv (pv_fieldAddrIF (by rfl) (by rfl) (by first | decide | (simp; done) | (simp; omega))) ?_) | (refine appendS ?_) | (refine virtS 18 21 1 24 22 ?_; refine appendS ?_))) | (refine gE ?_; (first | (refine exN ?_) | (refine exS (fun _ => ?_)))) | (refine gQ ?_; (first | (refine condT ?_) | (refine condF ?_) | (refine condS (fun hc => ?_) (fun hc => ?_) <;> (try (first | contradiction | (exfalso; omega)))))) | (refine gW ?_; refine wopsS ?_) | (refine aw_block ?_) | (refine gX ?_; refine exitS ?_) | (refine gT ?_; refine retS ?_) | (refine gS ?_; refine skipS ?_) | (apply_assumption (exfalso := false) (symm := false))))
        
        refine ⟨_, _, _, 1000000001, Le.refl _, by rfl, by rfl, by rfl, rfl, ?_⟩
        simp only [go_sem, Nat.reduceAdd, Nat.reduceMul, reduceIte, Nat.reduceEqDiff, Nat.reduceLeDiff, Int.reduceToNat, Int.reducePow, Int.reduceBEq, Int.reduceBNe, Int.reduceLT, Int.reduceLE, decide_true, decide_false]
        refine aopsI_cons rfl rfl (fun K1 hK1 => ?_)
        refine aop_pv pv_assign ?_
        simp only [go_sem, Nat.reduceAdd, Nat.reduceMul, reduceIte, Nat.reduceEqDiff, Nat.reduceLeDiff, Int.reduceToNat, Int.reducePow, Int.reduceBEq, Int.reduceBNe, Int.reduceLT, Int.reduceLE, decide_true, decide_false]; refine hK1 _ ?_; clear hK1 K1
        refine aopsI_nil ?_
        (repeat' (first | (refine hK _ ?_; clear hK K) | (refine aw_seq (fun K hK => ?_)) | (refine gR ?_; refine regS ?_) | (refine gD 6 ?_; refine drS (.it 0 0 (.it 1 0 (.it 2 1 (.it 3 0 (.it 4 0 (.it 6 0 (.it 8 0 (.it 5 2 (.it 7 2 (.it 9 2 (.it 10 3 (.it 11 2 (.it 12 2 (.it 13 1 .nil)))))))))))))) [0, 1, 3, 4, 5, 6, 7, 8, 9, 11, 12] ?_) | (refine gCd 70 ?_; refine callD (hasI_pc _ _) ?_) | (refine stk_op (fun K hK => ?_); (first | (refine aop_pv (pv_eql (by rfl) (by rfl)) ?_) | (refine aop_pv (pv_eqlB (by rfl) (by rfl)) ?_) | (refine aop_pv (pv_eqlA (by rfl) (by rfl) (by kernel_rfl)) ?_))) | (refine adx_op (fun K hK => ?_); refine aopx_buildSlice (d := 27) (by exact ⟨by decide, by decide, by decide⟩) (by rfl) (by rfl) (by rfl) (by rfl) ?_) | (refine And.intro ?_ ?_) | (refine gDx ?_; refine adxS ?_) | (refine ado_op (fun K hK => ?_); (first | (refine appendS ?_) | (refine virtS 25 28 1 8 3 ?_; refine appendS ?_))) | (refine gE ?_; (first | (refine exN ?_) | (refine exS (fun _ => ?_)))) | (refine gGd ?_; refine guardD (fun hc => ?_) (fun hc => ?_) <;> (try (first | contradiction | (exfalso; omega)))) | (refine gQ ?_; (first | (refine condT ?_) | (refine condF ?_) | (refine condS (fun hc => ?_) (fun hc => ?_) <;> (try (first | contradiction | (exfalso; omega)))))) | (refine gWd ?_; refine wdrS ?_) | (refine gW ?_; refine wopsS ?_) | (refine aw_block ?_) | (refine gX ?_; refine exitS ?_) | (refine gT ?_; refine retS ?_) | (refine gS ?_; refine skipS ?_) | (apply_assumption (exfalso := false) (symm := false))))
        (refine hfin_eq (Le.refl _) (rv_one (rv1_tmp (by rfl))) (by (repeat refine hsub_has (by rfl) ?_); exact hsub_nil _) (by rfl) (by first | rfl | (simp only [go_sem, Nat.reduceAdd, Nat.reduceMul, reduceIte, Nat.reduceEqDiff, Nat.reduceLeDiff, Int.reduceToNat, Int.reducePow, Int.reduceBEq, Int.reduceBNe, Int.reduceLT, Int.reduceLE, decide_true, decide_false, Nat.reduceBEq, Bool.or_self, Bool.or_true, Bool.true_or, Bool.or_false, Bool.false_or, Bool.and_true, Bool.true_and, Bool.and_false, Bool.false_and, Bool.and_self, Bool.not_true, Bool.not_false, List.cons_append, List.nil_append, List.append_nil, if_true, if_false, Bool.false_eq_true, keysH]; done)) ⟨rfl, rfl⟩)
    | succ m ih =>
      intro h L hl hb
      have hln : ¬ (h.length : Int) = (n : Int) := by omega
      (refine enterH Try.func69 Try.ntmps69 ?_)
      (repeat' (first | (refine hK _ ?_; clear hK K) | (refine aw_seq (fun K hK => ?_)) | (refine gR ?_; refine regS ?_) | (refine gD 6 ?_; refine drS (.it 0 0 (.it 1 0 (.it 2 1 (.it 3 0 (.it 4 0 (.it 6 0 (.it 8 0 (.it 5 2 (.it 7 2 (.it 9 2 (.it 10 3 (.it 11 2 (.it 12 2 (.it 13 1 .nil)))))))))))))) [0, 1, 3, 4, 5, 6, 7, 8, 9, 11, 12] ?_) | (refine gCd 70 ?_; refine callD (hasI_pc _ _) ?_) | (refine stk_op (fun K hK => ?_); (first | (refine aop_pv (pv_eql (by rfl) (by rfl)) ?_) | (refine aop_pv (pv_eqlB (by rfl) (by rfl)) ?_) | (refine aop_pv (pv_eqlA (by rfl) (by rfl) (by kernel_rfl)) ?_))) | (refine adx_op (fun K hK => ?_); refine aopx_buildSlice (d := 27) (by exact ⟨by decide, by decide, by decide⟩) (by rfl) (by rfl) (by rfl) (by rfl) ?_) | (refine And.intro ?_ ?_) | (refine gDx ?_; refine adxS ?_) | (refine ado_op (fun K hK => ?_); (first | (refine appendS ?_) | (refine virtS 25 28 1 8 3 ?_; refine appendS ?_))) | (refine gE ?_; (first | (refine exN ?_) | (refine exS (fun _ => ?_)))) | (refine gGd ?_; refine guardD (fun hc => ?_) (fun hc => ?_) <;> (try (first | contradiction | (exfalso; omega)))) | (refine gQ ?_; (first | (refine condT ?_) | (refine condF ?_) | (refine condS (fun hc => ?_) (fun hc => ?_) <;> (try (first | contradiction | (exfalso; omega)))))) | (refine gWd ?_; refine wdrS ?_) | (refine gW ?_; refine wopsS ?_) | (refine aw_block ?_) | (refine gX ?_; refine exitS ?_) | (refine gT ?_; refine retS ?_) | (refine gS ?_; refine skipS ?_) | (apply_assumption (exfalso := false) (symm := false))))
      refine aw_loop_set [5, 6, 15, 16, 17, 18, 19, 20, 21, 22, 23, 24, 25, 26, 27, 28, 29, 30, 31, 32] (fun k : Nat => k ≤ n) (fun k => n - k) (fun k => [(15, .int k)]) (fun k => [(300, ⟨39, [.sl 1 24 301 0 (L ++ (permsK n m h k).filter (symB t)).length], true⟩), (301, ⟨22, (L ++ (permsK n m h k).filter (symB t)).map ints, false⟩)]) 0 (by omega) ?_ ?_
      · rw [permsK_zero, List.filter_nil, List.append_nil]
        (refine atS ?_)
        (exact weakS)
      · rintro k hk K hK
        (refine atS ?_)
        by_cases hlt : k < n
        · cases hbk : hasB h (k : Int) with
          | true =>
            have hcon := hasI_pc h (k : Int)
            rw [hbk] at hcon
            
            
            
            (repeat' (first | (refine hK _ ?_; clear hK K) | (refine aw_seq (fun K hK => ?_)) | (refine gR ?_; refine regS ?_) | (refine gD 6 ?_; refine drS (.it 0 0 (.it 1 0 (.it 2 1 (.it 3 0 (.it 4 0 (.it 6 0 (.it 8 0 (.it 5 0 (.it 7 0 (.it 9 0 (.it 10 0 (.it 11 0 (.it 12 0 (.it 13 1 .nil)))))))))))))) [0, 1, 3, 4, 5, 6, 7, 8, 9, 10, 11, 12] ?_) | (refine gCd 70 ?_; refine callD (hcon) ?_) | (refine stk_op (fun K hK => ?_); (first | (refine aop_pv (pv_eql (by rfl) (by rfl)) ?_) | (refine aop_pv (pv_eqlB (by rfl) (by rfl)) ?_) | (refine aop_pv (pv_eqlA (by rfl) (by rfl) (by kernel_rfl)) ?_))) | (refine adx_op (fun K hK => ?_); refine aopx_buildSlice (d := 27) (by exact ⟨by decide, by decide, by decide⟩) (by rfl) (by rfl) (by rfl) (by rfl) ?_) | (refine And.intro ?_ ?_) | (refine gDx ?_; refine adxS ?_) | (refine ado_op (fun K hK => ?_); (first | (refine appendS ?_) | (refine virtS 25 28 1 8 3 ?_; refine appendS ?_))) | (refine gE ?_; (first | (refine exN ?_) | (refine exS (fun _ => ?_)))) | (refine gGd ?_; refine guardD (fun hc => ?_) (fun hc => ?_) <;> (try (first | contradiction | (exfalso; omega)))) | (refine gQ ?_; (first | (refine condT ?_) | (refine condF ?_) | (refine condS (fun hc => ?_) (fun hc => ?_) <;> (try (first | contradiction | (exfalso; omega)))))) | (refine gWd ?_; refine wdrS ?_) | (refine gW ?_; refine wopsS ?_) | (refine aw_block ?_) | (refine gX ?_; refine exitS ?_) | (refine gT ?_; refine retS ?_) | (refine gS ?_; refine skipS ?_) | (apply_assumption (exfalso := false) (symm := false))))
            
            refine ⟨k + 1, by omega, by omega, ?_⟩
            rw [permsK_no hbk]
            (refine atS ?_)
            (exact weakS)
          | false =>
            have hcon := hasI_pc h (k : Int)
            rw [hbk] at hcon
            have hpk := permsK_yes (n := n) (m := m) hbk
            have hpm := permsK_mono n m h (k := k + 1) (j := n) (by omega)
            rw [hpk, List.length_append] at hpm
            have hfl := List.length_filter_le (symB t) (permsK n m h k)
            have hb' : L.length + (permsK n m h n).length ≤ 1000000 := hb
            have ihk := ih (h ++ [(k : Int)]) (L ++ (permsK n m h k).filter (symB t)) (by rw [List.length_append, List.length_singleton]; omega) (by rw [List.length_append]; omega)
            simp only [ints, List.map_append, List.map_cons, List.map_nil, List.length_append] at ihk
            have hh8 : (h.length + 1) * 8 ≤ 140737488355328 := by omega
            (repeat' (first | (refine hK _ ?_; clear hK K) | (refine aw_seq (fun K hK => ?_)) | (refine gRx 6 (by rfl) ?_; refine regS ?_) | (refine gCd 70 ?_; refine callD (hcon) ?_) | (refine stk_op (fun K hK => ?_); (first | (refine aop_pv (pv_eql (by rfl) (by rfl)) ?_) | (refine aop_pv (pv_eqlB (by rfl) (by rfl)) ?_) | (refine aop_pv (pv_eqlA (by rfl) (by rfl) (by kernel_rfl)) ?_))) | (refine ado_op (fun K hK => ?_); (first | (refine appendS ?_) | (refine virtS 25 28 1 8 3 ?_; refine appendS ?_))) | (refine gE ?_; (first | (refine exN ?_) | (refine exS (fun _ => ?_)))) | (refine gGd ?_; refine guardD (fun hc => ?_) (fun hc => ?_) <;> (try (first | contradiction | (exfalso; omega)))) | (refine gQ ?_; (first | (refine condT ?_) | (refine condF ?_) | (refine condS (fun hc => ?_) (fun hc => ?_) <;> (try (first | contradiction | (exfalso; omega)))))) | (refine gW ?_; refine wopsS ?_) | (refine aw_block ?_) | (refine gX ?_; refine exitS ?_) | (refine gT ?_; refine retS ?_) | (refine gS ?_; refine skipS ?_) | (apply_assumption (exfalso := false) (symm := false))))
            apply aw_endE
            · refine aw_draw 14 [0, 1, 3, 4, 6, 8] rfl (by rfl) ?_
              refine aany_pv 0 (by rfl) (by kernel_rfl) pv_move (fun K1 hK1 => ?_)
              (try simp only [go_sem]); refine hK1 _ ?_; clear hK1 K1
              refine aany_pv 1 (by rfl) (by kernel_rfl) pv_move (fun K1 hK1 => ?_)
              (try simp only [go_sem]); refine hK1 _ ?_; clear hK1 K1
              refine aany_arms1 (i := 2) (by kernel_rfl) ?_
              refine armR_x (by rfl) (fun K1 hK1 => ?_)
              refine aopx_call hcon (by rfl) (fun x hx => ?_)
              obtain rfl := hx
              (try simp only [go_sem]); refine hK1 _ ?_; clear hK1 K1
              refine aany_pv 3 (by rfl) (by kernel_rfl) (pv_not (by rfl)) (fun K1 hK1 => ?_)
              (try simp only [go_sem]); refine hK1 _ ?_; clear hK1 K1
              refine aany_pv 4 (by rfl) (by kernel_rfl) pv_move (fun K1 hK1 => ?_)
              (try simp only [go_sem]); refine hK1 _ ?_; clear hK1 K1
              refine aany_pvY 6 (by rfl) (by kernel_rfl) (by rfl) (by rfl) pv_move (fun K1 hK1 => ?_)
              (try simp only [go_sem]); refine hK1 _ ?_; clear hK1 K1
              refine aany_pvY 8 (by rfl) (by kernel_rfl) (by rfl) (by rfl) pv_move (fun K1 hK1 => ?_)
              (try simp only [go_sem]); refine hK1 _ ?_; clear hK1 K1
              refine aany_arms3 (i := 5) (j := 7) (q := 9) (by kernel_rfl) ?_ ?_ ?_
              · skip
                refine armR_xY (i := 5) (by rfl) (by rfl) (by rfl) (fun K1 hK1 => ?_)
                refine aopx_pv (pv_load (by rfl) (by rfl) (by rfl) (by rfl)) ?_
                (try simp only [go_sem])
                refine hK1 _ ?_
                clear hK1 K1
                refine aany_arms2 (i := 7) (j := 9) (by kernel_rfl) ?_ ?_
                · skip
                  refine armR_xY (i := 7) (by rfl) (by rfl) (by rfl) (fun K1 hK1 => ?_)
                  refine aopx_callO (d := some 25) (cloneI_oc 25000 _) (by rfl) (by intro id hid; simp only [List.mem_cons, List.not_mem_nil, or_false] at hid; subst hid; first | rfl | (simp only [go_sem, Nat.reduceAdd, Nat.reduceMul, reduceIte, Nat.reduceEqDiff, Nat.reduceLeDiff, Int.reduceToNat, Int.reducePow, Int.reduceBEq, Int.reduceBNe, Int.reduceLT, Int.reduceLE, decide_true, decide_false, Nat.reduceBEq, Bool.or_self, Bool.or_true, Bool.true_or, Bool.or_false, Bool.false_or, Bool.and_true, Bool.true_and, Bool.and_false, Bool.false_and, Bool.and_self, Bool.not_true, Bool.not_false, List.cons_append, List.nil_append, List.append_nil, if_true, if_false, Bool.false_eq_true, keysH]; done)) (fun x hp hx => ?_)
                  obtain ⟨rfl, rfl⟩ := hx
                  (try simp only [go_sem, Nat.reduceAdd, Nat.reduceMul, reduceIte, Nat.reduceEqDiff, Nat.reduceLeDiff, Int.reduceToNat, Int.reducePow, Int.reduceBEq, Int.reduceBNe, Int.reduceLT, Int.reduceLE, decide_true, decide_false, Nat.reduceBEq, Bool.or_self, Bool.or_true, Bool.true_or, Bool.or_false, Bool.false_or, Bool.and_true, Bool.true_and, Bool.and_false, Bool.false_and, Bool.and_self, Bool.not_true, Bool.not_false, List.cons_append, List.nil_append, List.append_nil, if_true, if_false, Bool.false_eq_true, keysH])
                  refine hK1 _ ?_
                  clear hK1 K1
                  refine aany_arms1 (i := 9) (by kernel_rfl) ?_
                  refine armR_xY (i := 9) (by rfl) (by rfl) (by rfl) (fun K1 hK1 => ?_)
                  refine aopx_buildSlice (d := 27) ⟨by decide, by decide, by decide⟩ (by rfl) (by rfl) (by rfl) (by rfl) ?_
                  (try simp only [go_sem, Nat.reduceAdd, Nat.reduceMul, reduceIte, Nat.reduceEqDiff, Nat.reduceLeDiff, Int.reduceToNat, Int.reducePow, Int.reduceBEq, Int.reduceBNe, Int.reduceLT, Int.reduceLE, decide_true, decide_false, Nat.reduceBEq, Bool.or_self, Bool.or_true, Bool.true_or, Bool.or_false, Bool.false_or, Bool.and_true, Bool.true_and, Bool.and_false, Bool.false_and, Bool.and_self, Bool.not_true, Bool.not_false, List.cons_append, List.nil_append, List.append_nil, if_true, if_false, Bool.false_eq_true, keysH])
                  refine hK1 _ ?_
                  clear hK1 K1
                  refine aany_arms1 (i := 10) (by kernel_rfl) ?_
                  refine armR_oY (i := 10) (by rfl) (by kernel_rfl) (by rfl) (by rfl) (fun K1 hK1 => ?_)
                  refine appendS ?_
                  (try simp only [go_sem, Nat.reduceAdd, Nat.reduceMul, reduceIte, Nat.reduceEqDiff, Nat.reduceLeDiff, Int.reduceToNat, Int.reducePow, Int.reduceBEq, Int.reduceBNe, Int.reduceLT, Int.reduceLE, decide_true, decide_false, Nat.reduceBEq, Bool.or_self, Bool.or_true, Bool.true_or, Bool.or_false, Bool.false_or, Bool.and_true, Bool.true_and, Bool.and_false, Bool.false_and, Bool.and_self, Bool.not_true, Bool.not_false, List.cons_append, List.nil_append, List.append_nil, if_true, if_false, Bool.false_eq_true, keysH])
                  refine hK1 _ ?_
                  clear hK1 K1
                  refine aany_arms1 (i := 11) (by kernel_rfl) ?_
                  refine armR_oY (i := 11) (by rfl) (by kernel_rfl) (by rfl) (by rfl) (fun K1 hK1 => ?_)
                  refine aop_le (le_sealMapM (f := AV.int) 25005 1 8 (h.length + 1) (h ++ [(k : Int)]) (by rfl) (by rw [flat_ints, List.map_append]; rfl) (by simp) (fun _ => rfl) (fun _ => rfl) (by omega)) ?_
                  simp only [AV.sealSL, sealS_any, sealS_v, sealS_isl, sealS_iptr, sealS_ptr, sealS_sl, sealS_agg, sealS_tup, sealS_fn, purge_agg, purge_tup, purge_fn, and_self, AV.mentL, AV.ment, Bool.or_self, go_sem, Nat.reduceAdd, Nat.reduceMul, reduceIte, Nat.reduceEqDiff, Nat.reduceLeDiff, Int.reduceToNat, Int.reducePow, Int.reduceBEq, Int.reduceBNe, Int.reduceLT, Int.reduceLE, decide_true, decide_false]
                  (refine aop_callHv (by rfl) (ihk) (by (repeat (first | exact hin_nil | refine hin_cons (by rfl) ?_))) (fun _ h => by cases h) (by rfl) (fun x hp' hx => ?_); obtain ⟨rfl, rfl⟩ := hx <;> simp only [go_sem, Nat.reduceAdd, Nat.reduceMul, reduceIte, Nat.reduceEqDiff, Nat.reduceLeDiff, Int.reduceToNat, Int.reducePow, Int.reduceBEq, Int.reduceBNe, Int.reduceLT, Int.reduceLE, decide_true, decide_false, Nat.reduceBEq, Bool.or_self, Bool.or_true, Bool.true_or, Bool.or_false, Bool.false_or, Bool.and_true, Bool.true_and, Bool.and_false, Bool.false_and, Bool.and_self, Bool.not_true, Bool.not_false, List.cons_append, List.nil_append, List.append_nil, if_true, if_false, Bool.false_eq_true, keysH])
                  refine hK1 _ ?_
                  clear hK1 K1
                  refine aany_arms1 (i := 12) (by kernel_rfl) ?_
                  refine armR_oY (i := 12) (by rfl) (by kernel_rfl) (by rfl) (by rfl) (fun K1 hK1 => ?_)
                  refine aop_pv (pv_not (by rfl)) ?_
                  (try simp only [go_sem])
                  refine hK1 _ ?_
                  clear hK1 K1
                  refine aany_arms1 (i := 13) (by kernel_rfl) ?_
                  refine armR_o (i := 13) (by rfl) (by kernel_rfl) (fun K1 hK1 => ?_)
                  refine aop_pv (pv_pickB (by rfl) (by rfl) (by rfl)) ?_
                  (try simp only [go_sem])
                  refine hK1 _ ?_
                  clear hK1 K1
                  refine aany_end (by kernel_rfl) ?_
                  exact ⟨rfl, Le.refl _⟩
                · skip
                  refine armR_xY (i := 9) (by rfl) (by rfl) (by rfl) (fun K1 hK1 => ?_)
                  refine aopx_buildSlice (d := 27) ⟨by decide, by decide, by decide⟩ (by rfl) (by rfl) (by rfl) (by rfl) ?_
                  (try simp only [go_sem, Nat.reduceAdd, Nat.reduceMul, reduceIte, Nat.reduceEqDiff, Nat.reduceLeDiff, Int.reduceToNat, Int.reducePow, Int.reduceBEq, Int.reduceBNe, Int.reduceLT, Int.reduceLE, decide_true, decide_false, Nat.reduceBEq, Bool.or_self, Bool.or_true, Bool.true_or, Bool.or_false, Bool.false_or, Bool.and_true, Bool.true_and, Bool.and_false, Bool.false_and, Bool.and_self, Bool.not_true, Bool.not_false, List.cons_append, List.nil_append, List.append_nil, if_true, if_false, Bool.false_eq_true, keysH])
                  refine hK1 _ ?_
                  clear hK1 K1
                  refine aany_arms1 (i := 7) (by kernel_rfl) ?_
                  refine armR_xY (i := 7) (by rfl) (by rfl) (by rfl) (fun K1 hK1 => ?_)
                  refine aopx_callO (d := some 25) (cloneI_oc 25000 _) (by rfl) (by intro id hid; simp only [List.mem_cons, List.not_mem_nil, or_false] at hid; subst hid; first | rfl | (simp only [go_sem, Nat.reduceAdd, Nat.reduceMul, reduceIte, Nat.reduceEqDiff, Nat.reduceLeDiff, Int.reduceToNat, Int.reducePow, Int.reduceBEq, Int.reduceBNe, Int.reduceLT, Int.reduceLE, decide_true, decide_false, Nat.reduceBEq, Bool.or_self, Bool.or_true, Bool.true_or, Bool.or_false, Bool.false_or, Bool.and_true, Bool.true_and, Bool.and_false, Bool.false_and, Bool.and_self, Bool.not_true, Bool.not_false, List.cons_append, List.nil_append, List.append_nil, if_true, if_false, Bool.false_eq_true, keysH]; done)) (fun x hp hx => ?_)
                  obtain ⟨rfl, rfl⟩ := hx
                  (try simp only [go_sem, Nat.reduceAdd, Nat.reduceMul, reduceIte, Nat.reduceEqDiff, Nat.reduceLeDiff, Int.reduceToNat, Int.reducePow, Int.reduceBEq, Int.reduceBNe, Int.reduceLT, Int.reduceLE, decide_true, decide_false, Nat.reduceBEq, Bool.or_self, Bool.or_true, Bool.true_or, Bool.or_false, Bool.false_or, Bool.and_true, Bool.true_and, Bool.and_false, Bool.false_and, Bool.and_self, Bool.not_true, Bool.not_false, List.cons_append, List.nil_append, List.append_nil, if_true, if_false, Bool.false_eq_true, keysH])
                  refine hK1 _ ?_
                  clear hK1 K1
                  refine aany_arms1 (i := 10) (by kernel_rfl) ?_
                  refine armR_oY (i := 10) (by rfl) (by kernel_rfl) (by rfl) (by rfl) (fun K1 hK1 => ?_)
                  refine appendS ?_
                  (try simp only [go_sem, Nat.reduceAdd, Nat.reduceMul, reduceIte, Nat.reduceEqDiff, Nat.reduceLeDiff, Int.reduceToNat, Int.reducePow, Int.reduceBEq, Int.reduceBNe, Int.reduceLT, Int.reduceLE, decide_true, decide_false, Nat.reduceBEq, Bool.or_self, Bool.or_true, Bool.true_or, Bool.or_false, Bool.false_or, Bool.and_true, Bool.true_and, Bool.and_false, Bool.false_and, Bool.and_self, Bool.not_true, Bool.not_false, List.cons_append, List.nil_append, List.append_nil, if_true, if_false, Bool.false_eq_true, keysH])
                  refine hK1 _ ?_
                  clear hK1 K1
                  refine aany_arms1 (i := 11) (by kernel_rfl) ?_
                  refine armR_oY (i := 11) (by rfl) (by kernel_rfl) (by rfl) (by rfl) (fun K1 hK1 => ?_)
                  refine aop_le (le_sealMapM (f := AV.int) 25005 1 8 (h.length + 1) (h ++ [(k : Int)]) (by rfl) (by rw [flat_ints, List.map_append]; rfl) (by simp) (fun _ => rfl) (fun _ => rfl) (by omega)) ?_
                  simp only [AV.sealSL, sealS_any, sealS_v, sealS_isl, sealS_iptr, sealS_ptr, sealS_sl, sealS_agg, sealS_tup, sealS_fn, purge_agg, purge_tup, purge_fn, and_self, AV.mentL, AV.ment, Bool.or_self, go_sem, Nat.reduceAdd, Nat.reduceMul, reduceIte, Nat.reduceEqDiff, Nat.reduceLeDiff, Int.reduceToNat, Int.reducePow, Int.reduceBEq, Int.reduceBNe, Int.reduceLT, Int.reduceLE, decide_true, decide_false]
                  (refine aop_callHv (by rfl) (ihk) (by (repeat (first | exact hin_nil | refine hin_cons (by rfl) ?_))) (fun _ h => by cases h) (by rfl) (fun x hp' hx => ?_); obtain ⟨rfl, rfl⟩ := hx <;> simp only [go_sem, Nat.reduceAdd, Nat.reduceMul, reduceIte, Nat.reduceEqDiff, Nat.reduceLeDiff, Int.reduceToNat, Int.reducePow, Int.reduceBEq, Int.reduceBNe, Int.reduceLT, Int.reduceLE, decide_true, decide_false, Nat.reduceBEq, Bool.or_self, Bool.or_true, Bool.true_or, Bool.or_false, Bool.false_or, Bool.and_true, Bool.true_and, Bool.and_false, Bool.false_and, Bool.and_self, Bool.not_true, Bool.not_false, List.cons_append, List.nil_append, List.append_nil, if_true, if_false, Bool.false_eq_true, keysH])
                  refine hK1 _ ?_
                  clear hK1 K1
                  refine aany_arms1 (i := 12) (by kernel_rfl) ?_
                  refine armR_oY (i := 12) (by rfl) (by kernel_rfl) (by rfl) (by rfl) (fun K1 hK1 => ?_)
                  refine aop_pv (pv_not (by rfl)) ?_
                  (try simp only [go_sem])
                  refine hK1 _ ?_
                  clear hK1 K1
                  refine aany_arms1 (i := 13) (by kernel_rfl) ?_
                  refine armR_o (i := 13) (by rfl) (by kernel_rfl) (fun K1 hK1 => ?_)
                  refine aop_pv (pv_pickB (by rfl) (by rfl) (by rfl)) ?_
                  (try simp only [go_sem])
                  refine hK1 _ ?_
                  clear hK1 K1
                  refine aany_end (by kernel_rfl) ?_
                  exact ⟨rfl, Le.refl _⟩
              · skip
                refine armR_xY (i := 7) (by rfl) (by rfl) (by rfl) (fun K1 hK1 => ?_)
                refine aopx_callO (d := some 25) (cloneI_oc 25000 _) (by rfl) (by intro id hid; simp only [List.mem_cons, List.not_mem_nil, or_false] at hid; subst hid; first | rfl | (simp only [go_sem, Nat.reduceAdd, Nat.reduceMul, reduceIte, Nat.reduceEqDiff, Nat.reduceLeDiff, Int.reduceToNat, Int.reducePow, Int.reduceBEq, Int.reduceBNe, Int.reduceLT, Int.reduceLE, decide_true, decide_false, Nat.reduceBEq, Bool.or_self, Bool.or_true, Bool.true_or, Bool.or_false, Bool.false_or, Bool.and_true, Bool.true_and, Bool.and_false, Bool.false_and, Bool.and_self, Bool.not_true, Bool.not_false, List.cons_append, List.nil_append, List.append_nil, if_true, if_false, Bool.false_eq_true, keysH]; done)) (fun x hp hx => ?_)
                obtain ⟨rfl, rfl⟩ := hx
                (try simp only [go_sem, Nat.reduceAdd, Nat.reduceMul, reduceIte, Nat.reduceEqDiff, Nat.reduceLeDiff, Int.reduceToNat, Int.reducePow, Int.reduceBEq, Int.reduceBNe, Int.reduceLT, Int.reduceLE, decide_true, decide_false, Nat.reduceBEq, Bool.or_self, Bool.or_true, Bool.true_or, Bool.or_false, Bool.false_or, Bool.and_true, Bool.true_and, Bool.and_false, Bool.false_and, Bool.and_self, Bool.not_true, Bool.not_false, List.cons_append, List.nil_append, List.append_nil, if_true, if_false, Bool.false_eq_true, keysH])
                refine hK1 _ ?_
                clear hK1 K1
                refine aany_arms2 (i := 5) (j := 9) (by kernel_rfl) ?_ ?_
                · skip
                  refine armR_xY (i := 5) (by rfl) (by rfl) (by rfl) (fun K1 hK1 => ?_)
                  refine aopx_pv (pv_load (by rfl) (by rfl) (by rfl) (by rfl)) ?_
                  (try simp only [go_sem])
                  refine hK1 _ ?_
                  clear hK1 K1
                  refine aany_arms1 (i := 9) (by kernel_rfl) ?_
                  refine armR_xY (i := 9) (by rfl) (by rfl) (by rfl) (fun K1 hK1 => ?_)
                  refine aopx_buildSlice (d := 27) ⟨by decide, by decide, by decide⟩ (by rfl) (by rfl) (by rfl) (by rfl) ?_
                  (try simp only [go_sem, Nat.reduceAdd, Nat.reduceMul, reduceIte, Nat.reduceEqDiff, Nat.reduceLeDiff, Int.reduceToNat, Int.reducePow, Int.reduceBEq, Int.reduceBNe, Int.reduceLT, Int.reduceLE, decide_true, decide_false, Nat.reduceBEq, Bool.or_self, Bool.or_true, Bool.true_or, Bool.or_false, Bool.false_or, Bool.and_true, Bool.true_and, Bool.and_false, Bool.false_and, Bool.and_self, Bool.not_true, Bool.not_false, List.cons_append, List.nil_append, List.append_nil, if_true, if_false, Bool.false_eq_true, keysH])
                  refine hK1 _ ?_
                  clear hK1 K1
                  refine aany_arms1 (i := 10) (by kernel_rfl) ?_
                  refine armR_oY (i := 10) (by rfl) (by kernel_rfl) (by rfl) (by rfl) (fun K1 hK1 => ?_)
                  refine appendS ?_
                  (try simp only [go_sem, Nat.reduceAdd, Nat.reduceMul, reduceIte, Nat.reduceEqDiff, Nat.reduceLeDiff, Int.reduceToNat, Int.reducePow, Int.reduceBEq, Int.reduceBNe, Int.reduceLT, Int.reduceLE, decide_true, decide_false, Nat.reduceBEq, Bool.or_self, Bool.or_true, Bool.true_or, Bool.or_false, Bool.false_or, Bool.and_true, Bool.true_and, Bool.and_false, Bool.false_and, Bool.and_self, Bool.not_true, Bool.not_false, List.cons_append, List.nil_append, List.append_nil, if_true, if_false, Bool.false_eq_true, keysH])
                  refine hK1 _ ?_
                  clear hK1 K1
                  refine aany_arms1 (i := 11) (by kernel_rfl) ?_
                  refine armR_oY (i := 11) (by rfl) (by kernel_rfl) (by rfl) (by rfl) (fun K1 hK1 => ?_)
                  refine aop_le (le_sealMapM (f := AV.int) 25005 1 8 (h.length + 1) (h ++ [(k : Int)]) (by rfl) (by rw [flat_ints, List.map_append]; rfl) (by simp) (fun _ => rfl) (fun _ => rfl) (by omega)) ?_
                  simp only [AV.sealSL, sealS_any, sealS_v, sealS_isl, sealS_iptr, sealS_ptr, sealS_sl, sealS_agg, sealS_tup, sealS_fn, purge_agg, purge_tup, purge_fn, and_self, AV.mentL, AV.ment, Bool.or_self, go_sem, Nat.reduceAdd, Nat.reduceMul, reduceIte, Nat.reduceEqDiff, Nat.reduceLeDiff, Int.reduceToNat, Int.reducePow, Int.reduceBEq, Int.reduceBNe, Int.reduceLT, Int.reduceLE, decide_true, decide_false]
                  (refine aop_callHv (by rfl) (ihk) (by (repeat (first | exact hin_nil | refine hin_cons (by rfl) ?_))) (fun _ h => by cases h) (by rfl) (fun x hp' hx => ?_); obtain ⟨rfl, rfl⟩ := hx <;> simp only [go_sem, Nat.reduceAdd, Nat.reduceMul, reduceIte, Nat.reduceEqDiff, Nat.reduceLeDiff, Int.reduceToNat, Int.reducePow, Int.reduceBEq, Int.reduceBNe, Int.reduceLT, Int.reduceLE, decide_true, decide_false, Nat.reduceBEq, Bool.or_self, Bool.or_true, Bool.true_or, Bool.or_false, Bool.false_or, Bool.and_true, Bool.true_and, Bool.and_false, Bool.false_and, Bool.and_self, Bool.not_true, Bool.not_false, List.cons_append, List.nil_append, List.append_nil, if_true, if_false, Bool.false_eq_true, keysH])
                  refine hK1 _ ?_
                  clear hK1 K1
                  refine aany_arms1 (i := 12) (by kernel_rfl) ?_
                  refine armR_oY (i := 12) (by rfl) (by kernel_rfl) (by rfl) (by rfl) (fun K1 hK1 => ?_)
                  refine aop_pv (pv_not (by rfl)) ?_
                  (try simp only [go_sem])
                  refine hK1 _ ?_
                  clear hK1 K1
                  refine aany_arms1 (i := 13) (by kernel_rfl) ?_
                  refine armR_o (i := 13) (by rfl) (by kernel_rfl) (fun K1 hK1 => ?_)
                  refine aop_pv (pv_pickB (by rfl) (by rfl) (by rfl)) ?_
                  (try simp only [go_sem])
                  refine hK1 _ ?_
                  clear hK1 K1
                  refine aany_end (by kernel_rfl) ?_
                  exact ⟨rfl, Le.refl _⟩
                · skip
                  refine armR_xY (i := 9) (by rfl) (by rfl) (by rfl) (fun K1 hK1 => ?_)
                  refine aopx_buildSlice (d := 27) ⟨by decide, by decide, by decide⟩ (by rfl) (by rfl) (by rfl) (by rfl) ?_
                  (try simp only [go_sem, Nat.reduceAdd, Nat.reduceMul, reduceIte, Nat.reduceEqDiff, Nat.reduceLeDiff, Int.reduceToNat, Int.reducePow, Int.reduceBEq, Int.reduceBNe, Int.reduceLT, Int.reduceLE, decide_true, decide_false, Nat.reduceBEq, Bool.or_self, Bool.or_true, Bool.true_or, Bool.or_false, Bool.false_or, Bool.and_true, Bool.true_and, Bool.and_false, Bool.false_and, Bool.and_self, Bool.not_true, Bool.not_false, List.cons_append, List.nil_append, List.append_nil, if_true, if_false, Bool.false_eq_true, keysH])
                  refine hK1 _ ?_
                  clear hK1 K1
                  refine aany_arms2 (i := 5) (j := 10) (by kernel_rfl) ?_ ?_
                  · skip
                    refine armR_xY (i := 5) (by rfl) (by rfl) (by rfl) (fun K1 hK1 => ?_)
                    refine aopx_pv (pv_load (by rfl) (by rfl) (by rfl) (by rfl)) ?_
                    (try simp only [go_sem])
                    refine hK1 _ ?_
                    clear hK1 K1
                    refine aany_arms1 (i := 10) (by kernel_rfl) ?_
                    refine armR_oY (i := 10) (by rfl) (by kernel_rfl) (by rfl) (by rfl) (fun K1 hK1 => ?_)
                    refine appendS ?_
                    (try simp only [go_sem, Nat.reduceAdd, Nat.reduceMul, reduceIte, Nat.reduceEqDiff, Nat.reduceLeDiff, Int.reduceToNat, Int.reducePow, Int.reduceBEq, Int.reduceBNe, Int.reduceLT, Int.reduceLE, decide_true, decide_false, Nat.reduceBEq, Bool.or_self, Bool.or_true, Bool.true_or, Bool.or_false, Bool.false_or, Bool.and_true, Bool.true_and, Bool.and_false, Bool.false_and, Bool.and_self, Bool.not_true, Bool.not_false, List.cons_append, List.nil_append, List.append_nil, if_true, if_false, Bool.false_eq_true, keysH])
                    refine hK1 _ ?_
                    clear hK1 K1
                    refine aany_arms1 (i := 11) (by kernel_rfl) ?_
                    refine armR_oY (i := 11) (by rfl) (by kernel_rfl) (by rfl) (by rfl) (fun K1 hK1 => ?_)
                    refine aop_le (le_sealMapM (f := AV.int) 25005 1 8 (h.length + 1) (h ++ [(k : Int)]) (by rfl) (by rw [flat_ints, List.map_append]; rfl) (by simp) (fun _ => rfl) (fun _ => rfl) (by omega)) ?_
                    simp only [AV.sealSL, sealS_any, sealS_v, sealS_isl, sealS_iptr, sealS_ptr, sealS_sl, sealS_agg, sealS_tup, sealS_fn, purge_agg, purge_tup, purge_fn, and_self, AV.mentL, AV.ment, Bool.or_self, go_sem, Nat.reduceAdd, Nat.reduceMul, reduceIte, Nat.reduceEqDiff, Nat.reduceLeDiff, Int.reduceToNat, Int.reducePow, Int.reduceBEq, Int.reduceBNe, Int.reduceLT, Int.reduceLE, decide_true, decide_false]
                    (refine aop_callHv (by rfl) (ihk) (by (repeat (first | exact hin_nil | refine hin_cons (by rfl) ?_))) (fun _ h => by cases h) (by rfl) (fun x hp' hx => ?_); obtain ⟨rfl, rfl⟩ := hx <;> simp only [go_sem, Nat.reduceAdd, Nat.reduceMul, reduceIte, Nat.reduceEqDiff, Nat.reduceLeDiff, Int.reduceToNat, Int.reducePow, Int.reduceBEq, Int.reduceBNe, Int.reduceLT, Int.reduceLE, decide_true, decide_false, Nat.reduceBEq, Bool.or_self, Bool.or_true, Bool.true_or, Bool.or_false, Bool.false_or, Bool.and_true, Bool.true_and, Bool.and_false, Bool.false_and, Bool.and_self, Bool.not_true, Bool.not_false, List.cons_append, List.nil_append, List.append_nil, if_true, if_false, Bool.false_eq_true, keysH])
                    refine hK1 _ ?_
                    clear hK1 K1
                    refine aany_arms1 (i := 12) (by kernel_rfl) ?_
                    refine armR_oY (i := 12) (by rfl) (by kernel_rfl) (by rfl) (by rfl) (fun K1 hK1 => ?_)
                    refine aop_pv (pv_not (by rfl)) ?_
                    (try simp only [go_sem])
                    refine hK1 _ ?_
                    clear hK1 K1
                    refine aany_arms1 (i := 13) (by kernel_rfl) ?_
                    refine armR_o (i := 13) (by rfl) (by kernel_rfl) (fun K1 hK1 => ?_)
                    refine aop_pv (pv_pickB (by rfl) (by rfl) (by rfl)) ?_
                    (try simp only [go_sem])
                    refine hK1 _ ?_
                    clear hK1 K1
                    refine aany_end (by kernel_rfl) ?_
                    exact ⟨rfl, Le.refl _⟩
                  · skip
                    refine armR_oY (i := 10) (by rfl) (by kernel_rfl) (by rfl) (by rfl) (fun K1 hK1 => ?_)
                    refine appendS ?_
                    (try simp only [go_sem, Nat.reduceAdd, Nat.reduceMul, reduceIte, Nat.reduceEqDiff, Nat.reduceLeDiff, Int.reduceToNat, Int.reducePow, Int.reduceBEq, Int.reduceBNe, Int.reduceLT, Int.reduceLE, decide_true, decide_false, Nat.reduceBEq, Bool.or_self, Bool.or_true, Bool.true_or, Bool.or_false, Bool.false_or, Bool.and_true, Bool.true_and, Bool.and_false, Bool.false_and, Bool.and_self, Bool.not_true, Bool.not_false, List.cons_append, List.nil_append, List.append_nil, if_true, if_false, Bool.false_eq_true, keysH])
                    refine hK1 _ ?_
                    clear hK1 K1
                    refine aany_arms1 (i := 5) (by kernel_rfl) ?_
                    refine armR_xY (i := 5) (by rfl) (by rfl) (by rfl) (fun K1 hK1 => ?_)
                    refine aopx_pv (pv_load (by rfl) (by rfl) (by rfl) (by rfl)) ?_
                    (try simp only [go_sem])
                    refine hK1 _ ?_
                    clear hK1 K1
                    refine aany_arms1 (i := 11) (by kernel_rfl) ?_
                    refine armR_oY (i := 11) (by rfl) (by kernel_rfl) (by rfl) (by rfl) (fun K1 hK1 => ?_)
                    refine aop_le (le_sealMapM (f := AV.int) 25005 1 8 (h.length + 1) (h ++ [(k : Int)]) (by rfl) (by rw [flat_ints, List.map_append]; rfl) (by simp) (fun _ => rfl) (fun _ => rfl) (by omega)) ?_
                    simp only [AV.sealSL, sealS_any, sealS_v, sealS_isl, sealS_iptr, sealS_ptr, sealS_sl, sealS_agg, sealS_tup, sealS_fn, purge_agg, purge_tup, purge_fn, and_self, AV.mentL, AV.ment, Bool.or_self, go_sem, Nat.reduceAdd, Nat.reduceMul, reduceIte, Nat.reduceEqDiff, Nat.reduceLeDiff, Int.reduceToNat, Int.reducePow, Int.reduceBEq, Int.reduceBNe, Int.reduceLT, Int.reduceLE, decide_true, decide_false]
                    (refine aop_callHv (by rfl) (ihk) (by (repeat (first | exact hin_nil | refine hin_cons (by rfl) ?_))) (fun _ h => by cases h) (by rfl) (fun x hp' hx => ?_); obtain ⟨rfl, rfl⟩ := hx <;> simp only [go_sem, Nat.reduceAdd, Nat.reduceMul, reduceIte, Nat.reduceEqDiff, Nat.reduceLeDiff, Int.reduceToNat, Int.reducePow, Int.reduceBEq, Int.reduceBNe, Int.reduceLT, Int.reduceLE, decide_true, decide_false, Nat.reduceBEq, Bool.or_self, Bool.or_true, Bool.true_or, Bool.or_false, Bool.false_or, Bool.and_true, Bool.true_and, Bool.and_false, Bool.false_and, Bool.and_self, Bool.not_true, Bool.not_false, List.cons_append, List.nil_append, List.append_nil, if_true, if_false, Bool.false_eq_true, keysH])
                    refine hK1 _ ?_
                    clear hK1 K1
                    refine aany_arms1 (i := 12) (by kernel_rfl) ?_
                    refine armR_oY (i := 12) (by rfl) (by kernel_rfl) (by rfl) (by rfl) (fun K1 hK1 => ?_)
                    refine aop_pv (pv_not (by rfl)) ?_
                    (try simp only [go_sem])
                    refine hK1 _ ?_
                    clear hK1 K1
                    refine aany_arms1 (i := 13) (by kernel_rfl) ?_
                    refine armR_o (i := 13) (by rfl) (by kernel_rfl) (fun K1 hK1 => ?_)
                    refine aop_pv (pv_pickB (by rfl) (by rfl) (by rfl)) ?_
                    (try simp only [go_sem])
                    refine hK1 _ ?_
                    clear hK1 K1
                    refine aany_end (by kernel_rfl) ?_
                    exact ⟨rfl, Le.refl _⟩
              · skip
                refine armR_xY (i := 9) (by rfl) (by rfl) (by rfl) (fun K1 hK1 => ?_)
                refine aopx_buildSlice (d := 27) ⟨by decide, by decide, by decide⟩ (by rfl) (by rfl) (by rfl) (by rfl) ?_
                (try simp only [go_sem, Nat.reduceAdd, Nat.reduceMul, reduceIte, Nat.reduceEqDiff, Nat.reduceLeDiff, Int.reduceToNat, Int.reducePow, Int.reduceBEq, Int.reduceBNe, Int.reduceLT, Int.reduceLE, decide_true, decide_false, Nat.reduceBEq, Bool.or_self, Bool.or_true, Bool.true_or, Bool.or_false, Bool.false_or, Bool.and_true, Bool.true_and, Bool.and_false, Bool.false_and, Bool.and_self, Bool.not_true, Bool.not_false, List.cons_append, List.nil_append, List.append_nil, if_true, if_false, Bool.false_eq_true, keysH])
                refine hK1 _ ?_
                clear hK1 K1
                refine aany_arms2 (i := 5) (j := 7) (by kernel_rfl) ?_ ?_
                · skip
                  refine armR_xY (i := 5) (by rfl) (by rfl) (by rfl) (fun K1 hK1 => ?_)
                  refine aopx_pv (pv_load (by rfl) (by rfl) (by rfl) (by rfl)) ?_
                  (try simp only [go_sem])
                  refine hK1 _ ?_
                  clear hK1 K1
                  refine aany_arms1 (i := 7) (by kernel_rfl) ?_
                  refine armR_xY (i := 7) (by rfl) (by rfl) (by rfl) (fun K1 hK1 => ?_)
                  refine aopx_callO (d := some 25) (cloneI_oc 25000 _) (by rfl) (by intro id hid; simp only [List.mem_cons, List.not_mem_nil, or_false] at hid; subst hid; first | rfl | (simp only [go_sem, Nat.reduceAdd, Nat.reduceMul, reduceIte, Nat.reduceEqDiff, Nat.reduceLeDiff, Int.reduceToNat, Int.reducePow, Int.reduceBEq, Int.reduceBNe, Int.reduceLT, Int.reduceLE, decide_true, decide_false, Nat.reduceBEq, Bool.or_self, Bool.or_true, Bool.true_or, Bool.or_false, Bool.false_or, Bool.and_true, Bool.true_and, Bool.and_false, Bool.false_and, Bool.and_self, Bool.not_true, Bool.not_false, List.cons_append, List.nil_append, List.append_nil, if_true, if_false, Bool.false_eq_true, keysH]; done)) (fun x hp hx => ?_)
                  obtain ⟨rfl, rfl⟩ := hx
                  (try simp only [go_sem, Nat.reduceAdd, Nat.reduceMul, reduceIte, Nat.reduceEqDiff, Nat.reduceLeDiff, Int.reduceToNat, Int.reducePow, Int.reduceBEq, Int.reduceBNe, Int.reduceLT, Int.reduceLE, decide_true, decide_false, Nat.reduceBEq, Bool.or_self, Bool.or_true, Bool.true_or, Bool.or_false, Bool.false_or, Bool.and_true, Bool.true_and, Bool.and_false, Bool.false_and, Bool.and_self, Bool.not_true, Bool.not_false, List.cons_append, List.nil_append, List.append_nil, if_true, if_false, Bool.false_eq_true, keysH])
                  refine hK1 _ ?_
                  clear hK1 K1
                  refine aany_arms1 (i := 10) (by kernel_rfl) ?_
                  refine armR_oY (i := 10) (by rfl) (by kernel_rfl) (by rfl) (by rfl) (fun K1 hK1 => ?_)
                  refine appendS ?_
                  (try simp only [go_sem, Nat.reduceAdd, Nat.reduceMul, reduceIte, Nat.reduceEqDiff, Nat.reduceLeDiff, Int.reduceToNat, Int.reducePow, Int.reduceBEq, Int.reduceBNe, Int.reduceLT, Int.reduceLE, decide_true, decide_false, Nat.reduceBEq, Bool.or_self, Bool.or_true, Bool.true_or, Bool.or_false, Bool.false_or, Bool.and_true, Bool.true_and, Bool.and_false, Bool.false_and, Bool.and_self, Bool.not_true, Bool.not_false, List.cons_append, List.nil_append, List.append_nil, if_true, if_false, Bool.false_eq_true, keysH])
                  refine hK1 _ ?_
                  clear hK1 K1
                  refine aany_arms1 (i := 11) (by kernel_rfl) ?_
                  refine armR_oY (i := 11) (by rfl) (by kernel_rfl) (by rfl) (by rfl) (fun K1 hK1 => ?_)
                  refine aop_le (le_sealMapM (f := AV.int) 25005 1 8 (h.length + 1) (h ++ [(k : Int)]) (by rfl) (by rw [flat_ints, List.map_append]; rfl) (by simp) (fun _ => rfl) (fun _ => rfl) (by omega)) ?_
                  simp only [AV.sealSL, sealS_any, sealS_v, sealS_isl, sealS_iptr, sealS_ptr, sealS_sl, sealS_agg, sealS_tup, sealS_fn, purge_agg, purge_tup, purge_fn, and_self, AV.mentL, AV.ment, Bool.or_self, go_sem, Nat.reduceAdd, Nat.reduceMul, reduceIte, Nat.reduceEqDiff, Nat.reduceLeDiff, Int.reduceToNat, Int.reducePow, Int.reduceBEq, Int.reduceBNe, Int.reduceLT, Int.reduceLE, decide_true, decide_false]
                  (refine aop_callHv (by rfl) (ihk) (by (repeat (first | exact hin_nil | refine hin_cons (by rfl) ?_))) (fun _ h => by cases h) (by rfl) (fun x hp' hx => ?_); obtain ⟨rfl, rfl⟩ := hx <;> simp only [go_sem, Nat.reduceAdd, Nat.reduceMul, reduceIte, Nat.reduceEqDiff, Nat.reduceLeDiff, Int.reduceToNat, Int.reducePow, Int.reduceBEq, Int.reduceBNe, Int.reduceLT, Int.reduceLE, decide_true, decide_false, Nat.reduceBEq, Bool.or_self, Bool.or_true, Bool.true_or, Bool.or_false, Bool.false_or, Bool.and_true, Bool.true_and, Bool.and_false, Bool.false_and, Bool.and_self, Bool.not_true, Bool.not_false, List.cons_append, List.nil_append, List.append_nil, if_true, if_false, Bool.false_eq_true, keysH])
                  refine hK1 _ ?_
                  clear hK1 K1
                  refine aany_arms1 (i := 12) (by kernel_rfl) ?_
                  refine armR_oY (i := 12) (by rfl) (by kernel_rfl) (by rfl) (by rfl) (fun K1 hK1 => ?_)
                  refine aop_pv (pv_not (by rfl)) ?_
                  (try simp only [go_sem])
                  refine hK1 _ ?_
                  clear hK1 K1
                  refine aany_arms1 (i := 13) (by kernel_rfl) ?_
                  refine armR_o (i := 13) (by rfl) (by kernel_rfl) (fun K1 hK1 => ?_)
                  refine aop_pv (pv_pickB (by rfl) (by rfl) (by rfl)) ?_
                  (try simp only [go_sem])
                  refine hK1 _ ?_
                  clear hK1 K1
                  refine aany_end (by kernel_rfl) ?_
                  exact ⟨rfl, Le.refl _⟩
                · skip
                  refine armR_xY (i := 7) (by rfl) (by rfl) (by rfl) (fun K1 hK1 => ?_)
                  refine aopx_callO (d := some 25) (cloneI_oc 25000 _) (by rfl) (by intro id hid; simp only [List.mem_cons, List.not_mem_nil, or_false] at hid; subst hid; first | rfl | (simp only [go_sem, Nat.reduceAdd, Nat.reduceMul, reduceIte, Nat.reduceEqDiff, Nat.reduceLeDiff, Int.reduceToNat, Int.reducePow, Int.reduceBEq, Int.reduceBNe, Int.reduceLT, Int.reduceLE, decide_true, decide_false, Nat.reduceBEq, Bool.or_self, Bool.or_true, Bool.true_or, Bool.or_false, Bool.false_or, Bool.and_true, Bool.true_and, Bool.and_false, Bool.false_and, Bool.and_self, Bool.not_true, Bool.not_false, List.cons_append, List.nil_append, List.append_nil, if_true, if_false, Bool.false_eq_true, keysH]; done)) (fun x hp hx => ?_)
                  obtain ⟨rfl, rfl⟩ := hx
                  (try simp only [go_sem, Nat.reduceAdd, Nat.reduceMul, reduceIte, Nat.reduceEqDiff, Nat.reduceLeDiff, Int.reduceToNat, Int.reducePow, Int.reduceBEq, Int.reduceBNe, Int.reduceLT, Int.reduceLE, decide_true, decide_false, Nat.reduceBEq, Bool.or_self, Bool.or_true, Bool.true_or, Bool.or_false, Bool.false_or, Bool.and_true, Bool.true_and, Bool.and_false, Bool.false_and, Bool.and_self, Bool.not_true, Bool.not_false, List.cons_append, List.nil_append, List.append_nil, if_true, if_false, Bool.false_eq_true, keysH])
                  refine hK1 _ ?_
                  clear hK1 K1
                  refine aany_arms2 (i := 5) (j := 10) (by kernel_rfl) ?_ ?_
                  · skip
                    refine armR_xY (i := 5) (by rfl) (by rfl) (by rfl) (fun K1 hK1 => ?_)
                    refine aopx_pv (pv_load (by rfl) (by rfl) (by rfl) (by rfl)) ?_
                    (try simp only [go_sem])
                    refine hK1 _ ?_
                    clear hK1 K1
                    refine aany_arms1 (i := 10) (by kernel_rfl) ?_
                    refine armR_oY (i := 10) (by rfl) (by kernel_rfl) (by rfl) (by rfl) (fun K1 hK1 => ?_)
                    refine appendS ?_
                    (try simp only [go_sem, Nat.reduceAdd, Nat.reduceMul, reduceIte, Nat.reduceEqDiff, Nat.reduceLeDiff, Int.reduceToNat, Int.reducePow, Int.reduceBEq, Int.reduceBNe, Int.reduceLT, Int.reduceLE, decide_true, decide_false, Nat.reduceBEq, Bool.or_self, Bool.or_true, Bool.true_or, Bool.or_false, Bool.false_or, Bool.and_true, Bool.true_and, Bool.and_false, Bool.false_and, Bool.and_self, Bool.not_true, Bool.not_false, List.cons_append, List.nil_append, List.append_nil, if_true, if_false, Bool.false_eq_true, keysH])
                    refine hK1 _ ?_
                    clear hK1 K1
                    refine aany_arms1 (i := 11) (by kernel_rfl) ?_
                    refine armR_oY (i := 11) (by rfl) (by kernel_rfl) (by rfl) (by rfl) (fun K1 hK1 => ?_)
                    refine aop_le (le_sealMapM (f := AV.int) 25005 1 8 (h.length + 1) (h ++ [(k : Int)]) (by rfl) (by rw [flat_ints, List.map_append]; rfl) (by simp) (fun _ => rfl) (fun _ => rfl) (by omega)) ?_
                    simp only [AV.sealSL, sealS_any, sealS_v, sealS_isl, sealS_iptr, sealS_ptr, sealS_sl, sealS_agg, sealS_tup, sealS_fn, purge_agg, purge_tup, purge_fn, and_self, AV.mentL, AV.ment, Bool.or_self, go_sem, Nat.reduceAdd, Nat.reduceMul, reduceIte, Nat.reduceEqDiff, Nat.reduceLeDiff, Int.reduceToNat, Int.reducePow, Int.reduceBEq, Int.reduceBNe, Int.reduceLT, Int.reduceLE, decide_true, decide_false]
                    (refine aop_callHv (by rfl) (ihk) (by (repeat (first | exact hin_nil | refine hin_cons (by rfl) ?_))) (fun _ h => by cases h) (by rfl) (fun x hp' hx => ?_); obtain ⟨rfl, rfl⟩ := hx <;> simp only [go_sem, Nat.reduceAdd, Nat.reduceMul, reduceIte, Nat.reduceEqDiff, Nat.reduceLeDiff, Int.reduceToNat, Int.reducePow, Int.reduceBEq, Int.reduceBNe, Int.reduceLT, Int.reduceLE, decide_true, decide_false, Nat.reduceBEq, Bool.or_self, Bool.or_true, Bool.true_or, Bool.or_false, Bool.false_or, Bool.and_true, Bool.true_and, Bool.and_false, Bool.false_and, Bool.and_self, Bool.not_true, Bool.not_false, List.cons_append, List.nil_append, List.append_nil, if_true, if_false, Bool.false_eq_true, keysH])
                    refine hK1 _ ?_
                    clear hK1 K1
                    refine aany_arms1 (i := 12) (by kernel_rfl) ?_
                    refine armR_oY (i := 12) (by rfl) (by kernel_rfl) (by rfl) (by rfl) (fun K1 hK1 => ?_)
                    refine aop_pv (pv_not (by rfl)) ?_
                    (try simp only [go_sem])
                    refine hK1 _ ?_
                    clear hK1 K1
                    refine aany_arms1 (i := 13) (by kernel_rfl) ?_
                    refine armR_o (i := 13) (by rfl) (by kernel_rfl) (fun K1 hK1 => ?_)
                    refine aop_pv (pv_pickB (by rfl) (by rfl) (by rfl)) ?_
                    (try simp only [go_sem])
                    refine hK1 _ ?_
                    clear hK1 K1
                    refine aany_end (by kernel_rfl) ?_
                    exact ⟨rfl, Le.refl _⟩
                  · skip
                    refine armR_oY (i := 10) (by rfl) (by kernel_rfl) (by rfl) (by rfl) (fun K1 hK1 => ?_)
                    refine appendS ?_
                    (try simp only [go_sem, Nat.reduceAdd, Nat.reduceMul, reduceIte, Nat.reduceEqDiff, Nat.reduceLeDiff, Int.reduceToNat, Int.reducePow, Int.reduceBEq, Int.reduceBNe, Int.reduceLT, Int.reduceLE, decide_true, decide_false, Nat.reduceBEq, Bool.or_self, Bool.or_true, Bool.true_or, Bool.or_false, Bool.false_or, Bool.and_true, Bool.true_and, Bool.and_false, Bool.false_and, Bool.and_self, Bool.not_true, Bool.not_false, List.cons_append, List.nil_append, List.append_nil, if_true, if_false, Bool.false_eq_true, keysH])
                    refine hK1 _ ?_
                    clear hK1 K1
                    refine aany_arms1 (i := 5) (by kernel_rfl) ?_
                    refine armR_xY (i := 5) (by rfl) (by rfl) (by rfl) (fun K1 hK1 => ?_)
                    refine aopx_pv (pv_load (by rfl) (by rfl) (by rfl) (by rfl)) ?_
                    (try simp only [go_sem])
                    refine hK1 _ ?_
                    clear hK1 K1
                    refine aany_arms1 (i := 11) (by kernel_rfl) ?_
                    refine armR_oY (i := 11) (by rfl) (by kernel_rfl) (by rfl) (by rfl) (fun K1 hK1 => ?_)
                    refine aop_le (le_sealMapM (f := AV.int) 25005 1 8 (h.length + 1) (h ++ [(k : Int)]) (by rfl) (by rw [flat_ints, List.map_append]; rfl) (by simp) (fun _ => rfl) (fun _ => rfl) (by omega)) ?_
                    simp only [AV.sealSL, sealS_any, sealS_v, sealS_isl, sealS_iptr, sealS_ptr, sealS_sl, sealS_agg, sealS_tup, sealS_fn, purge_agg, purge_tup, purge_fn, and_self, AV.mentL, AV.ment, Bool.or_self, go_sem, Nat.reduceAdd, Nat.reduceMul, reduceIte, Nat.reduceEqDiff, Nat.reduceLeDiff, Int.reduceToNat, Int.reducePow, Int.reduceBEq, Int.reduceBNe, Int.reduceLT, Int.reduceLE, decide_true, decide_false]
                    (refine aop_callHv (by rfl) (ihk) (by (repeat (first | exact hin_nil | refine hin_cons (by rfl) ?_))) (fun _ h => by cases h) (by rfl) (fun x hp' hx => ?_); obtain ⟨rfl, rfl⟩ := hx <;> simp only [go_sem, Nat.reduceAdd, Nat.reduceMul, reduceIte, Nat.reduceEqDiff, Nat.reduceLeDiff, Int.reduceToNat, Int.reducePow, Int.reduceBEq, Int.reduceBNe, Int.reduceLT, Int.reduceLE, decide_true, decide_false, Nat.reduceBEq, Bool.or_self, Bool.or_true, Bool.true_or, Bool.or_false, Bool.false_or, Bool.and_true, Bool.true_and, Bool.and_false, Bool.false_and, Bool.and_self, Bool.not_true, Bool.not_false, List.cons_append, List.nil_append, List.append_nil, if_true, if_false, Bool.false_eq_true, keysH])
                    refine hK1 _ ?_
                    clear hK1 K1
                    refine aany_arms1 (i := 12) (by kernel_rfl) ?_
                    refine armR_oY (i := 12) (by rfl) (by kernel_rfl) (by rfl) (by rfl) (fun K1 hK1 => ?_)
                    refine aop_pv (pv_not (by rfl)) ?_
                    (try simp only [go_sem])
                    refine hK1 _ ?_
                    clear hK1 K1
                    refine aany_arms1 (i := 13) (by kernel_rfl) ?_
                    refine armR_o (i := 13) (by rfl) (by kernel_rfl) (fun K1 hK1 => ?_)
                    refine aop_pv (pv_pickB (by rfl) (by rfl) (by rfl)) ?_
                    (try simp only [go_sem])
                    refine hK1 _ ?_
                    clear hK1 K1
                    refine aany_end (by kernel_rfl) ?_
                    exact ⟨rfl, Le.refl _⟩
            · (repeat' (first | (refine hK _ ?_; clear hK K) | (refine aw_seq (fun K hK => ?_)) | (refine gR ?_; refine regS ?_) | (refine gD 6 ?_; refine drS (.it 0 0 (.it 1 0 (.it 2 1 (.it 3 0 (.it 4 0 (.it 6 0 (.it 8 0 (.it 5 2 (.it 7 2 (.it 9 2 (.it 10 3 (.it 11 2 (.it 12 2 (.it 13 1 .nil)))))))))))))) [0, 1, 3, 4, 5, 6, 7, 8, 9, 11, 12] ?_) | (refine gCd 70 ?_; refine callD (hcon) ?_) | (refine stk_op (fun K hK => ?_); (first | (refine aop_pv (pv_eql (by rfl) (by rfl)) ?_) | (refine aop_pv (pv_eqlB (by rfl) (by rfl)) ?_) | (refine aop_pv (pv_eqlA (by rfl) (by rfl) (by kernel_rfl)) ?_))) | (refine adx_op (fun K hK => ?_); refine aopx_buildSlice (d := 27) (by exact ⟨by decide, by decide, by decide⟩) (by rfl) (by rfl) (by rfl) (by rfl) ?_) | (refine And.intro ?_ ?_) | (refine gDx ?_; refine adxS ?_) | (refine ado_op (fun K hK => ?_); (first | (refine appendS ?_) | (refine virtS 25 28 1 8 3 ?_; refine appendS ?_))) | (refine gE ?_; (first | (refine exN ?_) | (refine exS (fun _ => ?_)))) | (refine gGd ?_; refine guardD (fun hc => ?_) (fun hc => ?_) <;> (try (first | contradiction | (exfalso; omega)))) | (refine gQ ?_; (first | (refine condT ?_) | (refine condF ?_) | (refine condS (fun hc => ?_) (fun hc => ?_) <;> (try (first | contradiction | (exfalso; omega)))))) | (refine gWd ?_; refine wdrS ?_) | (refine gW ?_; refine wopsS ?_) | (refine aw_block ?_) | (refine gX ?_; refine exitS ?_) | (refine gT ?_; refine retS ?_) | (refine gS ?_; refine skipS ?_) | (apply_assumption (exfalso := false) (symm := false))))
              refine ⟨k + 1, by omega, by omega, ?_⟩
              rw [hpk, List.filter_append, ← List.append_assoc]
              (refine atS ?_)
              (exact weakS)
        · obtain rfl : k = n := by omega
          (repeat' (first | (refine hK _ ?_; clear hK K) | (refine aw_seq (fun K hK => ?_)) | (refine gR ?_; refine regS ?_) | (refine gD 6 ?_; refine drS (.it 0 0 (.it 1 0 (.it 2 1 (.it 3 0 (.it 4 0 (.it 6 0 (.it 8 0 (.it 5 2 (.it 7 2 (.it 9 2 (.it 10 3 (.it 11 2 (.it 12 2 (.it 13 1 .nil)))))))))))))) [0, 1, 3, 4, 5, 6, 7, 8, 9, 11, 12] ?_) | (refine gCd 70 ?_; refine callD (hcon) ?_) | (refine stk_op (fun K hK => ?_); (first | (refine aop_pv (pv_eql (by rfl) (by rfl)) ?_) | (refine aop_pv (pv_eqlB (by rfl) (by rfl)) ?_) | (refine aop_pv (pv_eqlA (by rfl) (by rfl) (by kernel_rfl)) ?_))) | (refine adx_op (fun K hK => ?_); refine aopx_buildSlice (d := 27) (by exact ⟨by decide, by decide, by decide⟩) (by rfl) (by rfl) (by rfl) (by rfl) ?_) | (refine And.intro ?_ ?_) | (refine gDx ?_; refine adxS ?_) | (refine ado_op (fun K hK => ?_); (first | (refine appendS ?_) | (refine virtS 25 28 1 8 3 ?_; refine appendS ?_))) | (refine gE ?_; (first | (refine exN ?_) | (refine exS (fun _ => ?_)))) | (refine gGd ?_; refine guardD (fun hc => ?_) (fun hc => ?_) <;> (try (first | contradiction | (exfalso; omega)))) | (refine gQ ?_; (first | (refine condT ?_) | (refine condF ?_) | (refine condS (fun hc => ?_) (fun hc => ?_) <;> (try (first | contradiction | (exfalso; omega)))))) | (refine gWd ?_; refine wdrS ?_) | (refine gW ?_; refine wopsS ?_) | (refine aw_block ?_) | (refine gX ?_; refine exitS ?_) | (refine gT ?_; refine retS ?_) | (refine gS ?_; refine skipS ?_) | (apply_assumption (exfalso := false) (symm := false))))
          refine hfin_del (rv_one (rv1_tmp (by rfl))) (by first | exact .inl rfl | exact .inr rfl) (by rfl) (by first | rfl | (simp only [go_sem, Nat.reduceAdd, Nat.reduceMul, reduceIte, Nat.reduceEqDiff, Nat.reduceLeDiff, Int.reduceToNat, Int.reducePow, Int.reduceBEq, Int.reduceBNe, Int.reduceLT, Int.reduceLE, decide_true, decide_false, Nat.reduceBEq, Bool.or_self, Bool.or_true, Bool.true_or, Bool.or_false, Bool.false_or, Bool.and_true, Bool.true_and, Bool.and_false, Bool.false_and, Bool.and_self, Bool.not_true, Bool.not_false, List.cons_append, List.nil_append, List.append_nil, if_true, if_false, Bool.false_eq_true, keysH]; done)) (by rfl) ⟨rfl, by rfl⟩
  refine aw_region ?_
  refine aops_cons rfl (fun K1 hK1 => ?_)
  refine aop_pv pv_makeFunc ?_
  simp only [go_sem, Nat.reduceAdd, Nat.reduceMul, reduceIte, Nat.reduceEqDiff, Nat.reduceLeDiff, Int.reduceToNat, Int.reducePow, Int.reduceBEq, Int.reduceBNe, Int.reduceLT, Int.reduceLE, decide_true, decide_false]; refine hK1 _ ?_; clear hK1 K1
  refine aops_cons rfl (fun K1 hK1 => ?_)
  refine aop_store (by rfl) (by rfl) (by rfl) (.inl rfl) (by rfl) (by decide) ?_
  simp only [go_sem, Nat.reduceAdd, Nat.reduceMul, reduceIte, Nat.reduceEqDiff, Nat.reduceLeDiff, Int.reduceToNat, Int.reducePow, Int.reduceBEq, Int.reduceBNe, Int.reduceLT, Int.reduceLE, decide_true, decide_false]; refine hK1 _ ?_; clear hK1 K1
  refine aops_nil ?_
  refine hK _ ?_
  simp only [go_sem, Nat.reduceAdd, Nat.reduceMul, reduceIte, Nat.reduceEqDiff, Nat.reduceLeDiff, Int.reduceToNat, Int.reducePow, Int.reduceBEq, Int.reduceBNe, Int.reduceLT, Int.reduceLE, decide_true, decide_false]
  have hk0 := hcall_le (args' := [.nilS, .iptr [.int (n : Int)], .ptr 2 0, .ptr 3 0]) (key n [] [] (by simp) (by rw [List.length_nil]; have := permsF_len n n []; have := pow_six hn6 hn6; omega)) ⟨ALe.nil 1 8, ALe.rfl' _, ALe.rfl' _, ALe.rfl' _, trivial⟩
  clear key
  simp only [List.nil_append, List.length_nil, List.map_nil] at hk0
  refine aw_region ?_
  refine aops_cons rfl (fun K1 hK1 => ?_)
  refine aop_pv (pv_load (by rfl) (by rfl) (by rfl) (by rfl)) ?_
  simp only [go_sem, Nat.reduceAdd, Nat.reduceMul, reduceIte, Nat.reduceEqDiff, Nat.reduceLeDiff, Int.reduceToNat, Int.reducePow, Int.reduceBEq, Int.reduceBNe, Int.reduceLT, Int.reduceLE, decide_true, decide_false]; refine hK1 _ ?_; clear hK1 K1
  refine aops_cons rfl (fun K1 hK1 => ?_)
  (refine aop_callHv (by rfl) (hk0) (by (repeat (first | exact hin_nil | refine hin_cons (by rfl) ?_))) (fun _ h => by cases h) (by rfl) (fun x hp' hx => ?_); obtain ⟨rfl, rfl⟩ := hx <;> simp only [go_sem, Nat.reduceAdd, Nat.reduceMul, reduceIte, Nat.reduceEqDiff, Nat.reduceLeDiff, Int.reduceToNat, Int.reducePow, Int.reduceBEq, Int.reduceBNe, Int.reduceLT, Int.reduceLE, decide_true, decide_false, Nat.reduceBEq, Bool.or_self, Bool.or_true, Bool.true_or, Bool.or_false, Bool.false_or, Bool.and_true, Bool.true_and, Bool.and_false, Bool.false_and, Bool.and_self, Bool.not_true, Bool.not_false, List.cons_append, List.nil_append, List.append_nil, if_true, if_false, Bool.false_eq_true, keysH])
  refine hK1 _ ?_; clear hK1 K1
  refine aops_nil ?_
  generalize (permsF n n []).filter (symB t) = L at *
  refine hfin_eq (Le.refl _) rv_zero (hp' := [(1, ⟨25, [.int (n : Int), ints t.init, ints t.goal, opsA t.ops], true⟩), (300, ⟨39, [.sl 1 24 301 0 L.length], true⟩), (301, ⟨22, L.map ints, false⟩),
          (1000000001, ⟨1000000001, [t.av, .ptr 1 0, .nilS, .ptr 300 0, .any, .any, .any, .ptr 1 0, .int (n : Int), .fn 68 [.iptr [.int (n : Int)]], .any, .any, .any, .any, .any, .any, .any, .any, .any, .any, .any, .any, .any], false⟩)]) (by (repeat refine hsub_has (by rfl) ?_); exact hsub_nil _) (by rfl) (by first | rfl | (simp only [go_sem, Nat.reduceAdd, Nat.reduceMul, reduceIte, Nat.reduceEqDiff, Nat.reduceLeDiff, Int.reduceToNat, Int.reducePow, Int.reduceBEq, Int.reduceBNe, Int.reduceLT, Int.reduceLE, decide_true, decide_false, Nat.reduceBEq, Bool.or_self, Bool.or_true, Bool.true_or, Bool.or_false, Bool.false_or, Bool.and_true, Bool.true_and, Bool.and_false, Bool.false_and, Bool.and_self, Bool.not_true, Bool.not_false, List.cons_append, List.nil_append, List.append_nil, if_true, if_false, Bool.false_eq_true, keysH]; done)) ⟨.normal, 1000000001, _, rfl, by rfl, by rfl, ?_⟩
  simp only [go_sem, Nat.reduceAdd, Nat.reduceMul, reduceIte, Nat.reduceEqDiff, Nat.reduceLeDiff, Int.reduceToNat, Int.reducePow, Int.reduceBEq, Int.reduceBNe, Int.reduceLT, Int.reduceLE, decide_true, decide_false]
  refine hK9 _ ?_
  
  (repeat' (first | (refine hK _ ?_; clear hK K) | (refine aw_seq (fun K hK => ?_)) | (refine gR ?_; refine regS ?_) | (refine gC 55 ?_; refine callS (permutations_pc _) ?_) | (refine gC 34 ?_; refine callS (hop) ?_) | (refine stk_op (fun K hK => ?_); (first | (refine aop_pv (pv_fieldAddrF (by rfl) (by rfl) (by first | decide | (simp; done) | (simp; omega))) ?_) | (refine aop_pv (pv_fieldAddrIF (by rfl) (by rfl) (by first | decide | (simp; done) | (simp; omega))) ?_) | (refine appendS ?_) | (refine virtS 18 21 1 24 22 ?_; refine appendS ?_))) | (refine gE ?_; (first | (refine exN ?_) | (refine exS (fun _ => ?_)))) | (refine gQ ?_; (first | (refine condT ?_) | (refine condF ?_) | (refine condS (fun hc => ?_) (fun hc => ?_) <;> (try (first | contradiction | (exfalso; omega)))))) | (refine gW ?_; refine wopsS ?_) | (refine aw_block ?_) | (refine gX ?_; refine exitS ?_) | (refine gT ?_; refine retS ?_) | (refine gS ?_; refine skipS ?_) | (apply_assumption (exfalso := false) (symm := false))))
  refine fin_sl1 (f := ints) L rfl (by rfl) (by rfl) rfl (fun _ => rfl) (fun _ => rfl) rfl

end Go.Proofs.Ytbeceabheahpnaa
