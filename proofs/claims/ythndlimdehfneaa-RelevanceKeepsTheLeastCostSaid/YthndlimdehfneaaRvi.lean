import Derived.Test.YthndlimdehfneaaRvz



namespace Go.Proofs.Ythndlimdehfneaa
open Go.Ab
open Go
set_option linter.unusedSimpArgs false
set_option linter.unusedVariables false
set_option maxRecDepth 10000
attribute [local irreducible] PV AOp AOps AW PCall OCall MCall WCall Ab.Fin OFin OFin2 MFin RV RV1 Le AStk AGrd ADr ADx ADo AOpX AAny
set_option maxHeartbeats 4000000
/-! in a pruned task everything is relevant -/
attribute [local go_sem] cast_0R
theorem prune_ops {t : Task} : (pruneT t).ops = (relO t).map fun i => pruneO (relF t) (t.ops[i.toNat]!) := by
  show prK t (relO t).length = _
  rw [← prM_all]; rfl
theorem prune_op {t : Task} {i : Nat} (hi : i < t.ops.length) (hm : meetB (relF t) t.ops[i] = true) : pruneO (relF t) t.ops[i] ∈ (pruneT t).ops := by
  rw [prune_ops, List.mem_map]
  refine ⟨(i : Int), relO_mem.2 ⟨by omega, ?_⟩, ?_⟩
  · rw [Int.toNat_natCast, getBang hi]; exact hm
  · rw [Int.toNat_natCast, getBang hi]
theorem prune_of {t : Task} {q : Op} (h : q ∈ (pruneT t).ops) : ∃ i, ∃ hi : i < t.ops.length, q = pruneO (relF t) t.ops[i] ∧ meetB (relF t) t.ops[i] = true := by
  rw [prune_ops, List.mem_map] at h
  obtain ⟨x, hx, rfl⟩ := h
  obtain ⟨hb, hm⟩ := relO_mem.1 hx
  have hlt : x.toNat < t.ops.length := by omega
  rw [getBang hlt] at hm ⊢
  exact ⟨x.toNat, hlt, rfl, hm⟩
theorem prune_wf {t : Task} (hw : WfT t) : WfT (pruneT t) := by
  have hF := relF_set hw
  have hl := isSet_len hF hw.f0
  have h24 := hw.f1
  refine ⟨by show (0 : Int) ≤ (relF t).length; omega, by show ((relF t).length : Int) ≤ 24; omega, posL_set _ _, posL_set _ _, ?_, fun q hq => ?_⟩
  · rw [prune_ops, List.length_map]
    have := relO_len (t := t)
    have := hw.n40
    omega
  · obtain ⟨i, hi, rfl, hm⟩ := prune_of hq
    have ho := hw.ops _ (List.getElem_mem hi)
    obtain ⟨_, _, _, p4⟩ := opOk_sets ho.1
    refine ⟨?_, ho.2⟩
    simp only [opOk, pruneO, Bool.and_eq_true]
    refine ⟨⟨⟨posL_set _ _, posL_set _ _⟩, posL_set _ _⟩, ?_⟩
    rw [disB_iff] at p4 ⊢
    intro x hx hy
    obtain ⟨k, hk, rfl, h1⟩ := posL_mem.1 hx
    obtain ⟨k', hk', he, h2⟩ := posL_mem.1 hy
    obtain rfl : k = k' := by omega
    exact p4 _ h1 h2
theorem prune_rel {t : Task} (hw : WfT t) {p : Int} (h : Rel t p) : ∀ (k : Nat) (hk : k < (relF t).length), (relF t)[k] = p → Rel (pruneT t) k := by
  induction h with
  | goal h =>
    intro k hk he
    exact .goal (posL_mem.2 ⟨k, hk, rfl, by rw [he]; exact h⟩)
  | pre ho hx h hp ih =>
    rename_i o x p
    intro k hk he
    have hxF := (relF_mem hw).2 h
    obtain ⟨k', hk', hke⟩ := List.getElem_of_mem hxF
    obtain ⟨i, hi, rfl⟩ := List.getElem_of_mem ho
    exact .pre (prune_op hi (meetB_iff.2 ⟨x, hx, hxF⟩)) (posL_mem.2 ⟨k', hk', rfl, by rw [hke]; exact hx⟩) (ih k' hk' hke) (posL_mem.2 ⟨k, hk, rfl, by rw [he]; exact hp⟩)
theorem upTo_len (n : Nat) : (upTo n).length = n := by simp [upTo]
theorem upTo_get {n k : Nat} (h : k < (upTo n).length) : (upTo n)[k] = k := by simp [upTo]
theorem upTo_set (n : Nat) : isSet (upTo n) n = true := by
  have h := filter_set (n := n) fun _ => true
  rw [List.filter_eq_self.2 (fun _ _ => rfl)] at h
  exact h
theorem posL_id {n : Nat} {s : List Int} (hs : isSet s n = true) : posL (upTo n) s = s := by
  have h1 := posL_set (upTo n) s
  rw [upTo_len] at h1
  refine set_ext h1 hs fun p => ?_
  rw [posL_mem]
  constructor
  · rintro ⟨k, hk, rfl, h⟩
    rw [upTo_get hk] at h; exact h
  · intro h
    have hb := (isSet_iff.1 hs).1 p h
    refine ⟨p.toNat, by rw [upTo_len]; omega, by omega, ?_⟩
    rw [upTo_get, Int.toNat_of_nonneg hb.1]; exact h
theorem prune_relF {t : Task} (hw : WfT t) : relF (pruneT t) = upTo (relF t).length := by
  have hwp := prune_wf hw
  refine set_ext (relF_set hwp) (upTo_set _) fun p => ?_
  rw [relF_mem hwp, upTo_mem]
  constructor
  · exact fun h => h.bd hwp
  · rintro ⟨h1, h2⟩
    have hk : p.toNat < (relF t).length := by omega
    have := prune_rel hw ((relF_mem hw).1 (List.getElem_mem hk)) p.toNat hk rfl
    rw [Int.toNat_of_nonneg h1] at this
    exact this
theorem prune_relO {t : Task} (hw : WfT t) : relO (pruneT t) = upTo (pruneT t).ops.length := by
  unfold relO
  refine List.filter_eq_self.2 fun i hi => ?_
  have hb := upTo_mem.1 hi
  have hlt : i.toNat < (pruneT t).ops.length := by omega
  rw [getBang hlt, prune_relF hw]
  obtain ⟨j, hj, he, hm⟩ := prune_of (List.getElem_mem hlt)
  rw [he]
  obtain ⟨x, h1, h2⟩ := meetB_iff.1 hm
  obtain ⟨k, hk, rfl⟩ := List.getElem_of_mem h2
  exact meetB_iff.2 ⟨(k : Int), posL_mem.2 ⟨k, hk, rfl, h1⟩, upTo_mem.2 ⟨by omega, by omega⟩⟩
theorem prune_idem {t : Task} (hw : WfT t) : pruneT (pruneT t) = pruneT t := by
  have hwp := prune_wf hw
  have hF := prune_relF hw
  refine task_ext ?_ ?_ ?_ ?_
  · show ((relF (pruneT t)).length : Int) = (relF t).length
    rw [hF, upTo_len]
  · show posL (relF (pruneT t)) (pruneT t).init = (pruneT t).init
    rw [hF]; exact posL_id (posL_set _ _)
  · show posL (relF (pruneT t)) (pruneT t).goal = (pruneT t).goal
    rw [hF]; exact posL_id (posL_set _ _)
  · rw [prune_ops (t := pruneT t), prune_relO hw]
    have hop : ∀ i (h : i < (pruneT t).ops.length), pruneO (relF (pruneT t)) (pruneT t).ops[i] = (pruneT t).ops[i] := fun i h => by
      obtain ⟨j, hj, he, hm⟩ := prune_of (List.getElem_mem h)
      rw [he, hF]
      exact op_ext rfl (posL_id (posL_set _ _)) (posL_id (posL_set _ _)) (posL_id (posL_set _ _))
    apply List.ext_getElem
    · rw [List.length_map, upTo_len]
    · intro i h1 h2
      rw [List.getElem_map, upTo_get, Int.toNat_natCast, getBang h2]
      exact hop i h2
theorem prune_again (t : Task) (hw : WfT t) : PCall Try.prog 17 [(pruneT t).av] (fun r => r = .tup [(pruneT t).av, ints (relF (pruneT t)), ints (relO (pruneT t)), fault 0 0]) := by
  have := prune_ok (pruneT t) (taskFault_ok.2 (prune_wf hw))
  rw [prune_idem hw] at this
  exact this
theorem idemLaw_pc (t : Task) : PCall Try.prog 4 [t.av] (fun r => r = .bool true) := by
  by_cases h : taskFault t = (0, 0)
  · have hw := taskFault_ok.1 h
    
    
    (refine enterS Try.func4 Try.ntmps4 ?_)
    (repeat' (first | (refine hK _ ?_; clear hK K) | (refine aw_seq (fun K hK => ?_)) | (refine gR ?_; refine regS ?_) | (refine gE ?_; (first | (refine exN ?_) | (refine exS (fun _ => ?_)))) | (refine gC 17 ?_; refine callS (prune_ok t h) ?_) | (refine gC 17 ?_; refine callS (prune_again t hw) ?_) | (refine gC 18 ?_; refine callS (prunes_pc) ?_) | (refine gC 21 ?_; refine callS (sameV _) ?_) | (refine stk_op (fun K hK => ?_); (first | (refine aop_pv (pv_fieldAddrF (by rfl) (by rfl) (by first | decide | (simp; done) | (simp; omega))) ?_) | (refine aop_pv (pv_fieldAddrIF (by rfl) (by rfl) (by first | decide | (simp; done) | (simp; omega))) ?_) | (refine aop_pv (pv_neq (by rfl) (by rfl)) ?_) | (refine aop_pv (pv_neqB (by rfl) (by rfl)) ?_) | (refine aop_pv (pv_neqA (by rfl) (by rfl) (by kernel_rfl)) ?_) | (refine aop_pv (pv_eql (by rfl) (by rfl)) ?_) | (refine aop_pv (pv_eqlB (by rfl) (by rfl)) ?_) | (refine aop_pv (pv_eqlA (by rfl) (by rfl) (by kernel_rfl)) ?_))) | (refine gQ ?_; (first | (refine condT ?_) | (refine condF ?_) | (refine condS (fun hc => ?_) (fun hc => ?_) <;> (try (first | contradiction | (exfalso; omega)))))) | (refine gG ?_; refine guardS (fun hc => ?_) (fun hc => ?_) <;> (try (first | contradiction | (exfalso; omega)))) | (refine gW ?_; refine wopsS ?_) | (refine aw_block ?_) | (refine gX ?_; refine exitS ?_) | (refine gT ?_; refine retS ?_) | (refine gS ?_; refine skipS ?_) | (apply_assumption (exfalso := false) (symm := false))))
    all_goals (refine fin_le (Le.refl _) (rv_one (rv1_tmp (by rfl))) (by first | rfl | (simp only [go_sem, Nat.reduceAdd, Nat.reduceMul, reduceIte, Nat.reduceEqDiff, Nat.reduceLeDiff, Int.reduceToNat, Int.reducePow, Int.reduceBEq, Int.reduceBNe, Int.reduceLT, Int.reduceLE, decide_true, decide_false])) ?_)
    all_goals first | rfl | simp
  · have hac := tf_code h
    obtain ⟨p, hf⟩ : ∃ p, taskFault t = p := ⟨_, rfl⟩
    rw [hf] at hac
    
    
    (refine enterS Try.func4 Try.ntmps4 ?_)
    (repeat' (first | (refine hK _ ?_; clear hK K) | (refine aw_seq (fun K hK => ?_)) | (refine gR ?_; refine regS ?_) | (refine gE ?_; (first | (refine exN ?_) | (refine exS (fun _ => ?_)))) | (refine gC 17 ?_; refine callS (prune_bad t p hf hac) ?_) | (refine gC 18 ?_; refine callS (prunes_pc) ?_) | (refine gC 21 ?_; refine callS (sameV _) ?_) | (refine stk_op (fun K hK => ?_); (first | (refine aop_pv (pv_fieldAddrF (by rfl) (by rfl) (by first | decide | (simp; done) | (simp; omega))) ?_) | (refine aop_pv (pv_fieldAddrIF (by rfl) (by rfl) (by first | decide | (simp; done) | (simp; omega))) ?_) | (refine aop_pv (pv_neq (by rfl) (by rfl)) ?_) | (refine aop_pv (pv_neqB (by rfl) (by rfl)) ?_) | (refine aop_pv (pv_neqA (by rfl) (by rfl) (by kernel_rfl)) ?_) | (refine aop_pv (pv_eql (by rfl) (by rfl)) ?_) | (refine aop_pv (pv_eqlB (by rfl) (by rfl)) ?_) | (refine aop_pv (pv_eqlA (by rfl) (by rfl) (by kernel_rfl)) ?_))) | (refine gQ ?_; (first | (refine condT ?_) | (refine condF ?_) | (refine condS (fun hc => ?_) (fun hc => ?_) <;> (try (first | contradiction | (exfalso; omega)))))) | (refine gG ?_; refine guardS (fun hc => ?_) (fun hc => ?_) <;> (try (first | contradiction | (exfalso; omega)))) | (refine gW ?_; refine wopsS ?_) | (refine aw_block ?_) | (refine gX ?_; refine exitS ?_) | (refine gT ?_; refine retS ?_) | (refine gS ?_; refine skipS ?_) | (apply_assumption (exfalso := false) (symm := false))))
    all_goals (refine fin_le (Le.refl _) (rv_one (rv1_tmp (by rfl))) (by first | rfl | (simp only [go_sem, Nat.reduceAdd, Nat.reduceMul, reduceIte, Nat.reduceEqDiff, Nat.reduceLeDiff, Int.reduceToNat, Int.reducePow, Int.reduceBEq, Int.reduceBNe, Int.reduceLT, Int.reduceLE, decide_true, decide_false])) ?_)
    all_goals first | rfl | simp

end Go.Proofs.Ythndlimdehfneaa
