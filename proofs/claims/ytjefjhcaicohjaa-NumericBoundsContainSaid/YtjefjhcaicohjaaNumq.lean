import Derived.Test.YtjefjhcaicohjaaNumo



namespace Go.Proofs.Ytjefjhcaicohjaa
open Go.Ab
open Go
set_option linter.unusedSimpArgs false
set_option linter.unusedVariables false
set_option maxRecDepth 10000
attribute [local irreducible] PV AOp AOps AW PCall OCall Ab.Fin OFin RV RV1 Le AStk AGrd ADr ADx ADo AOpX AAny
set_option maxHeartbeats 4000000
/-! values within intervals -/
structure Ins (v : List Int) (b : List (Int × Int)) : Prop where
  len : v.length = b.length
  at' : ∀ k (hv : k < v.length) (hb : k < b.length), b[k].1 ≤ v[k] ∧ v[k] ≤ b[k].2
theorem Ins.win {v : List Int} {a b : List (Int × Int)} (h : Ins v a) (g : Win a b) : Ins v b :=
  ⟨h.len.trans g.len, fun k hv hb => by
    have ha : k < a.length := by rw [← h.len]; exact hv
    have h1 := h.at' k hv ha
    have h2 := g.at' k ha hb
    omega⟩
theorem ins_init (t : NT) : Ins t.init (initP t) := ⟨by simp [initP], fun k hv hb => by simp only [initP, List.getElem_map]; omega⟩
theorem mul_mono {x a b y : Int} (h1 : a ≤ y) (h2 : y ≤ b) : min (x * a) (x * b) ≤ x * y ∧ x * y ≤ max (x * a) (x * b) := by
  rcases Int.le_total 0 x with hx | hx
  · have q1 := Int.mul_le_mul_of_nonneg_left h1 hx
    have q2 := Int.mul_le_mul_of_nonneg_left h2 hx
    omega
  · have q1 := Int.mul_le_mul_of_nonpos_left hx h1
    have q2 := Int.mul_le_mul_of_nonpos_left hx h2
    omega
theorem dot_sum {l v : List Int} (hl : l.length = v.length) : ∀ k, k ≤ l.length → dot (l.take k) v = sumTo (fun i => l[i]! * v[i]!) k
  | 0, _ => by simp [dot, sumTo]
  | k+1, hk => by
    have h1 : k < l.length := by omega
    have h2 : k < v.length := by omega
    rw [dot_take h1 h2, dot_sum hl k (by omega), sumTo, getBang h1, getBang h2]
theorem sumTo_le {f g : Nat → Int} : ∀ n, (∀ k, k < n → f k ≤ g k) → sumTo f n ≤ sumTo g n
  | 0, _ => by simp [sumTo]
  | n+1, h => by
    have := sumTo_le n (fun k hk => h k (by omega))
    have := h n (by omega)
    simp only [sumTo]; omega
theorem dot_in {l v : List Int} {b : List (Int × Int)} (hl : l.length = v.length) (h : Ins v b) : lowOf l b ≤ dot l v ∧ dot l v ≤ highOf l b := by
  have e : dot l v = sumTo (fun i => l[i]! * v[i]!) l.length := by
    have := dot_sum hl l.length (Nat.le_refl _)
    rwa [List.take_length] at this
  have key : ∀ k, k < l.length → loAt l b k ≤ l[k]! * v[k]! ∧ l[k]! * v[k]! ≤ hiAt l b k := by
    intro k hk
    have hv : k < v.length := by omega
    have hb : k < b.length := by rw [← h.len]; exact hv
    have q := h.at' k hv hb
    have := mul_mono (x := l[k]) q.1 q.2
    unfold loAt hiAt
    rw [getBang hk, getBang hv, getBang hb]
    exact this
  rw [e]
  exact ⟨sumTo_le _ fun k hk => (key k hk).1, sumTo_le _ fun k hk => (key k hk).2⟩
theorem pos_of_sat {v : List Int} {b : List (Int × Int)} {l : List Cmp} (hw : WfC v.length l) (h : Ins v b) (hs : sat v l = true) : posN b l = true := by
  unfold posN
  have : l.any (spFails b) = false := by
    rw [List.any_eq_false]
    intro c hc
    have hf : cmpFails v c = false := by
      unfold sat at hs
      have h2 : l.any (cmpFails v) = false := by simpa using hs
      have := List.any_eq_false.1 h2 c hc
      simpa using this
    have hq := dot_in (hw c hc).1 h
    have hn : ¬ (dot c.f v < c.bound ∨ (c.kind = 2 ∧ c.bound < dot c.f v)) := fun hh => by rw [cf_t hh] at hf; cases hf
    have : spFails b c = false := pf_f (by omega)
    rw [this]; simp
  rw [this]; rfl
/-- The new value of x, within what the changes before x's allow. -/
structure Mid (v u : List Int) (w : List (Int × Int)) : Prop where
  len : u.length = w.length
  at' : ∀ k (hu : k < u.length) (hw : k < w.length), (-1000000 ≤ u[k] ∧ u[k] ≤ 1000000) → w[k].1 ≤ u[k] ∧ u[k] ≤ w[k].2
theorem mid_step {v u : List Int} {b w : List (Int × Int)} {c : Chg} (hin : Ins v b) (hl : c.f.length = v.length) (hc : c.var.toNat < w.length) (h : Mid v u w) : Mid v (u.set c.var.toNat (dot c.f v + c.const)) (upd b w c) := by
  have hq := dot_in hl hin
  refine ⟨by rw [List.length_set, upd_len]; exact h.len, fun k hu hw hr => ?_⟩
  have hu' : k < u.length := by simpa using hu
  have hw' : k < w.length := by rw [← h.len]; exact hu'
  unfold upd
  simp only [modify_set hc, List.getElem_set] at hr ⊢
  split
  · rename_i hk
    rw [if_pos hk] at hr
    subst hk
    simp only; omega
  · rename_i hk
    rw [if_neg hk] at hr
    have := h.at' k hu' hw' hr
    omega
theorem mid_fold {v : List Int} {b : List (Int × Int)} (hin : Ins v b) : ∀ {cs : List Chg} {u : List Int} {w : List (Int × Int)}, (∀ c ∈ cs, c.f.length = v.length ∧ c.var.toNat < w.length) → Mid v u w →
    Mid v (cs.foldl (fun out c => out.set c.var.toNat (dot c.f v + c.const)) u) (cs.foldl (upd b) w)
  | [], _, _, _, h => h
  | c :: cs, u, w, hc, h => mid_fold hin (cs := cs) (fun d hd => by rw [upd_len]; exact hc d (by simp [hd])) (mid_step hin (hc c (by simp)).1 (hc c (by simp)).2 h)
theorem next_in {t : NT} (hw : WfT t) {v : List Int} {b : List (Int × Int)} (hv : OkV t v) (hb : BdP b) (hin : Ins v b) {o : NOp} (ho : o ∈ t.ops) (hz : (nextOf o v).2 = 0) : Ins (nextOf o v).1 (widenOf t b) := by
  obtain ⟨hs, he, hbd⟩ := nextOf_zero hz
  rw [he]
  simp only
  have hbl : b.length = t.init.length := by rw [← hin.len]; exact hv.len
  obtain ⟨o1, o2, hsplit⟩ := List.append_of_mem ho
  have hvars := vars_lt hw hbl
  have hpos : posN b o.pre = true := pos_of_sat (by rw [hv.len]; exact hw.pre o ho) hin hs
  have e : widenOf t b = o2.foldl (updOp b) (updOp b (o1.foldl (updOp b) b) o) := by
    unfold widenOf; rw [hsplit, List.foldl_append]; rfl
  have hv1 : ∀ o' ∈ o1, ∀ c ∈ o'.chg, c.var.toNat < b.length := fun o' ho' => hvars o' (by rw [hsplit]; simp [ho'])
  have b1 : BdP (o1.foldl (updOp b) b) := foldOp_bdP hb hv1
  have l1 : (o1.foldl (updOp b) b).length = b.length := foldOp_len b o1 b
  have w1 : Win b (o1.foldl (updOp b) b) := foldOp_win hb hv1
  generalize o1.foldl (updOp b) b = w at *
  have hvo : ∀ c ∈ o.chg, c.var.toNat < w.length := fun c hc => by rw [l1]; exact hvars o ho c hc
  have m0 : Mid v v w := by
    have := hin.win w1
    exact ⟨this.len, fun k hu hwk _ => this.at' k hu hwk⟩
  have m1 := mid_fold hin (cs := o.chg) (fun c hc => ⟨by have := (hw.chg o ho c hc).2.2.1; rw [this]; exact hv.len.symm, hvo c hc⟩) m0
  have i1 : Ins (applyChg v o.chg) (updOp b w o) := by
    unfold updOp; rw [if_pos hpos]
    exact ⟨m1.len, fun k hu hwk => m1.at' k hu hwk (hbd _ (List.getElem_mem hu))⟩
  rw [e]
  refine i1.win (foldOp_win (updOp_bdP b1 hvo) fun o' ho' c hc => ?_)
  rw [updOp_len, l1]
  exact hvars o' (by rw [hsplit]; simp [ho']) c hc



theorem bounds_le {t : NT} (hw : WfT t) {i j : Nat} (h : i ≤ j) : Win (boundsN t i) (boundsN t j) := by
  induction j with
  | zero => obtain rfl : i = 0 := by omega
            exact .refl _
  | succ j ih =>
    rcases Nat.lt_or_ge j i with h1 | h1
    · obtain rfl : i = j + 1 := by omega
      exact .refl _
    · exact (ih h1).trans (bounds_step hw j)
theorem apply_ok {t : NT} {v : List Int} {op : Int} (hf : numFault t = (0, 0)) (h : (applyOf t v op).2.1 = 0) : ∃ o ∈ t.ops, (nextOf o v).2 = 0 ∧ (applyOf t v op).1 = (nextOf o v).1 := by
  unfold applyOf at h ⊢
  rw [if_neg (by simp [hf])] at h ⊢
  split at h
  · simp at h
  · rename_i h1
    rw [if_neg h1]
    split at h
    · simp at h
    · rename_i h2
      rw [if_neg h2]
      have hlt : op.toNat < t.ops.length := by omega
      rw [getBang hlt] at h ⊢
      split at h
      · rename_i h3; exact absurd h h3
      · rename_i h3
        rw [if_neg h3]
        exact ⟨_, List.getElem_mem hlt, by simpa using h3, rfl⟩
theorem contain_pc (t : NT) (plan : List Int) : PCall Try.prog 12 [t.av, ints plan] (fun r => r = .bool true) := by
  by_cases hf : numFault t = (0, 0)
  · have hw := wfT_of hf
    have h8 := hw.n8
    by_cases hn : (plan.length : Int) < 0 ∨ 60 < (plan.length : Int)
    · have c50 := pc_eq (bounds_pc t plan.length) (b := .tup [prs [], fault 3 (-5)]) (by rw [show boundsOf t plan.length = ([], (3, -5)) by unfold boundsOf; rw [if_neg (by simp [hf]), if_pos hn]])
      (refine enterS Try.func12 Try.ntmps12 ?_)
      (repeat' (first | (refine hK _ ?_; clear hK K) | (refine aw_seq (fun K hK => ?_)) | (refine gR ?_; refine regS ?_) | (refine gD 8 ?_; refine drS (.it 0 0 (.it 1 0 (.it 2 0 (.it 3 0 (.it 4 0 (.it 5 0 (.fk 6 10 (.it 7 0 (.it 8 0 (.it 9 0 (.it 10 1 (.it 11 0 (.it 12 3 .nil)))))) (.it 6 1 (.it 7 0 (.it 8 0 (.it 9 0 (.it 11 0 (.it 12 3 .nil))))))))))))) [0, 1, 2, 3, 4, 5, 7, 8, 9, 11] ?_) | (refine gD 14 ?_; refine drS (.it 0 0 (.it 1 0 (.it 2 0 (.it 3 0 (.it 4 0 (.it 5 0 (.it 6 0 (.it 7 0 (.it 8 0 (.it 9 0 (.it 10 0 (.it 11 0 (.it 12 0 (.it 13 0 (.it 14 0 (.it 15 0 (.it 16 0 (.it 17 0 (.it 18 0 (.it 19 0 (.it 20 0 (.it 21 0 (.it 22 0 (.it 23 0 (.it 24 0 (.it 25 0 (.it 26 0 (.it 27 0 (.it 28 0 .nil))))))))))))))))))))))))))))) [0, 1, 2, 3, 4, 5, 6, 7, 8, 9, 10, 11, 12, 13, 14, 15, 16, 17, 18, 19, 20, 21, 22, 23, 24, 25, 26, 27, 28] ?_) | (refine gE ?_; (first | (refine exN ?_) | (refine exS (fun _ => ?_)))) | (refine gC 50 ?_; refine callS (c50) ?_) | (refine gC 40 ?_; refine callS (counts_pc) ?_) | (refine gCd 47 ?_; refine callD (c47) ?_) | (refine gCd 47 ?_; refine callD (apply_pc _ _ _) ?_) | (refine stk_op (fun K hK => ?_); (first | (refine aop_pv (pv_fieldAddrF (by rfl) (by rfl) (by first | decide | (simp; done) | (simp; omega))) ?_) | (refine aop_pv (pv_fieldAddrIF (by rfl) (by rfl) (by first | decide | (simp; done) | (simp; omega))) ?_) | (refine aop_pv (pv_neq (by rfl) (by rfl)) ?_) | (refine aop_pv (pv_neqB (by rfl) (by rfl)) ?_) | (refine aop_pv (pv_neqA (by rfl) (by rfl) (by kernel_rfl)) ?_) | (refine aop_pv (pv_eql (by rfl) (by rfl)) ?_) | (refine aop_pv (pv_eqlB (by rfl) (by rfl)) ?_) | (refine aop_pv (pv_eqlA (by rfl) (by rfl) (by kernel_rfl)) ?_))) | (refine adx_op (fun K hK => ?_); (first | (refine aopx_alloc (d := 10) 10 (by first | rfl | (simp [St.free, mentHp, AV.mentL, AV.ment])) ?_) | (refine pv_neq (by rfl) (by rfl) ?_) | (refine pv_neqB (by rfl) (by rfl) ?_) | (refine pv_neqA (by rfl) (by rfl) (by kernel_rfl) ?_))) | (refine And.intro ?_ ?_) | (refine gDx ?_; refine adxS ?_) | (refine gO ?_; refine adoS ?_) | (refine gQ ?_; (first | (refine condT ?_) | (refine condF ?_) | (refine condS (fun hc => ?_) (fun hc => ?_) <;> (try (first | contradiction | (exfalso; omega)))))) | (refine gG ?_; refine guardS (fun hc => ?_) (fun hc => ?_) <;> (try (first | contradiction | (exfalso; omega)))) | (refine gGd ?_; refine guardD (fun hc => ?_) (fun hc => ?_) <;> (try (first | contradiction | (exfalso; omega)))) | (refine gW ?_; refine wopsS ?_) | (refine gWd ?_; refine wdrS ?_) | (refine aw_block ?_) | (refine gX ?_; refine exitS ?_) | (refine gT ?_; refine retS ?_) | (refine gS ?_; refine skipS ?_) | (apply_assumption (exfalso := false) (symm := false))))
      (refine fin_le (Le.refl _) (rv_one (rv1_tmp (by rfl))) (by first | rfl | (simp only [go_sem, Nat.reduceAdd, Nat.reduceMul, reduceIte, Nat.reduceEqDiff, Nat.reduceLeDiff, Int.reduceBEq, Int.reduceBNe, Int.reduceLT, Int.reduceLE, decide_true, decide_false])) ?_)
      rfl
    · have c50 := pc_eq (bounds_pc t plan.length) (b := .tup [prs (boundsN t plan.length), fault 0 0]) (by rw [show boundsOf t plan.length = (boundsN t plan.length, (0, 0)) by unfold boundsOf; rw [if_neg (by simp [hf]), if_neg hn]; rfl])
      have hB := (bounds_ok hw plan.length).1
      (refine enterS Try.func12 Try.ntmps12 ?_)
      (repeat' (first | (refine hK _ ?_; clear hK K) | (refine aw_seq (fun K hK => ?_)) | (refine gR ?_; refine regS ?_) | (refine gD 8 ?_; refine drS (.it 0 0 (.it 1 0 (.it 2 0 (.it 3 0 (.it 4 0 (.it 5 0 (.fk 6 10 (.it 7 0 (.it 8 0 (.it 9 0 (.it 10 1 (.it 11 0 (.it 12 3 .nil)))))) (.it 6 1 (.it 7 0 (.it 8 0 (.it 9 0 (.it 11 0 (.it 12 3 .nil))))))))))))) [0, 1, 2, 3, 4, 5, 7, 8, 9, 11] ?_) | (refine gD 14 ?_; refine drS (.it 0 0 (.it 1 0 (.it 2 0 (.it 3 0 (.it 4 0 (.it 5 0 (.it 6 0 (.it 7 0 (.it 8 0 (.it 9 0 (.it 10 0 (.it 11 0 (.it 12 0 (.it 13 0 (.it 14 0 (.it 15 0 (.it 16 0 (.it 17 0 (.it 18 0 (.it 19 0 (.it 20 0 (.it 21 0 (.it 22 0 (.it 23 0 (.it 24 0 (.it 25 0 (.it 26 0 (.it 27 0 (.it 28 0 .nil))))))))))))))))))))))))))))) [0, 1, 2, 3, 4, 5, 6, 7, 8, 9, 10, 11, 12, 13, 14, 15, 16, 17, 18, 19, 20, 21, 22, 23, 24, 25, 26, 27, 28] ?_) | (refine gE ?_; (first | (refine exN ?_) | (refine exS (fun _ => ?_)))) | (refine gC 50 ?_; refine callS (c50) ?_) | (refine gC 40 ?_; refine callS (counts_pc) ?_) | (refine gCd 47 ?_; refine callD (c47) ?_) | (refine gCd 47 ?_; refine callD (apply_pc _ _ _) ?_) | (refine stk_op (fun K hK => ?_); (first | (refine aop_pv (pv_fieldAddrF (by rfl) (by rfl) (by first | decide | (simp; done) | (simp; omega))) ?_) | (refine aop_pv (pv_fieldAddrIF (by rfl) (by rfl) (by first | decide | (simp; done) | (simp; omega))) ?_) | (refine aop_pv (pv_neq (by rfl) (by rfl)) ?_) | (refine aop_pv (pv_neqB (by rfl) (by rfl)) ?_) | (refine aop_pv (pv_neqA (by rfl) (by rfl) (by kernel_rfl)) ?_) | (refine aop_pv (pv_eql (by rfl) (by rfl)) ?_) | (refine aop_pv (pv_eqlB (by rfl) (by rfl)) ?_) | (refine aop_pv (pv_eqlA (by rfl) (by rfl) (by kernel_rfl)) ?_))) | (refine adx_op (fun K hK => ?_); (first | (refine aopx_alloc (d := 10) 10 (by first | rfl | (simp [St.free, mentHp, AV.mentL, AV.ment])) ?_) | (refine pv_neq (by rfl) (by rfl) ?_) | (refine pv_neqB (by rfl) (by rfl) ?_) | (refine pv_neqA (by rfl) (by rfl) (by kernel_rfl) ?_))) | (refine And.intro ?_ ?_) | (refine gDx ?_; refine adxS ?_) | (refine gO ?_; refine adoS ?_) | (refine gQ ?_; (first | (refine condT ?_) | (refine condF ?_) | (refine condS (fun hc => ?_) (fun hc => ?_) <;> (try (first | contradiction | (exfalso; omega)))))) | (refine gG ?_; refine guardS (fun hc => ?_) (fun hc => ?_) <;> (try (first | contradiction | (exfalso; omega)))) | (refine gGd ?_; refine guardD (fun hc => ?_) (fun hc => ?_) <;> (try (first | contradiction | (exfalso; omega)))) | (refine gW ?_; refine wopsS ?_) | (refine gWd ?_; refine wdrS ?_) | (refine aw_block ?_) | (refine gX ?_; refine exitS ?_) | (refine gT ?_; refine retS ?_) | (refine gS ?_; refine skipS ?_) | (apply_assumption (exfalso := false) (symm := false))))
      refine aw_loop_at [7, 8, 9, 10, 34, 35, 36, 37, 38, 39, 40, 41, 42, 43, 44, 45, 46, 47, 48, 49, 50, 51, 52, 53] (fun (p : Nat × List Int) => p.1 ≤ plan.length ∧ OkV t p.2 ∧ Ins p.2 (boundsN t p.1)) (fun p => plan.length - p.1) (fun p => [(8, .int p.1), (7, ints p.2)])
        (fun p => [(2, ⟨62, [ints t.init, .isl 3 40 (t.goal.map Cmp.av), .isl 3 56 (t.ops.map NOp.av)], true⟩)]) (0, t.init) ⟨by simp, ⟨rfl, hw.bd⟩, ins_init t⟩ ?_ ?_
      · (simp only [sets, havoc, go_sem, Nat.reduceAdd, Nat.reduceMul, reduceIte, Nat.reduceEqDiff, Nat.reduceLeDiff, Int.reduceBEq, Int.reduceBNe, Int.reduceLT, Int.reduceLE, decide_true, decide_false])
        (exact weakS)
      · rintro ⟨j, v⟩ ⟨hj, hv, hin⟩ K hK
        simp only at hj hv hin
        have hvl := hv.len
        have hI := hin.win (bounds_le hw hj)
        (simp only [sets, havoc, go_sem, Nat.reduceAdd, Nat.reduceMul, reduceIte, Nat.reduceEqDiff, Nat.reduceLeDiff, Int.reduceBEq, Int.reduceBNe, Int.reduceLT, Int.reduceLE, decide_true, decide_false])
        by_cases hlt : j < plan.length
        · have hap := apply_ok (v := v) (op := plan[j]) hf
          (repeat' (first | (refine hK _ ?_; clear hK K) | (refine aw_seq (fun K hK => ?_)) | (refine gR ?_; refine regS ?_) | (refine gD 8 ?_; refine drS (.it 0 0 (.it 1 0 (.it 2 0 (.it 3 0 (.it 4 0 (.it 5 0 (.fk 6 10 (.it 7 0 (.it 8 0 (.it 9 0 (.it 10 1 (.it 11 0 (.it 12 3 .nil)))))) (.it 6 1 (.it 7 0 (.it 8 0 (.it 9 0 (.it 11 0 (.it 12 3 .nil))))))))))))) [0, 1, 2, 3, 4, 5, 7, 8, 9, 11] ?_) | (refine gD 14 ?_; refine drS (.it 0 0 (.it 1 0 (.it 2 0 (.it 3 0 (.it 4 0 (.it 5 0 (.it 6 0 (.it 7 0 (.it 8 0 (.it 9 0 (.it 10 0 (.it 11 0 (.it 12 0 (.it 13 0 (.it 14 0 (.it 15 0 (.it 16 0 (.it 17 0 (.it 18 0 (.it 19 0 (.it 20 0 (.it 21 0 (.it 22 0 (.it 23 0 (.it 24 0 (.it 25 0 (.it 26 0 (.it 27 0 (.it 28 0 .nil))))))))))))))))))))))))))))) [0, 1, 2, 3, 4, 5, 6, 7, 8, 9, 10, 11, 12, 13, 14, 15, 16, 17, 18, 19, 20, 21, 22, 23, 24, 25, 26, 27, 28] ?_) | (refine gE ?_; (first | (refine exN ?_) | (refine exS (fun _ => ?_)))) | (refine gC 50 ?_; refine callS (c50) ?_) | (refine gC 40 ?_; refine callS (counts_pc) ?_) | (refine gCd 47 ?_; refine callD (c47) ?_) | (refine gCd 47 ?_; refine callD (apply_pc _ _ _) ?_) | (refine stk_op (fun K hK => ?_); (first | (refine aop_pv (pv_fieldAddrF (by rfl) (by rfl) (by first | decide | (simp; done) | (simp; omega))) ?_) | (refine aop_pv (pv_fieldAddrIF (by rfl) (by rfl) (by first | decide | (simp; done) | (simp; omega))) ?_) | (refine aop_pv (pv_neq (by rfl) (by rfl)) ?_) | (refine aop_pv (pv_neqB (by rfl) (by rfl)) ?_) | (refine aop_pv (pv_neqA (by rfl) (by rfl) (by kernel_rfl)) ?_) | (refine aop_pv (pv_eql (by rfl) (by rfl)) ?_) | (refine aop_pv (pv_eqlB (by rfl) (by rfl)) ?_) | (refine aop_pv (pv_eqlA (by rfl) (by rfl) (by kernel_rfl)) ?_))) | (refine adx_op (fun K hK => ?_); (first | (refine aopx_alloc (d := 10) 10 (by first | rfl | (simp [St.free, mentHp, AV.mentL, AV.ment])) ?_) | (refine pv_neq (by rfl) (by rfl) ?_) | (refine pv_neqB (by rfl) (by rfl) ?_) | (refine pv_neqA (by rfl) (by rfl) (by kernel_rfl) ?_))) | (refine And.intro ?_ ?_) | (refine gDx ?_; refine adxS ?_) | (refine gO ?_; refine adoS ?_) | (refine gQ ?_; (first | (refine condT ?_) | (refine condF ?_) | (refine condS (fun hc => ?_) (fun hc => ?_) <;> (try (first | contradiction | (exfalso; omega)))))) | (refine gG ?_; refine guardS (fun hc => ?_) (fun hc => ?_) <;> (try (first | contradiction | (exfalso; omega)))) | (refine gGd ?_; refine guardD (fun hc => ?_) (fun hc => ?_) <;> (try (first | contradiction | (exfalso; omega)))) | (refine gW ?_; refine wopsS ?_) | (refine gWd ?_; refine wdrS ?_) | (refine aw_block ?_) | (refine gX ?_; refine exitS ?_) | (refine gT ?_; refine retS ?_) | (refine gS ?_; refine skipS ?_) | (apply_assumption (exfalso := false) (symm := false))))
          all_goals first
            | (obtain ⟨o, ho, hz, he⟩ := hap (by assumption); have hin2 := next_in hw hv (bounds_ok hw j).2 hin ho hz; refine ⟨(j + 1, (applyOf t v plan[j]).1), ⟨by simp only; omega, by rw [he]; exact nextOf_ok hv hz, by rw [he]; exact hin2⟩, by simp only; omega, ?_⟩; (simp only [sets, havoc, go_sem, Nat.reduceAdd, Nat.reduceMul, reduceIte, Nat.reduceEqDiff, Nat.reduceLeDiff, Int.reduceBEq, Int.reduceBNe, Int.reduceLT, Int.reduceLE, decide_true, decide_false]); (exact weakS); done)
            | (generalize boundsN t plan.length = B at *
               refine aw_loop_at [4, 11, 54, 55, 56, 57, 58, 59, 60, 61, 62, 63, 64, 65, 66, 67, 68, 69, 70, 71, 72, 73, 74, 75, 76, 77, 78, 79, 80, 81, 82, 83, 84, 85, 86, 87, 88] (fun k : Nat => k ≤ v.length) (fun k => v.length - k) (fun k => [(11, .int k)])
                 (fun k => [(2, ⟨62, [ints t.init, .isl 3 40 (t.goal.map Cmp.av), .isl 3 56 (t.ops.map NOp.av)], true⟩)]) 0 (by omega) ?_ ?_
               · (simp only [sets, havoc, go_sem, Nat.reduceAdd, Nat.reduceMul, reduceIte, Nat.reduceEqDiff, Nat.reduceLeDiff, Int.reduceBEq, Int.reduceBNe, Int.reduceLT, Int.reduceLE, decide_true, decide_false])
                 (exact weakS)
               · rintro k hk K hK
                 (simp only [sets, havoc, go_sem, Nat.reduceAdd, Nat.reduceMul, reduceIte, Nat.reduceEqDiff, Nat.reduceLeDiff, Int.reduceBEq, Int.reduceBNe, Int.reduceLT, Int.reduceLE, decide_true, decide_false])
                 by_cases hlx : k < v.length
                 · have q := hI.at' k hlx (by omega)
                   (repeat' (first | (refine hK _ ?_; clear hK K) | (refine aw_seq (fun K hK => ?_)) | (refine gR ?_; refine regS ?_) | (refine gD 8 ?_; refine drS (.it 0 0 (.it 1 0 (.it 2 0 (.it 3 0 (.it 4 0 (.it 5 0 (.fk 6 10 (.it 7 0 (.it 8 0 (.it 9 0 (.it 10 1 (.it 11 0 (.it 12 3 .nil)))))) (.it 6 1 (.it 7 0 (.it 8 0 (.it 9 0 (.it 11 0 (.it 12 3 .nil))))))))))))) [0, 1, 2, 3, 4, 5, 7, 8, 9, 11] ?_) | (refine gD 14 ?_; refine drS (.it 0 0 (.it 1 0 (.it 2 0 (.it 3 0 (.it 4 0 (.it 5 0 (.it 6 0 (.it 7 0 (.it 8 0 (.it 9 0 (.it 10 0 (.it 11 0 (.it 12 0 (.it 13 0 (.it 14 0 (.it 15 0 (.it 16 0 (.it 17 0 (.it 18 0 (.it 19 0 (.it 20 0 (.it 21 0 (.it 22 0 (.it 23 0 (.it 24 0 (.it 25 0 (.it 26 0 (.it 27 0 (.it 28 0 .nil))))))))))))))))))))))))))))) [0, 1, 2, 3, 4, 5, 6, 7, 8, 9, 10, 11, 12, 13, 14, 15, 16, 17, 18, 19, 20, 21, 22, 23, 24, 25, 26, 27, 28] ?_) | (refine gE ?_; (first | (refine exN ?_) | (refine exS (fun _ => ?_)))) | (refine gC 50 ?_; refine callS (c50) ?_) | (refine gC 40 ?_; refine callS (counts_pc) ?_) | (refine gCd 47 ?_; refine callD (c47) ?_) | (refine gCd 47 ?_; refine callD (apply_pc _ _ _) ?_) | (refine stk_op (fun K hK => ?_); (first | (refine aop_pv (pv_fieldAddrF (by rfl) (by rfl) (by first | decide | (simp; done) | (simp; omega))) ?_) | (refine aop_pv (pv_fieldAddrIF (by rfl) (by rfl) (by first | decide | (simp; done) | (simp; omega))) ?_) | (refine aop_pv (pv_neq (by rfl) (by rfl)) ?_) | (refine aop_pv (pv_neqB (by rfl) (by rfl)) ?_) | (refine aop_pv (pv_neqA (by rfl) (by rfl) (by kernel_rfl)) ?_) | (refine aop_pv (pv_eql (by rfl) (by rfl)) ?_) | (refine aop_pv (pv_eqlB (by rfl) (by rfl)) ?_) | (refine aop_pv (pv_eqlA (by rfl) (by rfl) (by kernel_rfl)) ?_))) | (refine adx_op (fun K hK => ?_); (first | (refine aopx_alloc (d := 10) 10 (by first | rfl | (simp [St.free, mentHp, AV.mentL, AV.ment])) ?_) | (refine pv_neq (by rfl) (by rfl) ?_) | (refine pv_neqB (by rfl) (by rfl) ?_) | (refine pv_neqA (by rfl) (by rfl) (by kernel_rfl) ?_))) | (refine And.intro ?_ ?_) | (refine gDx ?_; refine adxS ?_) | (refine gO ?_; refine adoS ?_) | (refine gQ ?_; (first | (refine condT ?_) | (refine condF ?_) | (refine condS (fun hc => ?_) (fun hc => ?_) <;> (try (first | contradiction | (exfalso; omega)))))) | (refine gG ?_; refine guardS (fun hc => ?_) (fun hc => ?_) <;> (try (first | contradiction | (exfalso; omega)))) | (refine gGd ?_; refine guardD (fun hc => ?_) (fun hc => ?_) <;> (try (first | contradiction | (exfalso; omega)))) | (refine gW ?_; refine wopsS ?_) | (refine gWd ?_; refine wdrS ?_) | (refine aw_block ?_) | (refine gX ?_; refine exitS ?_) | (refine gT ?_; refine retS ?_) | (refine gS ?_; refine skipS ?_) | (apply_assumption (exfalso := false) (symm := false))))
                   (refine ⟨k + 1, by omega, by omega, ?_⟩; (simp only [sets, havoc, go_sem, Nat.reduceAdd, Nat.reduceMul, reduceIte, Nat.reduceEqDiff, Nat.reduceLeDiff, Int.reduceBEq, Int.reduceBNe, Int.reduceLT, Int.reduceLE, decide_true, decide_false]); (exact weakS))
                 · (repeat' (first | (refine hK _ ?_; clear hK K) | (refine aw_seq (fun K hK => ?_)) | (refine gR ?_; refine regS ?_) | (refine gD 8 ?_; refine drS (.it 0 0 (.it 1 0 (.it 2 0 (.it 3 0 (.it 4 0 (.it 5 0 (.fk 6 10 (.it 7 0 (.it 8 0 (.it 9 0 (.it 10 1 (.it 11 0 (.it 12 3 .nil)))))) (.it 6 1 (.it 7 0 (.it 8 0 (.it 9 0 (.it 11 0 (.it 12 3 .nil))))))))))))) [0, 1, 2, 3, 4, 5, 7, 8, 9, 11] ?_) | (refine gD 14 ?_; refine drS (.it 0 0 (.it 1 0 (.it 2 0 (.it 3 0 (.it 4 0 (.it 5 0 (.it 6 0 (.it 7 0 (.it 8 0 (.it 9 0 (.it 10 0 (.it 11 0 (.it 12 0 (.it 13 0 (.it 14 0 (.it 15 0 (.it 16 0 (.it 17 0 (.it 18 0 (.it 19 0 (.it 20 0 (.it 21 0 (.it 22 0 (.it 23 0 (.it 24 0 (.it 25 0 (.it 26 0 (.it 27 0 (.it 28 0 .nil))))))))))))))))))))))))))))) [0, 1, 2, 3, 4, 5, 6, 7, 8, 9, 10, 11, 12, 13, 14, 15, 16, 17, 18, 19, 20, 21, 22, 23, 24, 25, 26, 27, 28] ?_) | (refine gE ?_; (first | (refine exN ?_) | (refine exS (fun _ => ?_)))) | (refine gC 50 ?_; refine callS (c50) ?_) | (refine gC 40 ?_; refine callS (counts_pc) ?_) | (refine gCd 47 ?_; refine callD (c47) ?_) | (refine gCd 47 ?_; refine callD (apply_pc _ _ _) ?_) | (refine stk_op (fun K hK => ?_); (first | (refine aop_pv (pv_fieldAddrF (by rfl) (by rfl) (by first | decide | (simp; done) | (simp; omega))) ?_) | (refine aop_pv (pv_fieldAddrIF (by rfl) (by rfl) (by first | decide | (simp; done) | (simp; omega))) ?_) | (refine aop_pv (pv_neq (by rfl) (by rfl)) ?_) | (refine aop_pv (pv_neqB (by rfl) (by rfl)) ?_) | (refine aop_pv (pv_neqA (by rfl) (by rfl) (by kernel_rfl)) ?_) | (refine aop_pv (pv_eql (by rfl) (by rfl)) ?_) | (refine aop_pv (pv_eqlB (by rfl) (by rfl)) ?_) | (refine aop_pv (pv_eqlA (by rfl) (by rfl) (by kernel_rfl)) ?_))) | (refine adx_op (fun K hK => ?_); (first | (refine aopx_alloc (d := 10) 10 (by first | rfl | (simp [St.free, mentHp, AV.mentL, AV.ment])) ?_) | (refine pv_neq (by rfl) (by rfl) ?_) | (refine pv_neqB (by rfl) (by rfl) ?_) | (refine pv_neqA (by rfl) (by rfl) (by kernel_rfl) ?_))) | (refine And.intro ?_ ?_) | (refine gDx ?_; refine adxS ?_) | (refine gO ?_; refine adoS ?_) | (refine gQ ?_; (first | (refine condT ?_) | (refine condF ?_) | (refine condS (fun hc => ?_) (fun hc => ?_) <;> (try (first | contradiction | (exfalso; omega)))))) | (refine gG ?_; refine guardS (fun hc => ?_) (fun hc => ?_) <;> (try (first | contradiction | (exfalso; omega)))) | (refine gGd ?_; refine guardD (fun hc => ?_) (fun hc => ?_) <;> (try (first | contradiction | (exfalso; omega)))) | (refine gW ?_; refine wopsS ?_) | (refine gWd ?_; refine wdrS ?_) | (refine aw_block ?_) | (refine gX ?_; refine exitS ?_) | (refine gT ?_; refine retS ?_) | (refine gS ?_; refine skipS ?_) | (apply_assumption (exfalso := false) (symm := false))))
                   (refine fin_le (Le.refl _) (rv_one (rv1_tmp (by rfl))) (by first | rfl | (simp only [go_sem, Nat.reduceAdd, Nat.reduceMul, reduceIte, Nat.reduceEqDiff, Nat.reduceLeDiff, Int.reduceBEq, Int.reduceBNe, Int.reduceLT, Int.reduceLE, decide_true, decide_false])) ?_)
                   rfl)
        · generalize boundsN t plan.length = B at *
          (repeat' (first | (refine hK _ ?_; clear hK K) | (refine aw_seq (fun K hK => ?_)) | (refine gR ?_; refine regS ?_) | (refine gD 8 ?_; refine drS (.it 0 0 (.it 1 0 (.it 2 0 (.it 3 0 (.it 4 0 (.it 5 0 (.fk 6 10 (.it 7 0 (.it 8 0 (.it 9 0 (.it 10 1 (.it 11 0 (.it 12 3 .nil)))))) (.it 6 1 (.it 7 0 (.it 8 0 (.it 9 0 (.it 11 0 (.it 12 3 .nil))))))))))))) [0, 1, 2, 3, 4, 5, 7, 8, 9, 11] ?_) | (refine gD 14 ?_; refine drS (.it 0 0 (.it 1 0 (.it 2 0 (.it 3 0 (.it 4 0 (.it 5 0 (.it 6 0 (.it 7 0 (.it 8 0 (.it 9 0 (.it 10 0 (.it 11 0 (.it 12 0 (.it 13 0 (.it 14 0 (.it 15 0 (.it 16 0 (.it 17 0 (.it 18 0 (.it 19 0 (.it 20 0 (.it 21 0 (.it 22 0 (.it 23 0 (.it 24 0 (.it 25 0 (.it 26 0 (.it 27 0 (.it 28 0 .nil))))))))))))))))))))))))))))) [0, 1, 2, 3, 4, 5, 6, 7, 8, 9, 10, 11, 12, 13, 14, 15, 16, 17, 18, 19, 20, 21, 22, 23, 24, 25, 26, 27, 28] ?_) | (refine gE ?_; (first | (refine exN ?_) | (refine exS (fun _ => ?_)))) | (refine gC 50 ?_; refine callS (c50) ?_) | (refine gC 40 ?_; refine callS (counts_pc) ?_) | (refine gCd 47 ?_; refine callD (c47) ?_) | (refine gCd 47 ?_; refine callD (apply_pc _ _ _) ?_) | (refine stk_op (fun K hK => ?_); (first | (refine aop_pv (pv_fieldAddrF (by rfl) (by rfl) (by first | decide | (simp; done) | (simp; omega))) ?_) | (refine aop_pv (pv_fieldAddrIF (by rfl) (by rfl) (by first | decide | (simp; done) | (simp; omega))) ?_) | (refine aop_pv (pv_neq (by rfl) (by rfl)) ?_) | (refine aop_pv (pv_neqB (by rfl) (by rfl)) ?_) | (refine aop_pv (pv_neqA (by rfl) (by rfl) (by kernel_rfl)) ?_) | (refine aop_pv (pv_eql (by rfl) (by rfl)) ?_) | (refine aop_pv (pv_eqlB (by rfl) (by rfl)) ?_) | (refine aop_pv (pv_eqlA (by rfl) (by rfl) (by kernel_rfl)) ?_))) | (refine adx_op (fun K hK => ?_); (first | (refine aopx_alloc (d := 10) 10 (by first | rfl | (simp [St.free, mentHp, AV.mentL, AV.ment])) ?_) | (refine pv_neq (by rfl) (by rfl) ?_) | (refine pv_neqB (by rfl) (by rfl) ?_) | (refine pv_neqA (by rfl) (by rfl) (by kernel_rfl) ?_))) | (refine And.intro ?_ ?_) | (refine gDx ?_; refine adxS ?_) | (refine gO ?_; refine adoS ?_) | (refine gQ ?_; (first | (refine condT ?_) | (refine condF ?_) | (refine condS (fun hc => ?_) (fun hc => ?_) <;> (try (first | contradiction | (exfalso; omega)))))) | (refine gG ?_; refine guardS (fun hc => ?_) (fun hc => ?_) <;> (try (first | contradiction | (exfalso; omega)))) | (refine gGd ?_; refine guardD (fun hc => ?_) (fun hc => ?_) <;> (try (first | contradiction | (exfalso; omega)))) | (refine gW ?_; refine wopsS ?_) | (refine gWd ?_; refine wdrS ?_) | (refine aw_block ?_) | (refine gX ?_; refine exitS ?_) | (refine gT ?_; refine retS ?_) | (refine gS ?_; refine skipS ?_) | (apply_assumption (exfalso := false) (symm := false))))
          refine aw_loop_at [4, 11, 54, 55, 56, 57, 58, 59, 60, 61, 62, 63, 64, 65, 66, 67, 68, 69, 70, 71, 72, 73, 74, 75, 76, 77, 78, 79, 80, 81, 82, 83, 84, 85, 86, 87, 88] (fun k : Nat => k ≤ v.length) (fun k => v.length - k) (fun k => [(11, .int k)])
            (fun k => [(2, ⟨62, [ints t.init, .isl 3 40 (t.goal.map Cmp.av), .isl 3 56 (t.ops.map NOp.av)], true⟩)]) 0 (by omega) ?_ ?_
          · (simp only [sets, havoc, go_sem, Nat.reduceAdd, Nat.reduceMul, reduceIte, Nat.reduceEqDiff, Nat.reduceLeDiff, Int.reduceBEq, Int.reduceBNe, Int.reduceLT, Int.reduceLE, decide_true, decide_false])
            (exact weakS)
          · rintro k hk K hK
            (simp only [sets, havoc, go_sem, Nat.reduceAdd, Nat.reduceMul, reduceIte, Nat.reduceEqDiff, Nat.reduceLeDiff, Int.reduceBEq, Int.reduceBNe, Int.reduceLT, Int.reduceLE, decide_true, decide_false])
            by_cases hlx : k < v.length
            · have q := hI.at' k hlx (by omega)
              (repeat' (first | (refine hK _ ?_; clear hK K) | (refine aw_seq (fun K hK => ?_)) | (refine gR ?_; refine regS ?_) | (refine gD 8 ?_; refine drS (.it 0 0 (.it 1 0 (.it 2 0 (.it 3 0 (.it 4 0 (.it 5 0 (.fk 6 10 (.it 7 0 (.it 8 0 (.it 9 0 (.it 10 1 (.it 11 0 (.it 12 3 .nil)))))) (.it 6 1 (.it 7 0 (.it 8 0 (.it 9 0 (.it 11 0 (.it 12 3 .nil))))))))))))) [0, 1, 2, 3, 4, 5, 7, 8, 9, 11] ?_) | (refine gD 14 ?_; refine drS (.it 0 0 (.it 1 0 (.it 2 0 (.it 3 0 (.it 4 0 (.it 5 0 (.it 6 0 (.it 7 0 (.it 8 0 (.it 9 0 (.it 10 0 (.it 11 0 (.it 12 0 (.it 13 0 (.it 14 0 (.it 15 0 (.it 16 0 (.it 17 0 (.it 18 0 (.it 19 0 (.it 20 0 (.it 21 0 (.it 22 0 (.it 23 0 (.it 24 0 (.it 25 0 (.it 26 0 (.it 27 0 (.it 28 0 .nil))))))))))))))))))))))))))))) [0, 1, 2, 3, 4, 5, 6, 7, 8, 9, 10, 11, 12, 13, 14, 15, 16, 17, 18, 19, 20, 21, 22, 23, 24, 25, 26, 27, 28] ?_) | (refine gE ?_; (first | (refine exN ?_) | (refine exS (fun _ => ?_)))) | (refine gC 50 ?_; refine callS (c50) ?_) | (refine gC 40 ?_; refine callS (counts_pc) ?_) | (refine gCd 47 ?_; refine callD (c47) ?_) | (refine gCd 47 ?_; refine callD (apply_pc _ _ _) ?_) | (refine stk_op (fun K hK => ?_); (first | (refine aop_pv (pv_fieldAddrF (by rfl) (by rfl) (by first | decide | (simp; done) | (simp; omega))) ?_) | (refine aop_pv (pv_fieldAddrIF (by rfl) (by rfl) (by first | decide | (simp; done) | (simp; omega))) ?_) | (refine aop_pv (pv_neq (by rfl) (by rfl)) ?_) | (refine aop_pv (pv_neqB (by rfl) (by rfl)) ?_) | (refine aop_pv (pv_neqA (by rfl) (by rfl) (by kernel_rfl)) ?_) | (refine aop_pv (pv_eql (by rfl) (by rfl)) ?_) | (refine aop_pv (pv_eqlB (by rfl) (by rfl)) ?_) | (refine aop_pv (pv_eqlA (by rfl) (by rfl) (by kernel_rfl)) ?_))) | (refine adx_op (fun K hK => ?_); (first | (refine aopx_alloc (d := 10) 10 (by first | rfl | (simp [St.free, mentHp, AV.mentL, AV.ment])) ?_) | (refine pv_neq (by rfl) (by rfl) ?_) | (refine pv_neqB (by rfl) (by rfl) ?_) | (refine pv_neqA (by rfl) (by rfl) (by kernel_rfl) ?_))) | (refine And.intro ?_ ?_) | (refine gDx ?_; refine adxS ?_) | (refine gO ?_; refine adoS ?_) | (refine gQ ?_; (first | (refine condT ?_) | (refine condF ?_) | (refine condS (fun hc => ?_) (fun hc => ?_) <;> (try (first | contradiction | (exfalso; omega)))))) | (refine gG ?_; refine guardS (fun hc => ?_) (fun hc => ?_) <;> (try (first | contradiction | (exfalso; omega)))) | (refine gGd ?_; refine guardD (fun hc => ?_) (fun hc => ?_) <;> (try (first | contradiction | (exfalso; omega)))) | (refine gW ?_; refine wopsS ?_) | (refine gWd ?_; refine wdrS ?_) | (refine aw_block ?_) | (refine gX ?_; refine exitS ?_) | (refine gT ?_; refine retS ?_) | (refine gS ?_; refine skipS ?_) | (apply_assumption (exfalso := false) (symm := false))))
              (refine ⟨k + 1, by omega, by omega, ?_⟩; (simp only [sets, havoc, go_sem, Nat.reduceAdd, Nat.reduceMul, reduceIte, Nat.reduceEqDiff, Nat.reduceLeDiff, Int.reduceBEq, Int.reduceBNe, Int.reduceLT, Int.reduceLE, decide_true, decide_false]); (exact weakS))
            · (repeat' (first | (refine hK _ ?_; clear hK K) | (refine aw_seq (fun K hK => ?_)) | (refine gR ?_; refine regS ?_) | (refine gD 8 ?_; refine drS (.it 0 0 (.it 1 0 (.it 2 0 (.it 3 0 (.it 4 0 (.it 5 0 (.fk 6 10 (.it 7 0 (.it 8 0 (.it 9 0 (.it 10 1 (.it 11 0 (.it 12 3 .nil)))))) (.it 6 1 (.it 7 0 (.it 8 0 (.it 9 0 (.it 11 0 (.it 12 3 .nil))))))))))))) [0, 1, 2, 3, 4, 5, 7, 8, 9, 11] ?_) | (refine gD 14 ?_; refine drS (.it 0 0 (.it 1 0 (.it 2 0 (.it 3 0 (.it 4 0 (.it 5 0 (.it 6 0 (.it 7 0 (.it 8 0 (.it 9 0 (.it 10 0 (.it 11 0 (.it 12 0 (.it 13 0 (.it 14 0 (.it 15 0 (.it 16 0 (.it 17 0 (.it 18 0 (.it 19 0 (.it 20 0 (.it 21 0 (.it 22 0 (.it 23 0 (.it 24 0 (.it 25 0 (.it 26 0 (.it 27 0 (.it 28 0 .nil))))))))))))))))))))))))))))) [0, 1, 2, 3, 4, 5, 6, 7, 8, 9, 10, 11, 12, 13, 14, 15, 16, 17, 18, 19, 20, 21, 22, 23, 24, 25, 26, 27, 28] ?_) | (refine gE ?_; (first | (refine exN ?_) | (refine exS (fun _ => ?_)))) | (refine gC 50 ?_; refine callS (c50) ?_) | (refine gC 40 ?_; refine callS (counts_pc) ?_) | (refine gCd 47 ?_; refine callD (c47) ?_) | (refine gCd 47 ?_; refine callD (apply_pc _ _ _) ?_) | (refine stk_op (fun K hK => ?_); (first | (refine aop_pv (pv_fieldAddrF (by rfl) (by rfl) (by first | decide | (simp; done) | (simp; omega))) ?_) | (refine aop_pv (pv_fieldAddrIF (by rfl) (by rfl) (by first | decide | (simp; done) | (simp; omega))) ?_) | (refine aop_pv (pv_neq (by rfl) (by rfl)) ?_) | (refine aop_pv (pv_neqB (by rfl) (by rfl)) ?_) | (refine aop_pv (pv_neqA (by rfl) (by rfl) (by kernel_rfl)) ?_) | (refine aop_pv (pv_eql (by rfl) (by rfl)) ?_) | (refine aop_pv (pv_eqlB (by rfl) (by rfl)) ?_) | (refine aop_pv (pv_eqlA (by rfl) (by rfl) (by kernel_rfl)) ?_))) | (refine adx_op (fun K hK => ?_); (first | (refine aopx_alloc (d := 10) 10 (by first | rfl | (simp [St.free, mentHp, AV.mentL, AV.ment])) ?_) | (refine pv_neq (by rfl) (by rfl) ?_) | (refine pv_neqB (by rfl) (by rfl) ?_) | (refine pv_neqA (by rfl) (by rfl) (by kernel_rfl) ?_))) | (refine And.intro ?_ ?_) | (refine gDx ?_; refine adxS ?_) | (refine gO ?_; refine adoS ?_) | (refine gQ ?_; (first | (refine condT ?_) | (refine condF ?_) | (refine condS (fun hc => ?_) (fun hc => ?_) <;> (try (first | contradiction | (exfalso; omega)))))) | (refine gG ?_; refine guardS (fun hc => ?_) (fun hc => ?_) <;> (try (first | contradiction | (exfalso; omega)))) | (refine gGd ?_; refine guardD (fun hc => ?_) (fun hc => ?_) <;> (try (first | contradiction | (exfalso; omega)))) | (refine gW ?_; refine wopsS ?_) | (refine gWd ?_; refine wdrS ?_) | (refine aw_block ?_) | (refine gX ?_; refine exitS ?_) | (refine gT ?_; refine retS ?_) | (refine gS ?_; refine skipS ?_) | (apply_assumption (exfalso := false) (symm := false))))
              (refine fin_le (Le.refl _) (rv_one (rv1_tmp (by rfl))) (by first | rfl | (simp only [go_sem, Nat.reduceAdd, Nat.reduceMul, reduceIte, Nat.reduceEqDiff, Nat.reduceLeDiff, Int.reduceBEq, Int.reduceBNe, Int.reduceLT, Int.reduceLE, decide_true, decide_false])) ?_)
              rfl
  · have hne := nf_code hf
    have c50 := pc_eq (bounds_pc t plan.length) (b := .tup [prs [], faultP (numFault t)]) (by rw [show boundsOf t plan.length = ([], numFault t) by unfold boundsOf; rw [if_pos hf]])
    (refine enterS Try.func12 Try.ntmps12 ?_)
    (repeat' (first | (refine hK _ ?_; clear hK K) | (refine aw_seq (fun K hK => ?_)) | (refine gR ?_; refine regS ?_) | (refine gD 8 ?_; refine drS (.it 0 0 (.it 1 0 (.it 2 0 (.it 3 0 (.it 4 0 (.it 5 0 (.fk 6 10 (.it 7 0 (.it 8 0 (.it 9 0 (.it 10 1 (.it 11 0 (.it 12 3 .nil)))))) (.it 6 1 (.it 7 0 (.it 8 0 (.it 9 0 (.it 11 0 (.it 12 3 .nil))))))))))))) [0, 1, 2, 3, 4, 5, 7, 8, 9, 11] ?_) | (refine gD 14 ?_; refine drS (.it 0 0 (.it 1 0 (.it 2 0 (.it 3 0 (.it 4 0 (.it 5 0 (.it 6 0 (.it 7 0 (.it 8 0 (.it 9 0 (.it 10 0 (.it 11 0 (.it 12 0 (.it 13 0 (.it 14 0 (.it 15 0 (.it 16 0 (.it 17 0 (.it 18 0 (.it 19 0 (.it 20 0 (.it 21 0 (.it 22 0 (.it 23 0 (.it 24 0 (.it 25 0 (.it 26 0 (.it 27 0 (.it 28 0 .nil))))))))))))))))))))))))))))) [0, 1, 2, 3, 4, 5, 6, 7, 8, 9, 10, 11, 12, 13, 14, 15, 16, 17, 18, 19, 20, 21, 22, 23, 24, 25, 26, 27, 28] ?_) | (refine gE ?_; (first | (refine exN ?_) | (refine exS (fun _ => ?_)))) | (refine gC 50 ?_; refine callS (c50) ?_) | (refine gC 40 ?_; refine callS (counts_pc) ?_) | (refine gCd 47 ?_; refine callD (c47) ?_) | (refine gCd 47 ?_; refine callD (apply_pc _ _ _) ?_) | (refine stk_op (fun K hK => ?_); (first | (refine aop_pv (pv_fieldAddrF (by rfl) (by rfl) (by first | decide | (simp; done) | (simp; omega))) ?_) | (refine aop_pv (pv_fieldAddrIF (by rfl) (by rfl) (by first | decide | (simp; done) | (simp; omega))) ?_) | (refine aop_pv (pv_neq (by rfl) (by rfl)) ?_) | (refine aop_pv (pv_neqB (by rfl) (by rfl)) ?_) | (refine aop_pv (pv_neqA (by rfl) (by rfl) (by kernel_rfl)) ?_) | (refine aop_pv (pv_eql (by rfl) (by rfl)) ?_) | (refine aop_pv (pv_eqlB (by rfl) (by rfl)) ?_) | (refine aop_pv (pv_eqlA (by rfl) (by rfl) (by kernel_rfl)) ?_))) | (refine adx_op (fun K hK => ?_); (first | (refine aopx_alloc (d := 10) 10 (by first | rfl | (simp [St.free, mentHp, AV.mentL, AV.ment])) ?_) | (refine pv_neq (by rfl) (by rfl) ?_) | (refine pv_neqB (by rfl) (by rfl) ?_) | (refine pv_neqA (by rfl) (by rfl) (by kernel_rfl) ?_))) | (refine And.intro ?_ ?_) | (refine gDx ?_; refine adxS ?_) | (refine gO ?_; refine adoS ?_) | (refine gQ ?_; (first | (refine condT ?_) | (refine condF ?_) | (refine condS (fun hc => ?_) (fun hc => ?_) <;> (try (first | contradiction | (exfalso; omega)))))) | (refine gG ?_; refine guardS (fun hc => ?_) (fun hc => ?_) <;> (try (first | contradiction | (exfalso; omega)))) | (refine gGd ?_; refine guardD (fun hc => ?_) (fun hc => ?_) <;> (try (first | contradiction | (exfalso; omega)))) | (refine gW ?_; refine wopsS ?_) | (refine gWd ?_; refine wdrS ?_) | (refine aw_block ?_) | (refine gX ?_; refine exitS ?_) | (refine gT ?_; refine retS ?_) | (refine gS ?_; refine skipS ?_) | (apply_assumption (exfalso := false) (symm := false))))
    (refine fin_le (Le.refl _) (rv_one (rv1_tmp (by rfl))) (by first | rfl | (simp only [go_sem, Nat.reduceAdd, Nat.reduceMul, reduceIte, Nat.reduceEqDiff, Nat.reduceLeDiff, Int.reduceBEq, Int.reduceBNe, Int.reduceLT, Int.reduceLE, decide_true, decide_false])) ?_)
    rfl
end Go.Proofs.Ytjefjhcaicohjaa
