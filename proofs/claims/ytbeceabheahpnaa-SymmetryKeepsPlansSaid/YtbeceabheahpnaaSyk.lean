import Derived.Test.YtbeceabheahpnaaSyg


namespace Go.Proofs.Ytbeceabheahpnaa
open Go.Ab
open Go
set_option linter.unusedSimpArgs false
set_option linter.unusedVariables false
set_option maxRecDepth 10000
attribute [local irreducible] PV AOp AOps AW PCall OCall MCall WCall HCall Ab.Fin OFin OFin2 MFin HFin RV RV1 Le AStk AGrd ADr ADx ADo AOpX AAny AOpsI wops wdr wgd wdt
set_option maxHeartbeats 4000000
@[local go_sem] theorem cast_0K : ((0:Nat):Int) = 0 := rfl
/-! images of plans -/
def mapL (l : List Nat) (plan : List Int) : List Int := plan.map fun x => ((l[x.toNat]! : Nat) : Int)
theorem mapL_len (l : List Nat) (plan : List Int) : (mapL l plan).length = plan.length := by simp [mapL]
theorem mapL_in {t : Task} {perm : List Int} {l : List Nat} (hx : extG t perm = some l) {plan : List Int} (hin : InOps t plan) : InOps t (mapL l plan) := by
  intro y hy
  unfold mapL at hy
  obtain ⟨x, hm, rfl⟩ := List.mem_map.1 hy
  have h1 := hin x hm
  have h2 := ((extG_map hx).2 x.toNat (by omega)).1
  omega
theorem img_run {t : Task} (hw : WfT t) {perm : List Int} {l : List Nat} (hx : extG t perm = some l) (hp : PermP t.facts.toNat perm) : ∀ (plan s : List Int), InOps t plan → isSet s t.facts = true → runL t (imgF perm s) (mapL l plan) = (runL t s plan).map (imgF perm)
  | [], s, _, _ => rfl
  | x :: r, s, hin, hs => by
    have h1 := hin x (by simp)
    obtain ⟨h4, h5⟩ := (extG_map hx).2 x.toNat (by omega)
    have hi : x.toNat < t.ops.length := by omega
    have ho := wf_op hw (List.getElem_mem hi)
    have hs' : isSet s (t.facts.toNat : Nat) = true := by rw [wf_nat hw]; exact hs
    have hsub : subB (t.ops[((l[x.toNat]! : Nat) : Int).toNat]!).pre (imgF perm s) = subB (t.ops[x.toNat]!).pre s := by
      rw [Int.toNat_natCast, h5, getBang hi]
      exact imgF_sub hp (opOk_sets ho).1 hs'
    show runL t (imgF perm s) (((l[x.toNat]! : Nat) : Int) :: mapL l r) = _
    cases hc : subB (t.ops[x.toNat]!).pre s with
    | false =>
      rw [hc] at hsub
      rw [runL_stop hc, runL_stop hsub]
      rfl
    | true =>
      rw [hc] at hsub
      rw [runL_go hc, runL_go hsub]
      have ha := img_aft hp hs' ho
      rw [wf_nat hw] at ha
      rw [Int.toNat_natCast, h5, getBang hi, ← ha, img_run hw hx hp r _ (fun y hy => hin y (by simp [hy])) (aft_set hw.f0 _ _)]
      rfl
theorem img_cost {t : Task} {perm : List Int} {l : List Nat} (hx : extG t perm = some l) : ∀ plan : List Int, InOps t plan → costT t (natP (mapL l plan)) = costT t (natP plan)
  | [], _ => rfl
  | x :: r, hin => by
    have h1 := hin x (by simp)
    obtain ⟨h4, h5⟩ := (extG_map hx).2 x.toNat (by omega)
    have hi : x.toNat < t.ops.length := by omega
    show costT t (((l[x.toNat]! : Nat) : Int).toNat :: natP (mapL l r)) = costT t (x.toNat :: natP r)
    rw [getBang h4, getBang hi] at h5
    rw [costT, costT, img_cost hx r (fun y hy => hin y (by simp [hy])), Int.toNat_natCast, List.getElem?_eq_getElem h4, List.getElem?_eq_getElem hi]
    simp only [h5]
    rfl
theorem img_play {t : Task} {perm s plan : List Int} {l : List Nat} (hx : extG t perm = some l) (hp : PermP t.facts.toNat perm) (h : playF t s plan = (0, 0)) : playF t (imgF perm s) (mapL l plan) = (0, 0) := by
  obtain ⟨hw, hs, h60, hin, hall⟩ := playF_ok h
  have hs' : isSet s (t.facts.toNat : Nat) = true := by rw [wf_nat hw]; exact hs
  have h1 : stFault t (imgF perm s) = (0, 0) := stFault_ok.2 ⟨hw, by rw [← wf_nat hw]; exact imgF_set hp hs'⟩
  have h2 : stepsFault t.ops.length (mapL l plan) = (0, 0) := sf_of (by rw [mapL_len]; exact h60) (mapL_in hx hin)
  have h3 : (runL t (imgF perm s) (mapL l plan)).length = plan.length + 1 := by rw [img_run hw hx hp plan s hin hs, List.length_map, hall]
  unfold playF
  rw [if_neg (by simp [h1]), if_neg (by simp [h2]), if_neg (by rw [h3, mapL_len]; omega)]
theorem cost_ok {t : Task} {plan : List Int} (hw : WfT t) (h60 : plan.length ≤ 60) (hin : InOps t plan) : PCall Try.prog 28 [t.av, ints plan] (fun r => r = .tup [.int (costT t (natP plan)), fault 0 0]) :=
  cost_at (costOf_ok (planF_in.2 ⟨hw, h60, hin⟩))
theorem inT {n b : Int} (h : 0 ≤ n ∧ n ≤ b) : PCall Try.prog 23 [.int n, .int 0, .int b] (fun r => r = .bool true) := (in_pc n 0 b).mono fun r hr => by
  rw [hr, (inB_t n 0 b).mpr h]

theorem mapped_pc (l plan : List Int) (hin : ∀ x ∈ plan, 0 ≤ x ∧ x < l.length) : PCall Try.prog 27 [ints l, ints plan] (fun r => r = .tup [ints (plan.map fun x => l[x.toNat]!), .bool true]) := by
  (refine enterS Try.func27 Try.ntmps27 ?_)
  (refine aw_bound (i := 0) rfl (fun hb0 => ?_); (try simp only [List.length_map] at hb0))
  (refine aw_bound (i := 1) rfl (fun hb1 => ?_); (try simp only [List.length_map] at hb1))
  (repeat' (first | (refine hK _ ?_; clear hK K) | (refine aw_seq (fun K hK => ?_)) | (refine gR ?_; refine regS ?_) | (refine stk_op (fun K hK => ?_); (first | (refine appendS ?_) | (refine virtS 23 32 1 8 3 ?_; refine appendS ?_))) | (refine gE ?_; (first | (refine exN ?_) | (refine exS (fun _ => ?_)))) | (refine gQ ?_; (first | (refine condT ?_) | (refine condF ?_) | (refine condS (fun hc => ?_) (fun hc => ?_) <;> (try (first | contradiction | (exfalso; omega)))))) | (refine gW ?_; refine wopsS ?_) | (refine aw_block ?_) | (refine gX ?_; refine exitS ?_) | (refine gT ?_; refine retS ?_) | (refine gS ?_; refine skipS ?_) | (apply_assumption (exfalso := false) (symm := false))))
  (refine awVirt 6 100 1 8 3 ?_)
  refine aw_loop_at [4, 5, 6, 7, 8, 9, 10, 11, 12, 13, 14, 15, 16, 17, 18, 19, 20, 21, 22, 23, 24, 25, 26, 27, 28, 29, 30, 31, 32] (fun k : Nat => k ≤ plan.length) (fun k => plan.length - k) (fun k => [(7, .int k), (6, .sl 1 8 100 0 k)]) (fun k => [(100, ⟨3, ((plan.map fun x => l[x.toNat]!).take k).map AV.int, false⟩)]) 0 (by omega) ?_ ?_
  · (refine atS ?_)
    (exact weakS)
  · rintro k hk K hK
    (refine atS ?_)
    by_cases hlt : k < plan.length
    · obtain ⟨p0, p1⟩ := hin _ (List.getElem_mem hlt)
      have h1 := inT (n := plan[k]) (b := (l.length : Int) - 1) (by omega)
      have htk : ((plan.map fun x => l[x.toNat]!).take (k + 1)).map AV.int = ((plan.map fun x => l[x.toNat]!).take k).map AV.int ++ [.int (l[(plan[k]).toNat]'(by omega))] := by
        rw [List.take_succ_eq_append_getElem (by simpa using hlt), List.map_append]
        simp only [List.getElem_map, List.map_cons, List.map_nil]
        rw [getBang (by omega)]
      have hpl : ((plan.map fun x => l[x.toNat]!).take k).length = k := by rw [List.length_take, List.length_map]; omega
      have hml : (plan.map fun x => l[x.toNat]!).length = plan.length := by simp
      generalize hg : (plan.map fun x => l[x.toNat]!) = m at *
      
      (repeat' (first | (refine hK _ ?_; clear hK K) | (refine aw_seq (fun K hK => ?_)) | (refine gR ?_; refine regS ?_) | (refine gC 23 ?_; refine callS (h1) ?_) | (refine stk_op (fun K hK => ?_); (first | (refine appendS ?_) | (refine virtS 23 32 1 8 3 ?_; refine appendS ?_))) | (refine gE ?_; (first | (refine exN ?_) | (refine exS (fun _ => ?_)))) | (refine gQ ?_; (first | (refine condT ?_) | (refine condF ?_) | (refine condS (fun hc => ?_) (fun hc => ?_) <;> (try (first | contradiction | (exfalso; omega)))))) | (refine gW ?_; refine wopsS ?_) | (refine aw_block ?_) | (refine gX ?_; refine exitS ?_) | (refine gT ?_; refine retS ?_) | (refine gS ?_; refine skipS ?_) | (apply_assumption (exfalso := false) (symm := false))))
      refine ⟨k + 1, by omega, by omega, ?_⟩
      rw [htk]
      (refine atS ?_)
      (exact weakS)
    · obtain rfl : k = plan.length := by omega
      have hml : (plan.map fun x => l[x.toNat]!).length = plan.length := by simp
      generalize (plan.map fun x => l[x.toNat]!) = m at *
      rw [List.take_of_length_le (by omega)]
      (repeat' (first | (refine hK _ ?_; clear hK K) | (refine aw_seq (fun K hK => ?_)) | (refine gR ?_; refine regS ?_) | (refine gC 23 ?_; refine callS (h1) ?_) | (refine stk_op (fun K hK => ?_); (first | (refine appendS ?_) | (refine virtS 23 32 1 8 3 ?_; refine appendS ?_))) | (refine gE ?_; (first | (refine exN ?_) | (refine exS (fun _ => ?_)))) | (refine gQ ?_; (first | (refine condT ?_) | (refine condF ?_) | (refine condS (fun hc => ?_) (fun hc => ?_) <;> (try (first | contradiction | (exfalso; omega)))))) | (refine gW ?_; refine wopsS ?_) | (refine aw_block ?_) | (refine gX ?_; refine exitS ?_) | (refine gT ?_; refine retS ?_) | (refine gS ?_; refine skipS ?_) | (apply_assumption (exfalso := false) (symm := false))))
      refine finStep (le_sealMap (f := AV.int) 100 8 plan.length m (by rfl) hml (fun _ => rfl) (fun _ => rfl)) ?_
      simp only [AV.sealSL, sealS_any, sealS_v, sealS_isl, sealS_iptr, sealS_ptr, sealS_sl, sealS_agg, sealS_tup, sealS_fn, purge_agg, purge_tup, purge_fn, and_self, AV.mentL, AV.ment, Bool.or_self, go_sem, Nat.reduceAdd, Nat.reduceMul, reduceIte, Nat.reduceEqDiff, Nat.reduceLeDiff, Int.reduceToNat, Int.reducePow, Int.reduceBEq, Int.reduceBNe, Int.reduceLT, Int.reduceLE, decide_true, decide_false]
      (refine fin_le (Le.refl _) (rv_two (rv1_tmp (by rfl)) (rv1_tmp (by rfl))) (by first | rfl | (simp only [go_sem, Nat.reduceAdd, Nat.reduceMul, reduceIte, Nat.reduceEqDiff, Nat.reduceLeDiff, Int.reduceToNat, Int.reducePow, Int.reduceBEq, Int.reduceBNe, Int.reduceLT, Int.reduceLE, decide_true, decide_false])) ?_)
      rfl

/-! permutations of a task keep plans -/

theorem extend_cases (t : Task) (perm : List Int) : (∃ p : Int × Int, PCall Try.prog 12 [t.av, ints perm] (fun r => r = .tup [.nilS, .bool false, faultP p])) ∨
    (∃ l, WfT t ∧ PermP t.facts.toNat perm ∧ extG t perm = some l ∧ PCall Try.prog 12 [t.av, ints perm] (fun r => r = .tup [ints (l.map Int.ofNat), .bool true, fault 0 0])) := by
  by_cases hf : taskFault t = (0, 0)
  · have hw := taskFault_ok.1 hf
    cases hp : isPermB t.facts perm with
    | false => exact .inl ⟨(5, -8), extend_no t perm hf hp⟩
    | true =>
      have hex := extend_ok t perm hf hp
      have hP : PermP t.facts.toNat perm := isPermB_iff.1 (by rw [wf_nat hw]; exact hp)
      cases hx : extG t perm with
      | none =>
        rw [hx] at hex
        exact .inl ⟨(0, 0), hex⟩
      | some l =>
        rw [hx] at hex
        exact .inr ⟨l, hw, hP, rfl, hex⟩
  · exact .inl ⟨_, extend_bad t perm _ rfl (tf_codeS hf)⟩
theorem keepLaw_pc (t : Task) (perm s plan : List Int) : PCall Try.prog 7 [t.av, ints perm, ints s, ints plan] (fun r => r = .bool true) := by
  rcases extend_cases t perm with ⟨p, hex⟩ | ⟨l, hw, hP, hx, hex⟩
  · 
    (refine enterS Try.func7 Try.ntmps7 ?_)
    (repeat' (first | (refine hK _ ?_; clear hK K) | (refine aw_seq (fun K hK => ?_)) | (refine gR ?_; refine regS ?_) | (refine gD 8 ?_; refine drE (s1 := ?_) (.it 0 0 (.it 1 0 (.it 2 0 (.it 4 0 (.fk 3 9 (.fk 5 9 (.it 6 0 (.it 7 0 (.it 8 0 (.it 9 1 (.it 10 0 (.it 11 3 .nil)))))) (.it 5 1 (.it 6 0 (.it 7 0 (.it 8 0 (.it 10 0 (.it 11 3 .nil))))))) (.it 3 1 (.it 5 1 (.it 6 0 (.it 7 0 (.it 8 0 (.it 10 0 (.it 11 3 .nil)))))))))))) [0, 1, 2, 4, 6, 7, 8, 10] ?_ ?_; rotate_left) | (refine gD 13 ?_; refine drS (.it 0 0 (.it 1 0 (.it 2 0 (.it 3 0 (.it 4 0 (.it 5 0 (.it 6 0 (.it 7 0 (.it 8 0 (.it 9 0 (.it 10 0 (.it 11 0 (.it 12 0 (.it 13 1 (.it 14 1 (.it 15 0 .nil)))))))))))))))) [0, 1, 2, 3, 4, 5, 6, 7, 8, 9, 10, 11, 12, 15] ?_) | (refine gC 12 ?_; refine callS (hex) ?_) | (refine gC 13 ?_; refine callS (mirrors_pc) ?_) | (refine stk_op (fun K hK => ?_); (first | (refine aop_pv (pv_fieldAddrF (by rfl) (by rfl) (by first | decide | (simp; done) | (simp; omega))) ?_) | (refine aop_pv (pv_fieldAddrIF (by rfl) (by rfl) (by first | decide | (simp; done) | (simp; omega))) ?_) | (refine aop_pv (pv_neq (by rfl) (by rfl)) ?_) | (refine aop_pv (pv_neqB (by rfl) (by rfl)) ?_) | (refine aop_pv (pv_neqA (by rfl) (by rfl) (by kernel_rfl)) ?_) | (refine aop_pv (pv_eql (by rfl) (by rfl)) ?_) | (refine aop_pv (pv_eqlB (by rfl) (by rfl)) ?_) | (refine aop_pv (pv_eqlA (by rfl) (by rfl) (by kernel_rfl)) ?_))) | (refine adx_op (fun K hK => ?_); refine aopx_alloc (d := 17) 17 (by first | rfl | (simp only [go_sem, Nat.reduceAdd, Nat.reduceMul, reduceIte, Nat.reduceEqDiff, Nat.reduceLeDiff, Int.reduceToNat, Int.reducePow, Int.reduceBEq, Int.reduceBNe, Int.reduceLT, Int.reduceLE, decide_true, decide_false]; done) | (simp only [go_sem, Nat.reduceAdd, Nat.reduceMul, reduceIte, Nat.reduceEqDiff, Nat.reduceLeDiff, Int.reduceToNat, Int.reducePow, Int.reduceBEq, Int.reduceBNe, Int.reduceLT, Int.reduceLE, decide_true, decide_false]; rfl) | (simp [St.free, mentHp, AV.mentL, AV.ment])) ?_) | (refine And.intro ?_ ?_) | (refine gDx ?_; refine adxS ?_) | (refine gO ?_; refine adoS ?_) | (refine gL ?_; (first | exact Le.refl _ | exact weakS)) | (refine gE ?_; (first | (refine exN ?_) | (refine exS (fun _ => ?_)))) | (refine gG ?_; refine guardS (fun hc => ?_) (fun hc => ?_) <;> (try (first | contradiction | (exfalso; omega)))) | (refine gQ ?_; (first | (refine condT ?_) | (refine condF ?_) | (refine condS (fun hc => ?_) (fun hc => ?_) <;> (try (first | contradiction | (exfalso; omega)))))) | (refine gWd ?_; refine wdrS ?_) | (refine gW ?_; refine wopsS ?_) | (refine aw_block ?_) | (refine gX ?_; refine exitS ?_) | (refine gT ?_; refine retS ?_) | (refine gS ?_; refine skipS ?_) | (apply_assumption (exfalso := false) (symm := false))))
    all_goals ((refine fin_le (Le.refl _) (rv_one (rv1_tmp (by rfl))) (by first | rfl | (simp only [go_sem, Nat.reduceAdd, Nat.reduceMul, reduceIte, Nat.reduceEqDiff, Nat.reduceLeDiff, Int.reduceToNat, Int.reducePow, Int.reduceBEq, Int.reduceBNe, Int.reduceLT, Int.reduceLE, decide_true, decide_false])) ?_); rfl)
  · have hll := (extG_map hx).1
    have hql : (l.map Int.ofNat).length = t.ops.length := by rw [List.length_map, hll]
    
    
    by_cases hpl : playF t s plan = (0, 0)
    · have h2 := img_play hx hP hpl
      obtain ⟨_, hs, h60, hin, hall⟩ := playF_ok hpl
      have hs' : isSet s (t.facts.toNat : Nat) = true := by rw [wf_nat hw]; exact hs
      have hrun := img_run hw hx hP plan s hin hs
      have hp1 := play_ok t s plan hpl
      have hp2 := play_ok t (imgF perm s) (mapL l plan) h2
      rw [hrun] at hp2
      have hc1 := cost_ok hw h60 hin
      have hc2 := cost_ok hw (by rw [mapL_len]; exact h60) (mapL_in hx hin)
      rw [img_cost hx plan hin] at hc2
      have him : ∀ u, isSet u t.facts = true → PCall Try.prog 20 [ints perm, ints u] (fun r => r = ints (imgF perm u)) := fun u hu => by
        have h1 := imgR_pc perm u (by have := hP.len; have := hw.f1; omega)
        rw [hP.len, imgR_eq hP (by rw [wf_nat hw]; exact hu)] at h1
        exact h1
      have hmp := mapped_pc (l.map Int.ofNat) plan (fun x hm => by have := hin x hm; rw [hql]; exact this)
      rw [show (plan.map fun x => (l.map Int.ofNat)[x.toNat]!) = mapL l plan by
        unfold mapL
        refine List.map_congr_left fun x hm => ?_
        have := hin x hm
        rw [getBang (by rw [hql]; omega), List.getElem_map, getBang (by omega)]
        rfl] at hmp
      have hsets := runL_set hw.f0 plan s hs
      have him1 := him s hs
      have him2 : ∀ k (hk : k < (runL t s plan).length), PCall Try.prog 20 [ints perm, ints (runL t s plan)[k]] (fun r => r = ints (imgF perm (runL t s plan)[k])) := fun k hk => him _ (hsets _ (List.getElem_mem hk))
      have hbl : ((runL t s plan).map (imgF perm)).length = (runL t s plan).length := by simp
      have hlast : ∀ k (hk : k < (runL t s plan).length) (hk2 : k < ((runL t s plan).map (imgF perm)).length), ((runL t s plan).map (imgF perm))[k] = imgF perm (runL t s plan)[k] := fun k hk hk2 => by simp
      clear him hrun h2 hsets
      generalize (runL t s plan).map (imgF perm) = B at *
      generalize runL t s plan = M at *
      generalize mapL l plan = steps at *
      generalize costT t (natP plan) = z at *
      generalize l.map Int.ofNat = q at *
      generalize imgF perm s = s2 at *
      
      
      
      
      
      
      
      
      (refine enterS Try.func7 Try.ntmps7 ?_)
      (repeat' (first | (refine hK _ ?_; clear hK K) | (refine aw_seq (fun K hK => ?_)) | (refine gR ?_; refine regS ?_) | (refine gD 8 ?_; refine drE (s1 := ?_) (.it 0 0 (.it 1 0 (.it 2 0 (.it 4 0 (.fk 3 9 (.fk 5 9 (.it 6 0 (.it 7 0 (.it 8 0 (.it 9 1 (.it 10 0 (.it 11 3 .nil)))))) (.it 5 1 (.it 6 0 (.it 7 0 (.it 8 0 (.it 10 0 (.it 11 3 .nil))))))) (.it 3 1 (.it 5 1 (.it 6 0 (.it 7 0 (.it 8 0 (.it 10 0 (.it 11 3 .nil)))))))))))) [0, 1, 2, 4, 6, 7, 8, 10] ?_ ?_; rotate_left) | (refine gD 13 ?_; refine drS (.it 0 0 (.it 1 0 (.it 2 0 (.it 3 0 (.it 4 0 (.it 5 0 (.it 6 0 (.it 7 0 (.it 8 0 (.it 9 0 (.it 10 0 (.it 11 0 (.it 12 0 (.it 13 1 (.it 14 1 (.it 15 0 .nil)))))))))))))))) [0, 1, 2, 3, 4, 5, 6, 7, 8, 9, 10, 11, 12, 15] ?_) | (refine gC 12 ?_; refine callS (hex) ?_) | (refine gC 13 ?_; refine callS (mirrors_pc) ?_) | (refine gC 26 ?_; refine callS (hp2) ?_) | (refine gC 26 ?_; refine callS (hp1) ?_) | (refine gC 27 ?_; refine callS (hmp) ?_) | (refine gCd 20 ?_; refine callD (him1) ?_) | (refine gCd 20 ?_; refine callD (him2 _ _) ?_) | (refine gCd 26 ?_; refine callD (hp2) ?_) | (refine gCd 26 ?_; refine callD (hp1) ?_) | (refine gC 28 ?_; refine callS (hc2) ?_) | (refine gC 28 ?_; refine callS (hc1) ?_) | (refine gCd 14 ?_; refine callD (ints_pc _ _) ?_) | (refine stk_op (fun K hK => ?_); (first | (refine aop_pv (pv_fieldAddrF (by rfl) (by rfl) (by first | decide | (simp; done) | (simp; omega))) ?_) | (refine aop_pv (pv_fieldAddrIF (by rfl) (by rfl) (by first | decide | (simp; done) | (simp; omega))) ?_) | (refine aop_pv (pv_neq (by rfl) (by rfl)) ?_) | (refine aop_pv (pv_neqB (by rfl) (by rfl)) ?_) | (refine aop_pv (pv_neqA (by rfl) (by rfl) (by kernel_rfl)) ?_) | (refine aop_pv (pv_eql (by rfl) (by rfl)) ?_) | (refine aop_pv (pv_eqlB (by rfl) (by rfl)) ?_) | (refine aop_pv (pv_eqlA (by rfl) (by rfl) (by kernel_rfl)) ?_))) | (refine adx_op (fun K hK => ?_); refine aopx_alloc (d := 17) 17 (by first | rfl | (simp only [go_sem, Nat.reduceAdd, Nat.reduceMul, reduceIte, Nat.reduceEqDiff, Nat.reduceLeDiff, Int.reduceToNat, Int.reducePow, Int.reduceBEq, Int.reduceBNe, Int.reduceLT, Int.reduceLE, decide_true, decide_false]; done) | (simp only [go_sem, Nat.reduceAdd, Nat.reduceMul, reduceIte, Nat.reduceEqDiff, Nat.reduceLeDiff, Int.reduceToNat, Int.reducePow, Int.reduceBEq, Int.reduceBNe, Int.reduceLT, Int.reduceLE, decide_true, decide_false]; rfl) | (simp [St.free, mentHp, AV.mentL, AV.ment])) ?_) | (refine And.intro ?_ ?_) | (refine gDx ?_; refine adxS ?_) | (refine gO ?_; refine adoS ?_) | (refine gL ?_; (first | exact Le.refl _ | exact weakS)) | (refine gE ?_; (first | (refine exN ?_) | (refine exS (fun _ => ?_)))) | (refine gG ?_; refine guardS (fun hc => ?_) (fun hc => ?_) <;> (try (first | contradiction | (exfalso; omega)))) | (refine gQ ?_; (first | (refine condT ?_) | (refine condF ?_) | (refine condS (fun hc => ?_) (fun hc => ?_) <;> (try (first | contradiction | (exfalso; omega)))))) | (refine gWd ?_; refine wdrS ?_) | (refine gW ?_; refine wopsS ?_) | (refine aw_block ?_) | (refine gX ?_; refine exitS ?_) | (refine gT ?_; refine retS ?_) | (refine gS ?_; refine skipS ?_) | (apply_assumption (exfalso := false) (symm := false))))
      all_goals (refine fin_le (Le.refl _) (rv_one (rv1_tmp (by rfl))) (by first | rfl | (simp only [go_sem, Nat.reduceAdd, Nat.reduceMul, reduceIte, Nat.reduceEqDiff, Nat.reduceLeDiff, Int.reduceToNat, Int.reducePow, Int.reduceBEq, Int.reduceBNe, Int.reduceLT, Int.reduceLE, decide_true, decide_false])) ?_)
      have hidx : ∀ {a b : Nat} (h : a = b) (ha : a < M.length) (hb : b < M.length), M[a] = M[b] := by rintro a b rfl _ _; rfl
      all_goals (rw [hlast _ (by omega), decide_eq_true (congrArg (imgF perm) (hidx (by omega) _ _))])
    · have hp1 := play_no t s plan hpl
      have hcd := playF_code hpl
      generalize playF t s plan = p at *
      generalize l.map Int.ofNat = q at *
      
      
      (refine enterS Try.func7 Try.ntmps7 ?_)
      (repeat' (first | (refine hK _ ?_; clear hK K) | (refine aw_seq (fun K hK => ?_)) | (refine gR ?_; refine regS ?_) | (refine gD 8 ?_; refine drE (s1 := ?_) (.it 0 0 (.it 1 0 (.it 2 0 (.it 4 0 (.fk 3 9 (.fk 5 9 (.it 6 0 (.it 7 0 (.it 8 0 (.it 9 1 (.it 10 0 (.it 11 3 .nil)))))) (.it 5 1 (.it 6 0 (.it 7 0 (.it 8 0 (.it 10 0 (.it 11 3 .nil))))))) (.it 3 1 (.it 5 1 (.it 6 0 (.it 7 0 (.it 8 0 (.it 10 0 (.it 11 3 .nil)))))))))))) [0, 1, 2, 4, 6, 7, 8, 10] ?_ ?_; rotate_left) | (refine gD 13 ?_; refine drS (.it 0 0 (.it 1 0 (.it 2 0 (.it 3 0 (.it 4 0 (.it 5 0 (.it 6 0 (.it 7 0 (.it 8 0 (.it 9 0 (.it 10 0 (.it 11 0 (.it 12 0 (.it 13 1 (.it 14 1 (.it 15 0 .nil)))))))))))))))) [0, 1, 2, 3, 4, 5, 6, 7, 8, 9, 10, 11, 12, 15] ?_) | (refine gC 12 ?_; refine callS (hex) ?_) | (refine gC 13 ?_; refine callS (mirrors_pc) ?_) | (refine gC 26 ?_; refine callS (hp1) ?_) | (refine gC 27 ?_; refine callS (hmp) ?_) | (refine gCd 20 ?_; refine callD (him1) ?_) | (refine gCd 20 ?_; refine callD (him2 _ _) ?_) | (refine gCd 26 ?_; refine callD (hp1) ?_) | (refine gC 28 ?_; refine callS (hc2) ?_) | (refine gC 28 ?_; refine callS (hc1) ?_) | (refine gCd 14 ?_; refine callD (ints_pc _ _) ?_) | (refine stk_op (fun K hK => ?_); (first | (refine aop_pv (pv_fieldAddrF (by rfl) (by rfl) (by first | decide | (simp; done) | (simp; omega))) ?_) | (refine aop_pv (pv_fieldAddrIF (by rfl) (by rfl) (by first | decide | (simp; done) | (simp; omega))) ?_) | (refine aop_pv (pv_neq (by rfl) (by rfl)) ?_) | (refine aop_pv (pv_neqB (by rfl) (by rfl)) ?_) | (refine aop_pv (pv_neqA (by rfl) (by rfl) (by kernel_rfl)) ?_) | (refine aop_pv (pv_eql (by rfl) (by rfl)) ?_) | (refine aop_pv (pv_eqlB (by rfl) (by rfl)) ?_) | (refine aop_pv (pv_eqlA (by rfl) (by rfl) (by kernel_rfl)) ?_))) | (refine adx_op (fun K hK => ?_); refine aopx_alloc (d := 17) 17 (by first | rfl | (simp only [go_sem, Nat.reduceAdd, Nat.reduceMul, reduceIte, Nat.reduceEqDiff, Nat.reduceLeDiff, Int.reduceToNat, Int.reducePow, Int.reduceBEq, Int.reduceBNe, Int.reduceLT, Int.reduceLE, decide_true, decide_false]; done) | (simp only [go_sem, Nat.reduceAdd, Nat.reduceMul, reduceIte, Nat.reduceEqDiff, Nat.reduceLeDiff, Int.reduceToNat, Int.reducePow, Int.reduceBEq, Int.reduceBNe, Int.reduceLT, Int.reduceLE, decide_true, decide_false]; rfl) | (simp [St.free, mentHp, AV.mentL, AV.ment])) ?_) | (refine And.intro ?_ ?_) | (refine gDx ?_; refine adxS ?_) | (refine gO ?_; refine adoS ?_) | (refine gL ?_; (first | exact Le.refl _ | exact weakS)) | (refine gE ?_; (first | (refine exN ?_) | (refine exS (fun _ => ?_)))) | (refine gG ?_; refine guardS (fun hc => ?_) (fun hc => ?_) <;> (try (first | contradiction | (exfalso; omega)))) | (refine gQ ?_; (first | (refine condT ?_) | (refine condF ?_) | (refine condS (fun hc => ?_) (fun hc => ?_) <;> (try (first | contradiction | (exfalso; omega)))))) | (refine gWd ?_; refine wdrS ?_) | (refine gW ?_; refine wopsS ?_) | (refine aw_block ?_) | (refine gX ?_; refine exitS ?_) | (refine gT ?_; refine retS ?_) | (refine gS ?_; refine skipS ?_) | (apply_assumption (exfalso := false) (symm := false))))
      all_goals ((refine fin_le (Le.refl _) (rv_one (rv1_tmp (by rfl))) (by first | rfl | (simp only [go_sem, Nat.reduceAdd, Nat.reduceMul, reduceIte, Nat.reduceEqDiff, Nat.reduceLeDiff, Int.reduceToNat, Int.reducePow, Int.reduceBEq, Int.reduceBNe, Int.reduceLT, Int.reduceLE, decide_true, decide_false])) ?_); rfl)
end Go.Proofs.Ytbeceabheahpnaa
