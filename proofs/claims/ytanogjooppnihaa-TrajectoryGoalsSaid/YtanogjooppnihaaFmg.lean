import Derived.Test.YtanogjooppnihaaFmk
import Derived.Test.YtanogjooppnihaaKpl




namespace Go.Proofs.Ytanogjooppnihaa
open Go.Ab
open Go
set_option linter.unusedSimpArgs false
set_option linter.unusedVariables false
set_option maxRecDepth 10000
attribute [local irreducible] PV AOp AOps AW PCall OCall MCall WCall HCall Ab.Fin OFin OFin2 MFin HFin RV RV1 Le AStk AGrd ADr ADx ADo AOpX AAny AOpsI wops wdr wgd wdt
set_option maxHeartbeats 4000000
/-! a plan's last state fulfils the goal: the formula -/
def goT (gs : List Int) : Nat → Fm
  | 0 => .un 3 0 (.un 6 0 (.leaf 1 0))
  | k + 1 => .bin 4 0 (goT gs k) (.leaf 2 gs[k]!)
theorem goT_sz (gs : List Int) : ∀ k, sz (goT gs k) = 3 + 2 * k
  | 0 => rfl
  | k + 1 => by simp only [goT, sz, goT_sz gs k]; omega
theorem goT_ok (gs : List Int) : ∀ k, kindOK (goT gs k)
  | 0 => ⟨.inl rfl, .inr (.inl rfl), .inl rfl⟩
  | k + 1 => ⟨.inl rfl, goT_ok gs k, .inr rfl⟩
theorem goT_okF {n : Int} {gs : List Int} (h : ∀ x ∈ gs, 0 ≤ x ∧ x < n) : ∀ k, k ≤ gs.length → okF n (goT gs k)
  | 0, _ => fun e => absurd e (by decide)
  | k + 1, hk => ⟨goT_okF h k (by omega), fun _ => by rw [getBang (show k < gs.length by omega)]; exact h _ (List.getElem_mem _)⟩
theorem goT_flat (gs : List Int) (k : Nat) : flatT 0 (goT gs (k + 1)) = flatT 0 (goT gs k) ++ [⟨2, [], gs[k]!⟩] ++ [⟨4, [((flatT 0 (goT gs k)).length : Int) - 1, ((flatT 0 (goT gs k)).length : Int)], 0⟩] := by
  rw [goT, flatT, flatT_len, List.append_assoc]
  simp only [flatT, sz, Nat.zero_add]
  congr 3
  simp
theorem goT_sat (gs : List Int) : ∀ k, k ≤ gs.length → ∀ x r, sat (goT gs k) (x :: r) = (decide (r = []) && subB (gs.take k) x)
  | 0, _, x, r => by
    cases r with
    | nil => simp [goT, sat, nextS, subB]
    | cons y r => simp [goT, sat, nextS, subB]
  | k + 1, hk, x, r => by
    show (sat (goT gs k) (x :: r) && hasB x gs[k]!) = _
    rw [goT_sat gs k (by omega), List.take_succ_eq_append_getElem (show k < gs.length by omega), getBang (show k < gs.length by omega)]
    unfold subB
    rw [List.all_append, Bool.and_assoc]
    simp
theorem any_last (gs : List Int) : ∀ (ss : List (List Int)) (e : List Int) (n : Nat), ss.length = n + 1 → ss[n]? = some e → anyS (sat (goT gs gs.length)) ss = subB gs e
  | [x], e, n, hl, he => by
    obtain rfl : n = 0 := by simpa using hl.symm
    have : x = e := by simpa using he
    subst this
    simp [anyS, goT_sat gs gs.length (Nat.le_refl _)]
  | x :: y :: r, e, n, hl, he => by
    obtain ⟨m, rfl⟩ : ∃ m, n = m + 1 := ⟨n - 1, by simp at hl; omega⟩
    have := any_last gs (y :: r) e m (by simpa using hl) (by simpa using he)
    show (sat (goT gs gs.length) (x :: y :: r) || anyS (sat (goT gs gs.length)) (y :: r)) = _
    rw [this, goT_sat gs gs.length (Nat.le_refl _)]
    simp
/-- The cells of nodes as they are built: no children are a nil slice. -/
def FNode.rs (n : FNode) : List AV := [.int n.kind, if n.kids = [] then .nilS else ints n.kids, .int n.fact]
def rawC (l : List FNode) : List AV := l.flatMap FNode.rs
theorem rawC_app (a b : List FNode) : rawC (a ++ b) = rawC a ++ rawC b := List.flatMap_append
theorem rs_pur (n : FNode) : AV.purL n.rs = true := by unfold FNode.rs; split <;> rfl
theorem rawC_pur (l : List FNode) : AV.purL (rawC l) = true := purL_flat FNode.rs l rs_pur
@[local go_sem] theorem rawC_len (l : List FNode) : (rawC l).length = l.length * 3 := by
  unfold rawC
  induction l with
  | nil => rfl
  | cons w l ih => rw [List.flatMap_cons, List.length_append, ih, List.length_cons]; simp [FNode.rs]; omega
@[local go_sem] theorem rawC_purge (id : Nat) (l : List FNode) : AV.purgeL id (rawC l) = rawC l := purgeL_pur (rawC_pur l)
@[local go_sem] theorem rawC_ment (id : Nat) (l : List FNode) : AV.mentL id (rawC l) = false := mentL_pur (rawC_pur l)
@[local go_sem] theorem rawC_sealD (id sz bw n : Nat) (es : List AV) (l : List FNode) : AV.sealDL id sz bw n es (rawC l) = rawC l := sealDL_pur (rawC_pur l)
theorem rawC_le : ∀ l : List FNode, ALeL (rawC l) (l.flatMap FNode.cs)
  | [] => trivial
  | n :: l => by
    have ih := rawC_le l
    show ALeL (n.rs ++ rawC l) (n.cs ++ l.flatMap FNode.cs)
    unfold FNode.rs
    refine ⟨ALe.rfl' _, ?_, ALe.rfl' _, ih⟩
    split
    · rename_i h; rw [h]; exact ALe.nil 1 8
    · exact ALe.rfl' _
theorem goN_len (gs : List Int) (k : Nat) : (flatT 0 (goT gs k)).length = 3 + 2 * k := by rw [flatT_len, goT_sz]
theorem goN_zero (gs : List Int) : rawC (flatT 0 (goT gs 0)) = [.int 1, .nilS, .int 0, .int 6, ints [0], .int 0, .int 3, ints [1], .int 0] := rfl
theorem goN_succ (gs : List Int) {k : Nat} (h : k < gs.length) : rawC (flatT 0 (goT gs (k + 1))) = rawC (flatT 0 (goT gs k)) ++ [.int 2, .nilS, .int gs[k]] ++ [.int 4, ints [((3 + 2 * k + 1 : Nat) : Int) - 2, ((3 + 2 * k + 1 : Nat) : Int) - 1], .int 0] := by
  rw [goT_flat, rawC_app, rawC_app, getBang h, goN_len, show ((3 + 2 * k : Nat) : Int) - 1 = ((3 + 2 * k + 1 : Nat) : Int) - 2 by omega, show ((3 + 2 * k : Nat) : Int) = ((3 + 2 * k + 1 : Nat) : Int) - 1 by omega]; rfl
theorem goN_end (gs : List Int) (k : Nat) : rawC (flatT 0 (.un 9 0 (goT gs k))) = rawC (flatT 0 (goT gs k)) ++ [.int 9, ints [((3 + 2 * k : Nat) : Int) - 1], .int 0] := by
  rw [flatT, rawC_app, goT_sz]; simp only [Int.natCast_zero, Int.zero_add]; rfl
attribute [local go_sem] purge_appF
@[local go_sem] theorem cast_0F : ((0 : Nat) : Int) = 0 := rfl
theorem goalsLaw_pc (t : Task) (plan : List Int) : PCall Try.prog 7 [t.av, ints plan] (fun r => r = .bool true) := by
  by_cases hp : playF t t.init plan = (0, 0)
  · have hplay := play_ok t t.init plan hp
    obtain ⟨hw, hset, h60, hin, hall⟩ := playF_ok hp
    have hsv := solves_pc t plan
    rw [solvesOf_ok (planF_in.2 ⟨hw, h60, hin⟩)] at hsv
    
    
    
    have hf0 := hw.f0
    have hf1 := hw.f1
    by_cases h20 : plan.length + 1 ≤ 20
    · have hsets := runL_set hf0 plan t.init hset
      have hgset := hw.goal
      have hglen := isSet_len hgset hf0
      obtain ⟨hgb, _⟩ := isSet_iff.1 hgset
      have hfin := flatT_len (.un 9 0 (goT t.goal t.goal.length)) 0
      have hkk : kindOK (.un 9 0 (goT t.goal t.goal.length)) := ⟨by omega, goT_ok _ _⟩
      have hff := flat_valid (facts := t.facts) hkk (goT_okF hgb _ (Nat.le_refl _)) ⟨hf0, hf1⟩ (by simp only [sz, goT_sz]; omega)
      have hev := eval_pc (flatT 0 (.un 9 0 (goT t.goal t.goal.length))) t.facts (runL t t.init plan)
      have hE : evalF t.facts (flatT 0 (.un 9 0 (goT t.goal t.goal.length))) (runL t t.init plan) = (0, 0) := by
        rw [evalF, if_neg (by simp [hff]), if_neg (by omega), if_neg]
        intro hb
        obtain ⟨x, h1, h2⟩ := List.any_eq_true.1 hb
        rw [hsets x h1] at h2
        cases h2
      have hroot : rootT (flatT 0 (.un 9 0 (goT t.goal t.goal.length))) = .un 9 0 (goT t.goal t.goal.length) := by
        unfold rootT
        rw [hfin]
        exact dec_trA (flat_dec hkk) (by have := sz_pos (.un 9 0 (goT t.goal t.goal.length)); omega)
      have hB : evalB t.facts (flatT 0 (.un 9 0 (goT t.goal t.goal.length))) (runL t t.init plan) = worksB t t.init (natP plan) := by
        rw [evalB, hE, hroot]
        show anyS (sat (goT t.goal t.goal.length)) (runL t t.init plan) = _
        rcases runL_ends plan t.init hin with ⟨e, h1, h2, h3⟩ | ⟨_, h2⟩
        · rw [any_last t.goal _ e plan.length h2 h3, worksB, h1]
        · omega
      rw [hE, hB] at hev
      simp only at hsv
      generalize worksB t t.init (natP plan) = b at *
      
      (refine enterS Try.func7 Try.ntmps7 ?_)
      (repeat' (first | (refine hK _ ?_; clear hK K) | (refine aw_seq (fun K hK => ?_)) | (refine gRx 4 (by rfl) ?_; refine regS ?_) | (refine gC 18 ?_; refine callS (hplay) ?_) | (refine gC 9 ?_; refine callS (traces_pc) ?_) | (refine gC 14 ?_; refine callS (hev) ?_) | (refine gC 19 ?_; refine callS (hsv) ?_) | (refine stk_op (fun K hK => ?_); (first | (refine aop_pv (pv_fieldAddrF (by rfl) (by rfl) (by first | decide | (simp; done) | (simp; omega))) ?_) | (refine aop_pv (pv_fieldAddrIF (by rfl) (by rfl) (by first | decide | (simp; done) | (simp; omega))) ?_) | (refine aop_pv (pv_neq (by rfl) (by rfl)) ?_) | (refine aop_pv (pv_neqB (by rfl) (by rfl)) ?_) | (refine aop_pv (pv_neqA (by rfl) (by rfl) (by kernel_rfl)) ?_) | (refine aop_pv (pv_eql (by rfl) (by rfl)) ?_) | (refine aop_pv (pv_eqlB (by rfl) (by rfl)) ?_) | (refine aop_pv (pv_eqlA (by rfl) (by rfl) (by kernel_rfl)) ?_) | (refine appendS ?_) | (refine virtS 57 65 3 40 48 ?_; refine appendS ?_) | (refine virtS 66 76 3 40 48 ?_; refine appendS ?_) | (refine virtS 77 84 3 40 48 ?_; refine appendS ?_))) | (refine gE ?_; (first | (refine exN ?_) | (refine exS (fun _ => ?_)))) | (refine gG ?_; refine guardS (fun hc => ?_) (fun hc => ?_) <;> (try (first | contradiction | (exfalso; omega)))) | (refine gQ ?_; (first | (refine condT ?_) | (refine condF ?_) | (refine condS (fun hc => ?_) (fun hc => ?_) <;> (try (first | contradiction | (exfalso; omega)))))) | (refine gW ?_; refine wopsS ?_) | (refine aw_block ?_) | (refine gX ?_; refine exitS ?_) | (refine gT ?_; refine retS ?_) | (refine gS ?_; refine skipS ?_) | (apply_assumption (exfalso := false) (symm := false))))
      refine aw_region ?_
      iterate 5 (refine aops_cons rfl (fun K1 hK1 => ?_); (first | refine aop_pv (pv_build (by rfl)) ?_ | refine aop_buildSlice (d := 45) ⟨by decide, by decide, by decide⟩ (by rfl) (by rfl) (by rfl) (by rfl) ?_ | refine aop_buildSlice (d := 47) ⟨by decide, by decide, by decide⟩ (by rfl) (by rfl) (by rfl) (by rfl) ?_); simp only [go_sem, Nat.reduceAdd, Nat.reduceMul, reduceIte, Nat.reduceEqDiff, Nat.reduceLeDiff, Int.reduceToNat, Int.reducePow, Int.reduceBEq, Int.reduceBNe, Int.reduceLT, Int.reduceLE, decide_true, decide_false]; refine hK1 _ ?_; clear hK1 K1)
      refine aops_cons rfl (fun K1 hK1 => ?_)
      refine aop_of_x (aopx_buildSliceO (d := 49) ⟨by decide, by decide, by decide⟩ (by rfl) (by rfl) (by rfl) (by rfl) (by rfl) ?_)
      simp only [go_sem, Nat.reduceAdd, Nat.reduceMul, reduceIte, Nat.reduceEqDiff, Nat.reduceLeDiff, Int.reduceToNat, Int.reducePow, Int.reduceBEq, Int.reduceBNe, Int.reduceLT, Int.reduceLE, decide_true, decide_false]; refine hK1 _ ?_; clear hK1 K1
      refine wgo ?_
      (repeat' (first | (refine hK _ ?_; clear hK K) | (refine aw_seq (fun K hK => ?_)) | (refine gR ?_; refine regS ?_) | (refine gC 18 ?_; refine callS (hplay) ?_) | (refine gC 9 ?_; refine callS (traces_pc) ?_) | (refine gC 14 ?_; refine callS (hev) ?_) | (refine gC 19 ?_; refine callS (hsv) ?_) | (refine stk_op (fun K hK => ?_); (first | (refine aop_pv (pv_fieldAddrF (by rfl) (by rfl) (by first | decide | (simp; done) | (simp; omega))) ?_) | (refine aop_pv (pv_fieldAddrIF (by rfl) (by rfl) (by first | decide | (simp; done) | (simp; omega))) ?_) | (refine aop_pv (pv_neq (by rfl) (by rfl)) ?_) | (refine aop_pv (pv_neqB (by rfl) (by rfl)) ?_) | (refine aop_pv (pv_neqA (by rfl) (by rfl) (by kernel_rfl)) ?_) | (refine aop_pv (pv_eql (by rfl) (by rfl)) ?_) | (refine aop_pv (pv_eqlB (by rfl) (by rfl)) ?_) | (refine aop_pv (pv_eqlA (by rfl) (by rfl) (by kernel_rfl)) ?_) | (refine appendS ?_) | (refine virtS 57 65 3 40 48 ?_; refine appendS ?_) | (refine virtS 66 76 3 40 48 ?_; refine appendS ?_) | (refine virtS 77 84 3 40 48 ?_; refine appendS ?_))) | (refine gE ?_; (first | (refine exN ?_) | (refine exS (fun _ => ?_)))) | (refine gG ?_; refine guardS (fun hc => ?_) (fun hc => ?_) <;> (try (first | contradiction | (exfalso; omega)))) | (refine gQ ?_; (first | (refine condT ?_) | (refine condF ?_) | (refine condS (fun hc => ?_) (fun hc => ?_) <;> (try (first | contradiction | (exfalso; omega)))))) | (refine gW ?_; refine wopsS ?_) | (refine aw_block ?_) | (refine gX ?_; refine exitS ?_) | (refine gT ?_; refine retS ?_) | (refine gS ?_; refine skipS ?_) | (apply_assumption (exfalso := false) (symm := false))))
      refine aw_loop_at (49 :: [7, 8, 50, 51, 52, 53, 54, 55, 56, 57, 58, 59, 60, 61, 62, 63, 64, 65, 66, 67, 68, 69, 70, 71, 72, 73, 74, 75, 76]) (fun k : Nat => k ≤ t.goal.length) (fun k => t.goal.length - k) (fun k => [(8, .int k), (7, .sl 3 40 49 0 (3 + 2 * k))]) (fun k => [(2, ⟨44, t.cs, true⟩), (6, ⟨27, [.int 0, .int 0], true⟩), (49, ⟨48, rawC (flatT 0 (goT t.goal k)), if k = 0 then true else false⟩)]) 0 (by omega) ?_ ?_
      · rw [goN_zero]
        (refine atS ?_)
        (exact weakS)
      · rintro k hk K hK
        (refine atS ?_)
        have hgl := goN_len t.goal k
        by_cases hlt : k < t.goal.length
        · generalize (if k = 0 then true else false) = fl
          (repeat' (first | (refine hK _ ?_; clear hK K) | (refine aw_seq (fun K hK => ?_)) | (refine gR ?_; refine regS ?_) | (refine gC 18 ?_; refine callS (hplay) ?_) | (refine gC 9 ?_; refine callS (traces_pc) ?_) | (refine gC 14 ?_; refine callS (hev) ?_) | (refine gC 19 ?_; refine callS (hsv) ?_) | (refine stk_op (fun K hK => ?_); (first | (refine aop_pv (pv_fieldAddrF (by rfl) (by rfl) (by first | decide | (simp; done) | (simp; omega))) ?_) | (refine aop_pv (pv_fieldAddrIF (by rfl) (by rfl) (by first | decide | (simp; done) | (simp; omega))) ?_) | (refine aop_pv (pv_neq (by rfl) (by rfl)) ?_) | (refine aop_pv (pv_neqB (by rfl) (by rfl)) ?_) | (refine aop_pv (pv_neqA (by rfl) (by rfl) (by kernel_rfl)) ?_) | (refine aop_pv (pv_eql (by rfl) (by rfl)) ?_) | (refine aop_pv (pv_eqlB (by rfl) (by rfl)) ?_) | (refine aop_pv (pv_eqlA (by rfl) (by rfl) (by kernel_rfl)) ?_) | (refine appendS ?_) | (refine virtS 57 65 3 40 48 ?_; refine appendS ?_) | (refine virtS 66 76 3 40 48 ?_; refine appendS ?_) | (refine virtS 77 84 3 40 48 ?_; refine appendS ?_))) | (refine gE ?_; (first | (refine exN ?_) | (refine exS (fun _ => ?_)))) | (refine gG ?_; refine guardS (fun hc => ?_) (fun hc => ?_) <;> (try (first | contradiction | (exfalso; omega)))) | (refine gQ ?_; (first | (refine condT ?_) | (refine condF ?_) | (refine condS (fun hc => ?_) (fun hc => ?_) <;> (try (first | contradiction | (exfalso; omega)))))) | (refine gW ?_; refine wopsS ?_) | (refine aw_block ?_) | (refine gX ?_; refine exitS ?_) | (refine gT ?_; refine retS ?_) | (refine gS ?_; refine skipS ?_) | (apply_assumption (exfalso := false) (symm := false))))
          refine ⟨k + 1, by omega, by omega, ?_⟩
          rw [goN_succ t.goal hlt, show 3 + 2 * (k + 1) = 3 + 2 * k + 1 + 1 by omega]
          (refine atS ?_)
          (exact weakS)
        · obtain rfl : k = t.goal.length := by omega
          generalize (if t.goal.length = 0 then true else false) = fl
          (repeat' (first | (refine hK _ ?_; clear hK K) | (refine aw_seq (fun K hK => ?_)) | (refine gRx 11 (by rfl) ?_; refine regS ?_) | (refine gC 18 ?_; refine callS (hplay) ?_) | (refine gC 9 ?_; refine callS (traces_pc) ?_) | (refine gC 14 ?_; refine callS (hev) ?_) | (refine gC 19 ?_; refine callS (hsv) ?_) | (refine stk_op (fun K hK => ?_); (first | (refine aop_pv (pv_fieldAddrF (by rfl) (by rfl) (by first | decide | (simp; done) | (simp; omega))) ?_) | (refine aop_pv (pv_fieldAddrIF (by rfl) (by rfl) (by first | decide | (simp; done) | (simp; omega))) ?_) | (refine aop_pv (pv_neq (by rfl) (by rfl)) ?_) | (refine aop_pv (pv_neqB (by rfl) (by rfl)) ?_) | (refine aop_pv (pv_neqA (by rfl) (by rfl) (by kernel_rfl)) ?_) | (refine aop_pv (pv_eql (by rfl) (by rfl)) ?_) | (refine aop_pv (pv_eqlB (by rfl) (by rfl)) ?_) | (refine aop_pv (pv_eqlA (by rfl) (by rfl) (by kernel_rfl)) ?_) | (refine appendS ?_) | (refine virtS 57 65 3 40 48 ?_; refine appendS ?_) | (refine virtS 66 76 3 40 48 ?_; refine appendS ?_) | (refine virtS 77 84 3 40 48 ?_; refine appendS ?_))) | (refine gE ?_; (first | (refine exN ?_) | (refine exS (fun _ => ?_)))) | (refine gG ?_; refine guardS (fun hc => ?_) (fun hc => ?_) <;> (try (first | contradiction | (exfalso; omega)))) | (refine gQ ?_; (first | (refine condT ?_) | (refine condF ?_) | (refine condS (fun hc => ?_) (fun hc => ?_) <;> (try (first | contradiction | (exfalso; omega)))))) | (refine gW ?_; refine wopsS ?_) | (refine aw_block ?_) | (refine gX ?_; refine exitS ?_) | (refine gT ?_; refine retS ?_) | (refine gS ?_; refine skipS ?_) | (apply_assumption (exfalso := false) (symm := false))))
          have he := goN_end t.goal t.goal.length
          have hol : (flatT 0 (.un 9 0 (goT t.goal t.goal.length))).length = 3 + 2 * t.goal.length + 1 := by rw [hfin]; simp only [sz, goT_sz]
          generalize flatT 0 (.un 9 0 (goT t.goal t.goal.length)) = out at *
          refine aw_le (le_ale (cs := rawC out) 49 (by rw [he]; rfl) (rawC_le out)) ?_
          simp only [go_sem, Nat.reduceAdd, Nat.reduceMul, reduceIte, Nat.reduceEqDiff, Nat.reduceLeDiff, Int.reduceToNat, Int.reducePow, Int.reduceBEq, Int.reduceBNe, Int.reduceLT, Int.reduceLE, decide_true, decide_false]
          refine aw_le (le_sealMapM (f := FNode.av) 49 3 40 (3 + 2 * t.goal.length + 1) out (by rfl) (fnc_flat _) hol (fun _ => rfl) (fun _ => rfl) (by omega)) ?_
          simp only [AV.sealSL, sealS_any, sealS_v, sealS_isl, sealS_iptr, sealS_ptr, sealS_sl, sealS_agg, sealS_tup, sealS_fn, purge_agg, purge_tup, purge_fn, and_self, AV.mentL, AV.ment, Bool.or_self, go_sem, Nat.reduceAdd, Nat.reduceMul, reduceIte, Nat.reduceEqDiff, Nat.reduceLeDiff, Int.reduceToNat, Int.reducePow, Int.reduceBEq, Int.reduceBNe, Int.reduceLT, Int.reduceLE, decide_true, decide_false]
          (repeat' (first | (refine hK _ ?_; clear hK K) | (refine aw_seq (fun K hK => ?_)) | (refine gR ?_; refine regS ?_) | (refine gC 18 ?_; refine callS (hplay) ?_) | (refine gC 9 ?_; refine callS (traces_pc) ?_) | (refine gC 14 ?_; refine callS (hev) ?_) | (refine gC 19 ?_; refine callS (hsv) ?_) | (refine stk_op (fun K hK => ?_); (first | (refine aop_pv (pv_fieldAddrF (by rfl) (by rfl) (by first | decide | (simp; done) | (simp; omega))) ?_) | (refine aop_pv (pv_fieldAddrIF (by rfl) (by rfl) (by first | decide | (simp; done) | (simp; omega))) ?_) | (refine aop_pv (pv_neq (by rfl) (by rfl)) ?_) | (refine aop_pv (pv_neqB (by rfl) (by rfl)) ?_) | (refine aop_pv (pv_neqA (by rfl) (by rfl) (by kernel_rfl)) ?_) | (refine aop_pv (pv_eql (by rfl) (by rfl)) ?_) | (refine aop_pv (pv_eqlB (by rfl) (by rfl)) ?_) | (refine aop_pv (pv_eqlA (by rfl) (by rfl) (by kernel_rfl)) ?_) | (refine appendS ?_) | (refine virtS 57 65 3 40 48 ?_; refine appendS ?_) | (refine virtS 66 76 3 40 48 ?_; refine appendS ?_) | (refine virtS 77 84 3 40 48 ?_; refine appendS ?_))) | (refine gE ?_; (first | (refine exN ?_) | (refine exS (fun _ => ?_)))) | (refine gG ?_; refine guardS (fun hc => ?_) (fun hc => ?_) <;> (try (first | contradiction | (exfalso; omega)))) | (refine gQ ?_; (first | (refine condT ?_) | (refine condF ?_) | (refine condS (fun hc => ?_) (fun hc => ?_) <;> (try (first | contradiction | (exfalso; omega)))))) | (refine gW ?_; refine wopsS ?_) | (refine aw_block ?_) | (refine gX ?_; refine exitS ?_) | (refine gT ?_; refine retS ?_) | (refine gS ?_; refine skipS ?_) | (apply_assumption (exfalso := false) (symm := false))))
          all_goals ((refine fin_le (Le.refl _) (rv_one (rv1_tmp (by rfl))) (by first | rfl | (simp only [go_sem, Nat.reduceAdd, Nat.reduceMul, reduceIte, Nat.reduceEqDiff, Nat.reduceLeDiff, Int.reduceToNat, Int.reducePow, Int.reduceBEq, Int.reduceBNe, Int.reduceLT, Int.reduceLE, decide_true, decide_false])) ?_); simp)
    · (refine enterS Try.func7 Try.ntmps7 ?_)
      (repeat' (first | (refine hK _ ?_; clear hK K) | (refine aw_seq (fun K hK => ?_)) | (refine gR ?_; refine regS ?_) | (refine gC 18 ?_; refine callS (hplay) ?_) | (refine gC 9 ?_; refine callS (traces_pc) ?_) | (refine gC 14 ?_; refine callS (hev) ?_) | (refine gC 19 ?_; refine callS (hsv) ?_) | (refine stk_op (fun K hK => ?_); (first | (refine aop_pv (pv_fieldAddrF (by rfl) (by rfl) (by first | decide | (simp; done) | (simp; omega))) ?_) | (refine aop_pv (pv_fieldAddrIF (by rfl) (by rfl) (by first | decide | (simp; done) | (simp; omega))) ?_) | (refine aop_pv (pv_neq (by rfl) (by rfl)) ?_) | (refine aop_pv (pv_neqB (by rfl) (by rfl)) ?_) | (refine aop_pv (pv_neqA (by rfl) (by rfl) (by kernel_rfl)) ?_) | (refine aop_pv (pv_eql (by rfl) (by rfl)) ?_) | (refine aop_pv (pv_eqlB (by rfl) (by rfl)) ?_) | (refine aop_pv (pv_eqlA (by rfl) (by rfl) (by kernel_rfl)) ?_) | (refine appendS ?_) | (refine virtS 57 65 3 40 48 ?_; refine appendS ?_) | (refine virtS 66 76 3 40 48 ?_; refine appendS ?_) | (refine virtS 77 84 3 40 48 ?_; refine appendS ?_))) | (refine gE ?_; (first | (refine exN ?_) | (refine exS (fun _ => ?_)))) | (refine gG ?_; refine guardS (fun hc => ?_) (fun hc => ?_) <;> (try (first | contradiction | (exfalso; omega)))) | (refine gQ ?_; (first | (refine condT ?_) | (refine condF ?_) | (refine condS (fun hc => ?_) (fun hc => ?_) <;> (try (first | contradiction | (exfalso; omega)))))) | (refine gW ?_; refine wopsS ?_) | (refine aw_block ?_) | (refine gX ?_; refine exitS ?_) | (refine gT ?_; refine retS ?_) | (refine gS ?_; refine skipS ?_) | (apply_assumption (exfalso := false) (symm := false))))
      all_goals ((refine fin_le (Le.refl _) (rv_one (rv1_tmp (by rfl))) (by first | rfl | (simp only [go_sem, Nat.reduceAdd, Nat.reduceMul, reduceIte, Nat.reduceEqDiff, Nat.reduceLeDiff, Int.reduceToNat, Int.reducePow, Int.reduceBEq, Int.reduceBNe, Int.reduceLT, Int.reduceLE, decide_true, decide_false])) ?_); rfl)
  · have hplay := play_no t t.init plan hp
    have hpc := playF_code hp
    generalize playF t t.init plan = p at *
    
    
    (refine enterS Try.func7 Try.ntmps7 ?_)
    (repeat' (first | (refine hK _ ?_; clear hK K) | (refine aw_seq (fun K hK => ?_)) | (refine gR ?_; refine regS ?_) | (refine gC 18 ?_; refine callS (hplay) ?_) | (refine gC 9 ?_; refine callS (traces_pc) ?_) | (refine stk_op (fun K hK => ?_); (first | (refine aop_pv (pv_fieldAddrF (by rfl) (by rfl) (by first | decide | (simp; done) | (simp; omega))) ?_) | (refine aop_pv (pv_fieldAddrIF (by rfl) (by rfl) (by first | decide | (simp; done) | (simp; omega))) ?_) | (refine aop_pv (pv_neq (by rfl) (by rfl)) ?_) | (refine aop_pv (pv_neqB (by rfl) (by rfl)) ?_) | (refine aop_pv (pv_neqA (by rfl) (by rfl) (by kernel_rfl)) ?_) | (refine aop_pv (pv_eql (by rfl) (by rfl)) ?_) | (refine aop_pv (pv_eqlB (by rfl) (by rfl)) ?_) | (refine aop_pv (pv_eqlA (by rfl) (by rfl) (by kernel_rfl)) ?_) | (refine appendS ?_) | (refine virtS 57 65 3 40 48 ?_; refine appendS ?_) | (refine virtS 66 76 3 40 48 ?_; refine appendS ?_) | (refine virtS 77 84 3 40 48 ?_; refine appendS ?_))) | (refine gE ?_; (first | (refine exN ?_) | (refine exS (fun _ => ?_)))) | (refine gG ?_; refine guardS (fun hc => ?_) (fun hc => ?_) <;> (try (first | contradiction | (exfalso; omega)))) | (refine gQ ?_; (first | (refine condT ?_) | (refine condF ?_) | (refine condS (fun hc => ?_) (fun hc => ?_) <;> (try (first | contradiction | (exfalso; omega)))))) | (refine gW ?_; refine wopsS ?_) | (refine aw_block ?_) | (refine gX ?_; refine exitS ?_) | (refine gT ?_; refine retS ?_) | (refine gS ?_; refine skipS ?_) | (apply_assumption (exfalso := false) (symm := false))))
    all_goals ((refine fin_le (Le.refl _) (rv_one (rv1_tmp (by rfl))) (by first | rfl | (simp only [go_sem, Nat.reduceAdd, Nat.reduceMul, reduceIte, Nat.reduceEqDiff, Nat.reduceLeDiff, Int.reduceToNat, Int.reducePow, Int.reduceBEq, Int.reduceBNe, Int.reduceLT, Int.reduceLE, decide_true, decide_false])) ?_); rfl)
end Go.Proofs.Ytanogjooppnihaa
