import Derived.Test.YthdlckclpmfidaaCmf
import Derived.Test.YthdlckclpmfidaaBse



namespace Go.Proofs.Ythdlckclpmfidaa
open Go.Ab
open Go
set_option linter.unusedSimpArgs false
set_option linter.unusedVariables false
set_option maxRecDepth 10000
attribute [local irreducible] PV AOp AOps AW PCall OCall MCall WCall HCall Ab.Fin OFin OFin2 MFin HFin RV RV1 Le AStk AGrd ADr ADx ADo AOpX AAny AOpsI wops wdr wgd wdt
set_option maxHeartbeats 16000000
/-! row 33 -/

def BestK (t : Task) (s : List Int) (z : Int) : Prop := (z = -1 ∧ ManyT t s) ∨ (LeastC t s z ∧ ¬ ManyT t s)
theorem reach_few {t : Task} {s : List Int} {l : List (List Int)} (h : ReachL t s l) : ¬ ManyT t s := by
  rintro ⟨l', h1, h2, h3⟩
  have := nodup_sub h1 fun x hx => by
    obtain ⟨plan, hp⟩ := h3 x hx
    exact h.all (List.mem_of_getElem? h.head) hp
  have := h.len
  omega
theorem bestFrom_pc (t : Task) (s : List Int) (hw : WfT t) (hs : isSet s t.facts = true) : PCall Try.prog 27 [t.av, ints s] (fun r => ∃ z, r = .int z ∧ BestK t s z) := by
  
  
  (refine enterS Try.func27 Try.ntmps27 ?_)
  (repeat' (first | (refine hK _ ?_; clear hK K) | (refine aw_seq (fun K hK => ?_)) | (refine gR ?_; refine regS ?_) | (refine stk_op (fun K hK => ?_); (first | (refine aop_call (reachedFrom_pc _ _ hw hs) (by rfl) (fun x hx => ?_); obtain (⟨l, rfl, hl⟩ | ⟨rfl, hl⟩) := hx) | (refine aop_call (costs0_pc _ _ _ hw hl) (by rfl) (fun x hx => ?_); obtain ⟨z, D, rfl, hz⟩ := hx))) | (refine gE ?_; (first | (refine exN ?_) | (refine exS (fun _ => ?_)))) | (refine gQ ?_; (first | (refine condT ?_) | (refine condF ?_) | (refine condS (fun hc => ?_) (fun hc => ?_) <;> (try (first | contradiction | (exfalso; omega)))))) | (refine gW ?_; refine wopsS ?_) | (refine aw_block ?_) | (refine gX ?_; refine exitS ?_) | (refine gT ?_; refine retS ?_) | (refine gS ?_; refine skipS ?_) | (apply_assumption (exfalso := false) (symm := false))))
  · (refine fin_le (Le.refl _) (rv_one (rv1_tmp (by rfl))) (by first | rfl | (simp only [go_sem, Nat.reduceAdd, Nat.reduceMul, reduceIte, Nat.reduceEqDiff, Nat.reduceLeDiff, Int.reduceToNat, Int.reducePow, Int.reduceBEq, Int.reduceBNe, Int.reduceLT, Int.reduceLE, decide_true, decide_false])) ?_)
    exact ⟨z, rfl, .inr ⟨hz, reach_few hl⟩⟩
  · (refine fin_le (Le.refl _) (rv_one (rv1_tmp (by rfl))) (by first | rfl | (simp only [go_sem, Nat.reduceAdd, Nat.reduceMul, reduceIte, Nat.reduceEqDiff, Nat.reduceLeDiff, Int.reduceToNat, Int.reducePow, Int.reduceBEq, Int.reduceBNe, Int.reduceLT, Int.reduceLE, decide_true, decide_false])) ?_)
    exact ⟨-1, rfl, .inl ⟨rfl, hl⟩⟩
theorem many_step {t : Task} {s : List Int} {j : Nat} (hj : j < t.ops.length) (hp : subB (t.ops[j]!).pre s = true) (h : ManyT t (aft t.facts s t.ops[j]!)) : ManyT t s := by
  obtain ⟨l, h1, h2, h3⟩ := h
  refine ⟨l, h1, h2, fun x hx => ?_⟩
  obtain ⟨plan, hp2⟩ := h3 x hx
  exact ⟨j :: plan, ends_cons.2 ⟨_, by rw [getBang hj]; exact List.getElem?_eq_getElem hj, hp, hp2⟩⟩
/-- From a state that is no goal state, the cheapest plans begin with an operator that suffices. -/
theorem suffices_best {t : Task} (hw : WfT t) {s : List Int} (hs : isSet s t.facts = true) (hg : subB t.goal s = false) {z : Int} (hz : LeastC t s z) (hlt : z < Inf) (hm : ¬ ManyT t s) :
    ∃ (m : Nat) (hm : m < (stubT t s).length), ∀ z', BestK t (aft t.facts s t.ops[((stubT t s)[m]).toNat]!) z' → (t.ops[((stubT t s)[m]).toNat]!).cost + z' = z := by
  obtain ⟨r, hr, hc⟩ := hz.has hlt
  obtain ⟨j, r', h1, h2, h3, _, h5⟩ := stub_step hw hs hg hr
  obtain ⟨m, hml, he⟩ := List.getElem_of_mem h2
  refine ⟨m, hml, fun z' hz' => ?_⟩
  rw [he, Int.toNat_natCast] at hz' ⊢
  obtain ⟨_, _, hp⟩ := stub_sub h2
  rw [Int.toNat_natCast] at hp
  have hjo : t.ops[j]? = some t.ops[j]! := by rw [getBang h1]; exact List.getElem?_eq_getElem h1
  have hcb := (hw.ops t.ops[j]! (by rw [getBang h1]; exact List.getElem_mem h1)).2
  rcases hz' with ⟨_, hmm⟩ | ⟨hz', _⟩
  · exact absurd (many_step h1 hp hmm) hm
  · have g1 := hz'.le r' h3
    have g2 : z' < Inf := by omega
    obtain ⟨r2, hr2, hc2⟩ := hz'.has g2
    have hw2 : WorksT t s (j :: r2) := works_cons.2 ⟨_, hjo, hp, hr2⟩
    have g3 := hz.le _ hw2
    have g4 : costT t (j :: r2) = (t.ops[j]!).cost + costT t r2 := by
      rw [costT, hjo]
    omega
theorem inT {n b : Int} (h : 0 ≤ n ∧ n ≤ b) : PCall Try.prog 9 [.int n, .int 0, .int b] (fun r => r = .bool true) := (in_pc n 0 b).mono fun r hr => by
  rw [hr, (inB_t n 0 b).mpr h]
theorem sub_at {a b : List Int} {v : Bool} (h : subB a b = v) : PCall Try.prog 26 [ints a, ints b] (fun r => r = .bool v) := by
  rw [← h]
  exact subset_pc a b
theorem app_mem {t : Task} {s : List Int} {x : Int} : x ∈ appL t s t.ops.length ↔ 0 ≤ x ∧ x < t.ops.length ∧ subB (t.ops[x.toNat]!).pre s = true := by
  unfold appL outK
  rw [List.mem_filter, upTo_mem, and_assoc]
theorem stub_app {t : Task} {s : List Int} : subB (stubT t s) (appL t s t.ops.length) = true := by
  rw [subB_iff]
  exact fun x hx => app_mem.2 (stub_sub hx)
theorem bestOk_bd {t : Task} {s : List Int} {z : Int} (h : BestK t s z) : -1 ≤ z ∧ z ≤ 1000000000 := by
  rcases h with ⟨rfl, _⟩ | ⟨h, _⟩
  · omega
  · exact ⟨by have := h.z0; omega, h.z1⟩

theorem sufC_pc (t : Task) (s : List Int) : PCall Try.prog 6 [t.av, ints s] (fun r => r = .bool true) := by
  by_cases hs : stFault t s = (0, 0)
  · obtain ⟨hw, hset⟩ := stFault_ok.1 hs
    have h40 := hw.n40
    have h1 := stubC_ok t s hs
    have h2 := applicableS_pc t s hs
    have h3 := sub_at (stub_app (t := t) (s := s))
    have h4 := bestFrom_pc t s hw hset
    have hsub := fun x (hx : x ∈ stubT t s) => stub_sub hx
    have hlS := stub_len (t := t) (s := s)
    have hbest := fun z hz h1 h2 h3 => suffices_best hw hset h1 (z := z) hz h2 h3
    generalize stubT t s = S at *
    generalize appL t s t.ops.length = A at *
    obtain ⟨g, hg⟩ : ∃ g, subB t.goal s = g := ⟨_, rfl⟩
    have h5 := sub_at hg
    rw [hg] at hbest
    
    
    
    
    
    cases g
    · (refine enterS Try.func6 Try.ntmps6 ?_)
      (repeat' (first | (refine hK _ ?_; clear hK K) | (refine aw_seq (fun K hK => ?_)) | (refine gR ?_; refine regS ?_) | (refine gD 13 ?_; refine drS (.it 0 0 (.it 1 0 (.it 2 0 (.it 3 0 (.it 4 0 (.it 5 0 (.it 6 0 (.it 7 0 (.it 8 1 (.it 9 0 (.it 10 0 (.it 11 0 (.it 12 0 (.it 13 0 (.it 14 0 (.it 15 0 (.it 16 0 (.it 17 0 (.it 18 0 (.it 19 0 (.it 20 0 (.it 21 0 (.it 22 0 (.it 23 0 (.it 24 0 (.it 25 0 (.it 29 0 (.it 26 2 (.it 27 2 (.it 28 0 (.it 30 0 (.it 31 0 .nil)))))))))))))))))))))))))))))))) [0, 1, 2, 3, 4, 5, 6, 7, 9, 10, 11, 12, 13, 14, 15, 16, 17, 18, 19, 20, 21, 22, 23, 24, 25, 26, 27, 28, 29, 30, 31] ?_) | (refine gC 16 ?_; refine callS (h1) ?_) | (refine gC 12 ?_; refine callS (apart_pc) ?_) | (refine gC 25 ?_; refine callS (h2) ?_) | (refine gC 26 ?_; refine callS (h3) ?_) | (refine gC 26 ?_; refine callS (h5) ?_) | (refine stk_op (fun K hK => ?_); (first | (refine aop_pv (pv_fieldAddrF (by rfl) (by rfl) (by first | decide | (simp; done) | (simp; omega))) ?_) | (refine aop_pv (pv_fieldAddrIF (by rfl) (by rfl) (by first | decide | (simp; done) | (simp; omega))) ?_) | (refine aop_pv (pv_neq (by rfl) (by rfl)) ?_) | (refine aop_pv (pv_neqB (by rfl) (by rfl)) ?_) | (refine aop_pv (pv_neqA (by rfl) (by rfl) (by kernel_rfl)) ?_) | (refine aop_pv (pv_eql (by rfl) (by rfl)) ?_) | (refine aop_pv (pv_eqlB (by rfl) (by rfl)) ?_) | (refine aop_pv (pv_eqlA (by rfl) (by rfl) (by kernel_rfl)) ?_) | (refine aop_call (h4) (by rfl) (fun x hx => ?_); obtain ⟨z, rfl, hz⟩ := hx))) | (refine adx_op (fun K hK => ?_); (first | (refine aopx_pv (pv_fieldAddrF (by rfl) (by rfl) (by first | decide | (simp; done) | (simp; omega))) ?_) | (refine aopx_pv (pv_fieldAddrIF (by rfl) (by rfl) (by first | decide | (simp; done) | (simp; omega))) ?_) | (refine aopx_call (h4) (by rfl) (fun x hx => ?_); obtain ⟨z, rfl, hz⟩ := hx) | (refine aopx_pv (pv_eql (by rfl) (by rfl)) ?_) | (refine aopx_pv (pv_eqlB (by rfl) (by rfl)) ?_) | (refine aopx_pv (pv_eqlA (by rfl) (by rfl) (by kernel_rfl)) ?_))) | (refine And.intro ?_ ?_) | (refine gDx ?_; refine adxS ?_) | (refine gE ?_; (first | (refine exN ?_) | (refine exS (fun _ => ?_)))) | (refine gG ?_; refine guardS (fun hc => ?_) (fun hc => ?_) <;> (try (first | contradiction | (exfalso; omega)))) | (refine gGd ?_; refine guardD (fun hc => ?_) (fun hc => ?_) <;> (try (first | contradiction | (exfalso; omega)))) | (refine gQ ?_; (first | (refine condT ?_) | (refine condF ?_) | (refine condS (fun hc => ?_) (fun hc => ?_) <;> (try (first | contradiction | (exfalso; omega)))))) | (refine gWd ?_; refine wdrS ?_) | (refine gW ?_; refine wopsS ?_) | (refine aw_block ?_) | (refine gX ?_; refine exitS ?_) | (refine gT ?_; refine retS ?_) | (refine gS ?_; refine skipS ?_) | (apply_assumption (exfalso := false) (symm := false))))
      · (refine fin_le (Le.refl _) (rv_one (rv1_tmp (by rfl))) (by first | rfl | (simp only [go_sem, Nat.reduceAdd, Nat.reduceMul, reduceIte, Nat.reduceEqDiff, Nat.reduceLeDiff, Int.reduceToNat, Int.reducePow, Int.reduceBEq, Int.reduceBNe, Int.reduceLT, Int.reduceLE, decide_true, decide_false])) ?_)
        rfl
      · (refine fin_le (Le.refl _) (rv_one (rv1_tmp (by rfl))) (by first | rfl | (simp only [go_sem, Nat.reduceAdd, Nat.reduceMul, reduceIte, Nat.reduceEqDiff, Nat.reduceLeDiff, Int.reduceToNat, Int.reducePow, Int.reduceBEq, Int.reduceBNe, Int.reduceLT, Int.reduceLE, decide_true, decide_false])) ?_)
        rfl
      rcases hz with ⟨rfl, _⟩ | ⟨hz, hnm⟩
      · omega
      have hzi : z < Inf := by
        have h7 := hz.z1
        have h8 : (1000000000 : Int) = Inf := rfl
        omega
      obtain ⟨m, hm, hsuf⟩ := hbest z hz rfl hzi hnm
      clear hbest
      have hz0 := hz.z0
      have hz1 : z ≤ 1000000000 := hz.z1
      refine aw_loop_at [4, 10, 60, 61, 62, 63, 64, 65, 66, 67, 68, 69, 70, 71, 72, 73, 74, 75, 76, 77, 78, 79, 80, 81, 82, 83, 84, 85, 86, 87, 88, 89, 90, 91, 92, 93, 94, 95, 96, 97] (fun i : Nat => i ≤ m) (fun i => m - i) (fun i => [(10, .int i)]) (fun _ => [(2, ⟨25, t.cs, true⟩), (6, ⟨27, [.int 0, .int 0], true⟩), (8, ⟨27, [.int 0, .int 0], true⟩)]) 0 (by omega) ?_ ?_
      · (refine atS ?_)
        (exact weakS)
      · rintro i hi K hK
        (refine atS ?_)
        have hil : i < S.length := by omega
        obtain ⟨q0, q1, q2⟩ := hsub S[i] (List.getElem_mem hil)
        have hin := inT (n := S[i]) (b := (t.ops.length : Int) - 1) (by omega)
        have haf := after_pc t s S[i].toNat (by omega) h40 hw.f0 hw.f1
        rw [Int.toNat_of_nonneg q0] at haf
        have hab := bestFrom_pc t (aft t.facts s t.ops[S[i].toNat]!) hw (aft_set hw.f0 _ _)
        have hcb := (hw.ops (t.ops[S[i].toNat]'(by omega)) (List.getElem_mem _)).2
        have hfin : i = m → ∀ z', BestK t (aft t.facts s t.ops[S[i].toNat]!) z' → (t.ops[S[i].toNat]'(by omega)).cost + z' = z := by
          intro e
          subst e
          intro z' hz'
          have := hsuf z' hz'
          rw [getBang (l := t.ops) (k := S[i].toNat) (by omega)] at this
          exact this
        have hab2 : PCall Try.prog 27 [t.av, ints (aft t.facts s t.ops[S[i].toNat]!)] (fun r => ∃ z, r = .int z ∧ BestK t (aft t.facts s t.ops[S[i].toNat]!) z ∧ -1 ≤ z ∧ z ≤ 1000000000) := hab.mono fun r ⟨z, h1, h2⟩ => ⟨z, h1, h2, bestOk_bd h2⟩
        clear hab
        obtain ⟨nx, hnx⟩ : ∃ nx, aft t.facts s t.ops[S[i].toNat]! = nx := ⟨_, rfl⟩
        rw [hnx] at hab2 hfin
        have haf2 : PCall Try.prog 28 [t.av, ints s, .int S[i]] (fun r => r = ints nx) := haf.mono fun r hr => by rw [hr, hnx]
        
        
        
        
        (repeat' (first | (refine hK _ ?_; clear hK K) | (refine aw_seq (fun K hK => ?_)) | (refine gR ?_; refine regS ?_) | (refine gD 13 ?_; refine drS (.it 0 0 (.it 1 0 (.it 2 0 (.it 3 0 (.it 4 0 (.it 5 0 (.it 6 0 (.it 7 0 (.it 8 1 (.it 9 0 (.it 10 0 (.it 11 0 (.it 12 0 (.it 13 0 (.it 14 0 (.it 15 0 (.it 16 0 (.it 17 0 (.it 18 0 (.it 19 0 (.it 20 0 (.it 21 0 (.it 22 0 (.it 23 0 (.it 24 0 (.it 25 0 (.it 29 0 (.it 26 2 (.it 27 2 (.it 28 0 (.it 30 0 (.it 31 0 .nil)))))))))))))))))))))))))))))))) [0, 1, 2, 3, 4, 5, 6, 7, 9, 10, 11, 12, 13, 14, 15, 16, 17, 18, 19, 20, 21, 22, 23, 24, 25, 26, 27, 28, 29, 30, 31] ?_) | (refine gC 16 ?_; refine callS (h1) ?_) | (refine gC 12 ?_; refine callS (apart_pc) ?_) | (refine gC 25 ?_; refine callS (h2) ?_) | (refine gC 26 ?_; refine callS (h3) ?_) | (refine gC 26 ?_; refine callS (h5) ?_) | (refine gCd 9 ?_; refine callD (hin) ?_) | (refine gCd 28 ?_; refine callD (haf2) ?_) | (refine stk_op (fun K hK => ?_); (first | (refine aop_pv (pv_fieldAddrF (by rfl) (by rfl) (by first | decide | (simp; done) | (simp; omega))) ?_) | (refine aop_pv (pv_fieldAddrIF (by rfl) (by rfl) (by first | decide | (simp; done) | (simp; omega))) ?_) | (refine aop_pv (pv_neq (by rfl) (by rfl)) ?_) | (refine aop_pv (pv_neqB (by rfl) (by rfl)) ?_) | (refine aop_pv (pv_neqA (by rfl) (by rfl) (by kernel_rfl)) ?_) | (refine aop_pv (pv_eql (by rfl) (by rfl)) ?_) | (refine aop_pv (pv_eqlB (by rfl) (by rfl)) ?_) | (refine aop_pv (pv_eqlA (by rfl) (by rfl) (by kernel_rfl)) ?_) | (refine aop_call (hab2) (by rfl) (fun x hx => ?_); obtain ⟨z', rfl, hz', hz2, hz3⟩ := hx))) | (refine adx_op (fun K hK => ?_); (first | (refine aopx_pv (pv_fieldAddrF (by rfl) (by rfl) (by first | decide | (simp; done) | (simp; omega))) ?_) | (refine aopx_pv (pv_fieldAddrIF (by rfl) (by rfl) (by first | decide | (simp; done) | (simp; omega))) ?_) | (refine aopx_call (hab2) (by rfl) (fun x hx => ?_); obtain ⟨z', rfl, hz', hz2, hz3⟩ := hx) | (refine aopx_pv (pv_eql (by rfl) (by rfl)) ?_) | (refine aopx_pv (pv_eqlB (by rfl) (by rfl)) ?_) | (refine aopx_pv (pv_eqlA (by rfl) (by rfl) (by kernel_rfl)) ?_))) | (refine And.intro ?_ ?_) | (refine gDx ?_; refine adxS ?_) | (refine gE ?_; (first | (refine exN ?_) | (refine exS (fun _ => ?_)))) | (refine gG ?_; refine guardS (fun hc => ?_) (fun hc => ?_) <;> (try (first | contradiction | (exfalso; omega)))) | (refine gGd ?_; refine guardD (fun hc => ?_) (fun hc => ?_) <;> (try (first | contradiction | (exfalso; omega)))) | (refine gQ ?_; (first | (refine condT ?_) | (refine condF ?_) | (refine condS (fun hc => ?_) (fun hc => ?_) <;> (try (first | contradiction | (exfalso; omega)))))) | (refine gWd ?_; refine wdrS ?_) | (refine gW ?_; refine wopsS ?_) | (refine aw_block ?_) | (refine gX ?_; refine exitS ?_) | (refine gT ?_; refine retS ?_) | (refine gS ?_; refine skipS ?_) | (apply_assumption (exfalso := false) (symm := false))))
        · (refine fin_le (Le.refl _) (rv_one (rv1_tmp (by rfl))) (by first | rfl | (simp only [go_sem, Nat.reduceAdd, Nat.reduceMul, reduceIte, Nat.reduceEqDiff, Nat.reduceLeDiff, Int.reduceToNat, Int.reducePow, Int.reduceBEq, Int.reduceBNe, Int.reduceLT, Int.reduceLE, decide_true, decide_false])) ?_)
          rfl
        · have hne : i ≠ m := fun e => hc (hfin e z' hz')
          refine ⟨i + 1, by omega, by omega, ?_⟩
          (refine atS ?_)
          (exact weakS)
    · 
      
      (refine enterS Try.func6 Try.ntmps6 ?_)
      (repeat' (first | (refine hK _ ?_; clear hK K) | (refine aw_seq (fun K hK => ?_)) | (refine gR ?_; refine regS ?_) | (refine gD 13 ?_; refine drS (.it 0 0 (.it 1 0 (.it 2 0 (.it 3 0 (.it 4 0 (.it 5 0 (.it 6 0 (.it 7 0 (.it 8 1 (.it 9 0 (.it 10 0 (.it 11 0 (.it 12 0 (.it 13 0 (.it 14 0 (.it 15 0 (.it 16 0 (.it 17 0 (.it 18 0 (.it 19 0 (.it 20 0 (.it 21 0 (.it 22 0 (.it 23 0 (.it 24 0 (.it 25 0 (.it 29 0 (.it 26 2 (.it 27 2 (.it 28 0 (.it 30 0 (.it 31 0 .nil)))))))))))))))))))))))))))))))) [0, 1, 2, 3, 4, 5, 6, 7, 9, 10, 11, 12, 13, 14, 15, 16, 17, 18, 19, 20, 21, 22, 23, 24, 25, 26, 27, 28, 29, 30, 31] ?_) | (refine gC 16 ?_; refine callS (h1) ?_) | (refine gC 12 ?_; refine callS (apart_pc) ?_) | (refine gC 25 ?_; refine callS (h2) ?_) | (refine gC 26 ?_; refine callS (h3) ?_) | (refine gC 26 ?_; refine callS (h5) ?_) | (refine gCd 9 ?_; refine callD (hin) ?_) | (refine gCd 28 ?_; refine callD (haf2) ?_) | (refine stk_op (fun K hK => ?_); (first | (refine aop_pv (pv_fieldAddrF (by rfl) (by rfl) (by first | decide | (simp; done) | (simp; omega))) ?_) | (refine aop_pv (pv_fieldAddrIF (by rfl) (by rfl) (by first | decide | (simp; done) | (simp; omega))) ?_) | (refine aop_pv (pv_neq (by rfl) (by rfl)) ?_) | (refine aop_pv (pv_neqB (by rfl) (by rfl)) ?_) | (refine aop_pv (pv_neqA (by rfl) (by rfl) (by kernel_rfl)) ?_) | (refine aop_pv (pv_eql (by rfl) (by rfl)) ?_) | (refine aop_pv (pv_eqlB (by rfl) (by rfl)) ?_) | (refine aop_pv (pv_eqlA (by rfl) (by rfl) (by kernel_rfl)) ?_) | (refine aop_call (h4) (by rfl) (fun x hx => ?_); obtain ⟨z, rfl, hz⟩ := hx))) | (refine adx_op (fun K hK => ?_); (first | (refine aopx_pv (pv_fieldAddrF (by rfl) (by rfl) (by first | decide | (simp; done) | (simp; omega))) ?_) | (refine aopx_pv (pv_fieldAddrIF (by rfl) (by rfl) (by first | decide | (simp; done) | (simp; omega))) ?_) | (refine aopx_call (h4) (by rfl) (fun x hx => ?_); obtain ⟨z, rfl, hz⟩ := hx) | (refine aopx_pv (pv_eql (by rfl) (by rfl)) ?_) | (refine aopx_pv (pv_eqlB (by rfl) (by rfl)) ?_) | (refine aopx_pv (pv_eqlA (by rfl) (by rfl) (by kernel_rfl)) ?_))) | (refine And.intro ?_ ?_) | (refine gDx ?_; refine adxS ?_) | (refine gE ?_; (first | (refine exN ?_) | (refine exS (fun _ => ?_)))) | (refine gG ?_; refine guardS (fun hc => ?_) (fun hc => ?_) <;> (try (first | contradiction | (exfalso; omega)))) | (refine gGd ?_; refine guardD (fun hc => ?_) (fun hc => ?_) <;> (try (first | contradiction | (exfalso; omega)))) | (refine gQ ?_; (first | (refine condT ?_) | (refine condF ?_) | (refine condS (fun hc => ?_) (fun hc => ?_) <;> (try (first | contradiction | (exfalso; omega)))))) | (refine gWd ?_; refine wdrS ?_) | (refine gW ?_; refine wopsS ?_) | (refine aw_block ?_) | (refine gX ?_; refine exitS ?_) | (refine gT ?_; refine retS ?_) | (refine gS ?_; refine skipS ?_) | (apply_assumption (exfalso := false) (symm := false))))
      all_goals (refine fin_le (Le.refl _) (rv_one (rv1_tmp (by rfl))) (by first | rfl | (simp only [go_sem, Nat.reduceAdd, Nat.reduceMul, reduceIte, Nat.reduceEqDiff, Nat.reduceLeDiff, Int.reduceToNat, Int.reducePow, Int.reduceBEq, Int.reduceBNe, Int.reduceLT, Int.reduceLE, decide_true, decide_false])) ?_)
      all_goals rfl
  · have hc := stFault_code hs
    have h1 := stubC_no t s hs
    generalize stFault t s = q at *
    
    
    (refine enterS Try.func6 Try.ntmps6 ?_)
    (repeat' (first | (refine hK _ ?_; clear hK K) | (refine aw_seq (fun K hK => ?_)) | (refine gR ?_; refine regS ?_) | (refine gD 13 ?_; refine drS (.it 0 0 (.it 1 0 (.it 2 0 (.it 3 0 (.it 4 0 (.it 5 0 (.it 6 0 (.it 7 0 (.it 8 1 (.it 9 0 (.it 10 0 (.it 11 0 (.it 12 0 (.it 13 0 (.it 14 0 (.it 15 0 (.it 16 0 (.it 17 0 (.it 18 0 (.it 19 0 (.it 20 0 (.it 21 0 (.it 22 0 (.it 23 0 (.it 24 0 (.it 25 0 (.it 29 0 (.it 26 2 (.it 27 2 (.it 28 0 (.it 30 0 (.it 31 0 .nil)))))))))))))))))))))))))))))))) [0, 1, 2, 3, 4, 5, 6, 7, 9, 10, 11, 12, 13, 14, 15, 16, 17, 18, 19, 20, 21, 22, 23, 24, 25, 26, 27, 28, 29, 30, 31] ?_) | (refine gC 16 ?_; refine callS (h1) ?_) | (refine gC 12 ?_; refine callS (apart_pc) ?_) | (refine gCd 9 ?_; refine callD (hin) ?_) | (refine gCd 28 ?_; refine callD (haf2) ?_) | (refine stk_op (fun K hK => ?_); (first | (refine aop_pv (pv_fieldAddrF (by rfl) (by rfl) (by first | decide | (simp; done) | (simp; omega))) ?_) | (refine aop_pv (pv_fieldAddrIF (by rfl) (by rfl) (by first | decide | (simp; done) | (simp; omega))) ?_) | (refine aop_pv (pv_neq (by rfl) (by rfl)) ?_) | (refine aop_pv (pv_neqB (by rfl) (by rfl)) ?_) | (refine aop_pv (pv_neqA (by rfl) (by rfl) (by kernel_rfl)) ?_) | (refine aop_pv (pv_eql (by rfl) (by rfl)) ?_) | (refine aop_pv (pv_eqlB (by rfl) (by rfl)) ?_) | (refine aop_pv (pv_eqlA (by rfl) (by rfl) (by kernel_rfl)) ?_))) | (refine adx_op (fun K hK => ?_); (first | (refine aopx_pv (pv_fieldAddrF (by rfl) (by rfl) (by first | decide | (simp; done) | (simp; omega))) ?_) | (refine aopx_pv (pv_fieldAddrIF (by rfl) (by rfl) (by first | decide | (simp; done) | (simp; omega))) ?_) | (refine aopx_pv (pv_eql (by rfl) (by rfl)) ?_) | (refine aopx_pv (pv_eqlB (by rfl) (by rfl)) ?_) | (refine aopx_pv (pv_eqlA (by rfl) (by rfl) (by kernel_rfl)) ?_))) | (refine And.intro ?_ ?_) | (refine gDx ?_; refine adxS ?_) | (refine gE ?_; (first | (refine exN ?_) | (refine exS (fun _ => ?_)))) | (refine gG ?_; refine guardS (fun hc => ?_) (fun hc => ?_) <;> (try (first | contradiction | (exfalso; omega)))) | (refine gGd ?_; refine guardD (fun hc => ?_) (fun hc => ?_) <;> (try (first | contradiction | (exfalso; omega)))) | (refine gQ ?_; (first | (refine condT ?_) | (refine condF ?_) | (refine condS (fun hc => ?_) (fun hc => ?_) <;> (try (first | contradiction | (exfalso; omega)))))) | (refine gWd ?_; refine wdrS ?_) | (refine gW ?_; refine wopsS ?_) | (refine aw_block ?_) | (refine gX ?_; refine exitS ?_) | (refine gT ?_; refine retS ?_) | (refine gS ?_; refine skipS ?_) | (apply_assumption (exfalso := false) (symm := false))))
    all_goals (refine fin_le (Le.refl _) (rv_one (rv1_tmp (by rfl))) (by first | rfl | (simp only [go_sem, Nat.reduceAdd, Nat.reduceMul, reduceIte, Nat.reduceEqDiff, Nat.reduceLeDiff, Int.reduceToNat, Int.reducePow, Int.reduceBEq, Int.reduceBNe, Int.reduceLT, Int.reduceLE, decide_true, decide_false])) ?_)
    all_goals rfl
end Go.Proofs.Ythdlckclpmfidaa
