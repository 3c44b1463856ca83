import Derived.Test.YthdlckclpmfidaaCmx


namespace Go.Proofs.Ythdlckclpmfidaa
open Go.Ab
open Go
set_option linter.unusedSimpArgs false
set_option linter.unusedVariables false
set_option maxRecDepth 10000
attribute [local irreducible] PV AOp AOps AW PCall OCall MCall WCall HCall Ab.Fin OFin OFin2 MFin HFin RV RV1 Le AStk AGrd ADr ADx ADo AOpX AAny AOpsI wops wdr wgd wdt
set_option maxHeartbeats 16000000
/-! the search -/
attribute [local go_sem] nds_ment nds_purge nds_fix nds_onl nds_len nds_0 nds_1 nds_2 nds_3
/-- What a search answers. -/
structure SYes (t : Task) (plan : List Int) (c e : Int) : Prop where
  e0 : 0 ≤ e
  e1 : ∀ L, ReachL t t.init L → e ≤ (L.length : Int)
  ops : ∀ x ∈ plan, 0 ≤ x ∧ x < t.ops.length
  wk : WorksT t t.init (natP plan)
  cost : costT t (natP plan) = c
  lt : c < Inf
  len : plan.length ≤ 100000
  best : ∀ z, LeastC t t.init z → z = c
structure SNo (t : Task) (e : Int) : Prop where
  e0 : 0 ≤ e
  e1 : ∀ L, ReachL t t.init L → e ≤ (L.length : Int)
  best : ∀ z, LeastC t t.init z → z = Inf
abbrev resA (plan : List Int) (c e : Int) : AV := .agg [.bool true, ints plan, .int c, .int e]
abbrev resN (e : Int) : AV := .agg [.bool false, .nilS, .int 0, .int e]
theorem nds_takeE : ∀ {l : List Nd} {k : Nat} (hk : k < l.length), ((ndsC l).drop (k * 4)).take 4 = Nd.cs l[k]
  | [], k, hk => absurd hk (by simp)
  | n :: l, 0, _ => rfl
  | n :: l, k + 1, hk => by
    rw [Nat.succ_mul]
    exact nds_takeE (l := l) (k := k) (by simpa using hk)
@[local go_sem] theorem nds_take {N : List Nd} {k : Nat} [hl : LtK k N] : ((ndsC N).drop (k * 4)).take 4 = Nd.cs N[k]! := by
  rw [getElem!_pos N k hl.lt]
  exact nds_takeE hl.lt
@[local go_sem] theorem purge_mpY : AV.purge 16 (.mp 2000000001) = .mp 2000000001 := rfl
@[local go_sem] theorem beq_19_16 : ((19 : Nat) == 16) = false := rfl

theorem searchC_pc (t : Task) (hw : WfT t) (L : List (List Int)) (hL : ReachL t t.init L) : PCall Try.prog 43 [t.av] (fun r => (∃ plan c e, r = resA plan c e ∧ SYes t plan c e) ∨ ∃ e, r = resN e ∧ SNo t e) := by
  have h40 := hw.n40
  have h0 := hw.f0
  have h24 := hw.f1
  have hLl := hL.len
  (refine enterS Try.func43 Try.ntmps43 ?_)
  (repeat' (first | (refine hK _ ?_; clear hK K) | (refine aw_seq (fun K hK => ?_)) | (refine gRx 2 (by rfl) ?_; refine regS ?_) | (refine gE ?_; refine exN ?_)))
  refine aw_region ?_
  refine aops_cons rfl (fun K1 hK1 => ?_)
  refine aop_pv (pv_fieldAddrF (by rfl) (by rfl) (by decide)) ?_
  simp only [go_sem, Nat.reduceAdd, Nat.reduceMul, reduceIte, Nat.reduceEqDiff, Nat.reduceLeDiff, Int.reduceToNat, Int.reducePow, Int.reduceBEq, Int.reduceBNe, Int.reduceLT, Int.reduceLE, decide_true, decide_false]; refine hK1 _ ?_; clear hK1 K1
  refine aops_cons rfl (fun K1 hK1 => ?_)
  refine aop_pv (pv_load (by rfl) (by rfl) (by rfl) (by rfl)) ?_
  simp only [go_sem, Nat.reduceAdd, Nat.reduceMul, reduceIte, Nat.reduceEqDiff, Nat.reduceLeDiff, Int.reduceToNat, Int.reducePow, Int.reduceBEq, Int.reduceBNe, Int.reduceLT, Int.reduceLE, decide_true, decide_false]; refine hK1 _ ?_; clear hK1 K1
  refine aops_cons rfl (fun K1 hK1 => ?_)
  refine aop_pv (pv_build (by rfl)) ?_
  simp only [go_sem, Nat.reduceAdd, Nat.reduceMul, reduceIte, Nat.reduceEqDiff, Nat.reduceLeDiff, Int.reduceToNat, Int.reducePow, Int.reduceBEq, Int.reduceBNe, Int.reduceLT, Int.reduceLE, decide_true, decide_false]; refine hK1 _ ?_; clear hK1 K1
  refine aops_cons rfl (fun K1 hK1 => ?_)
  refine aop_of_x (aopx_buildSliceO (d := 16) ⟨by decide, by decide, by decide⟩ (by rfl) (by rfl) (by rfl) (by rfl) (by rfl) ?_)
  simp only [go_sem, Nat.reduceAdd, Nat.reduceMul, reduceIte, Nat.reduceEqDiff, Nat.reduceLeDiff, Int.reduceToNat, Int.reducePow, Int.reduceBEq, Int.reduceBNe, Int.reduceLT, Int.reduceLE, decide_true, decide_false]; refine hK1 _ ?_; clear hK1 K1
  refine wgo ?_
  (repeat' (first | (refine hK _ ?_; clear hK K) | (refine aw_seq (fun K hK => ?_)) | (refine gE ?_; refine exN ?_) | (refine gW ?_; refine wopsS ?_)))
  refine aw_region ?_
  refine aops_cons rfl (fun K1 hK1 => ?_)
  refine aop_of_x (aopx_buildSliceO (d := 17) ⟨by decide, by decide, by decide⟩ (by rfl) (by rfl) (by rfl) (by rfl) (by rfl) ?_)
  simp only [go_sem, Nat.reduceAdd, Nat.reduceMul, reduceIte, Nat.reduceEqDiff, Nat.reduceLeDiff, Int.reduceToNat, Int.reducePow, Int.reduceBEq, Int.reduceBNe, Int.reduceLT, Int.reduceLE, decide_true, decide_false]; refine hK1 _ ?_; clear hK1 K1
  refine wgo ?_
  (repeat' (first | (refine hK _ ?_; clear hK K) | (refine aw_seq (fun K hK => ?_)) | (refine gRx 5 (by rfl) ?_; refine regS ?_) | (refine stk_op (fun K hK => ?_); (refine aop_makeMap (d := 20) 2000000001 (by decide) (by rfl) (by rfl) ?_)) | (refine gE ?_; refine exN ?_) | (refine gW ?_; refine wopsS ?_) | (refine aw_block ?_)))
  refine aw_loop_at (16 :: 17 :: 18 :: [7, 8, 9, 10, 12, 21, 22, 23, 24, 25, 26, 27, 28, 29, 30, 31, 32, 33, 34, 35, 36, 37, 38, 39, 40, 41, 42, 43, 44, 45, 46, 47, 48, 49, 50, 51, 52, 53, 54, 55, 56, 57, 58, 59, 60, 61, 62, 63, 64, 65, 66, 67, 68, 69, 70, 71, 72, 73, 74, 75, 76, 77, 78, 79, 80, 81, 82, 83, 84, 85, 86, 87, 88, 89, 90, 91, 92, 93, 94, 95, 96, 97, 98, 99]) (fun q : List Nd × List Int × List Nat × Bool × Bool => SI t q.1 q.2.1 q.2.2.1 ∧ HeapOk (costN q.1) q.2.1 q.2.1.length ∧ q.2.1.length ≤ q.1.length) (fun q => 41 * (2000 - q.2.2.1.length) + q.2.1.length) (fun q => [])
    (fun q => [(1, ⟨25, t.cs, true⟩), (2, ⟨44, [.bool false, .nilS, .int 0, .int 0], true⟩), (3, ⟨44, [.bool false, .nilS, .int 0, .int q.2.2.1.length], true⟩),
      (16, ⟨82, ndsC q.1, q.2.2.2.2⟩), (4, ⟨83, [.sl 4 48 16 0 q.1.length], true⟩), (17, ⟨3, q.2.1.map AV.int, q.2.2.2.1⟩), (19, ⟨87, [.ptr 4 0, .sl 1 8 17 0 q.2.1.length], true⟩), (2000000001, ⟨1000000000, kvA (kvC q.1 q.2.2.1), false⟩)])
    ([⟨t.init, 0, -1, 0⟩], [0], [], true, true) ⟨SI.start rfl rfl rfl, fun i hi h => (by simp at hi; omega), by simp⟩ ?_ ?_
  · (refine atS ?_)
    (exact weakS)
  · rintro ⟨N, l, cl, f, f2⟩ ⟨hI, hh, hlN⟩ K hK
    simp only at hI hh hlN
    (refine atS ?_)
    have hcl := hI.b.few hL
    have hNl := hI.len
    have hle := len_hc l N f f2
    by_cases hl0 : l.length = 0
    · obtain rfl := List.eq_nil_of_length_eq_zero hl0
      (repeat' (first | (refine hK _ ?_; clear hK K) | (refine aw_seq (fun K hK => ?_)) | (refine gR ?_; refine regS ?_) | (refine stk_op (fun K hK => ?_); (refine aop_callH (hle) (by (repeat (first | exact hin_nil | refine hin_cons (by rfl) ?_))) (fun _ h => by cases h) (by rfl) (fun x hp' hx => ?_); obtain ⟨rfl, rfl⟩ := hx <;> simp only [go_sem, Nat.reduceAdd, Nat.reduceMul, reduceIte, Nat.reduceEqDiff, Nat.reduceLeDiff, Int.reduceToNat, Int.reducePow, Int.reduceBEq, Int.reduceBNe, Int.reduceLT, Int.reduceLE, decide_true, decide_false, Nat.reduceBEq, Bool.or_self, Bool.or_true, Bool.true_or, Bool.or_false, Bool.false_or, Bool.and_true, Bool.true_and, Bool.and_false, Bool.false_and, Bool.and_self, Bool.not_true, Bool.not_false, List.cons_append, List.nil_append, List.append_nil, if_true, if_false, Bool.false_eq_true, keysH])) | (refine gQ ?_; refine condF ?_) | (refine gW ?_; refine wopsS ?_) | (refine gX ?_; refine exitS ?_) | (refine gT ?_; refine retS ?_) | (apply_assumption (exfalso := false) (symm := false))))
      (refine fin_le (Le.refl _) (rv_one (rv1_cell (by first | exact pv_load (by rfl) (by rfl) (by rfl) (by rfl) | exact pv_loadA (by rfl) (by rfl) (by rfl) (by first | decide | simp)))) (by first | rfl | (simp only [go_sem, Nat.reduceAdd, Nat.reduceMul, reduceIte, Nat.reduceEqDiff, Nat.reduceLeDiff, Int.reduceToNat, Int.reducePow, Int.reduceBEq, Int.reduceBNe, Int.reduceLT, Int.reduceLE, decide_true, decide_false])) ?_)
      exact .inr ⟨cl.length, rfl, by omega, fun L' hL' => by have := hI.b.few hL'; omega, fun z hz => hI.none hw hz⟩
    · have hll : l.length ≤ 1000000 := by omega
      have hpo := popH_hc l N f f2 (by omega) hll hI.b.ref hh
      (repeat' (first | (refine hK _ ?_; clear hK K) | (refine aw_seq (fun K hK => ?_)) | (refine gRx 7 (by rfl) ?_; refine regS ?_) | (refine stk_op (fun K hK => ?_); (first | ((refine aop_callH (hle) (by (repeat (first | exact hin_nil | refine hin_cons (by rfl) ?_))) (fun _ h => by cases h) (by rfl) (fun x hp' hx => ?_); obtain ⟨rfl, rfl⟩ := hx <;> simp only [go_sem, Nat.reduceAdd, Nat.reduceMul, reduceIte, Nat.reduceEqDiff, Nat.reduceLeDiff, Int.reduceToNat, Int.reducePow, Int.reduceBEq, Int.reduceBNe, Int.reduceLT, Int.reduceLE, decide_true, decide_false, Nat.reduceBEq, Bool.or_self, Bool.or_true, Bool.true_or, Bool.or_false, Bool.false_or, Bool.and_true, Bool.true_and, Bool.and_false, Bool.false_and, Bool.and_self, Bool.not_true, Bool.not_false, List.cons_append, List.nil_append, List.append_nil, if_true, if_false, Bool.false_eq_true, keysH])) | ((refine aop_pv (pv_makeInterface) ?_)) | ((refine aop_callH (hpo) (by (repeat (first | exact hin_nil | refine hin_cons (by rfl) ?_))) (fun _ h => by cases h) (by rfl) (fun x hp' hx => ?_); obtain ⟨x, l2, rfl, hpm, hok, hmn, rfl⟩ := hx <;> simp only [go_sem, Nat.reduceAdd, Nat.reduceMul, reduceIte, Nat.reduceEqDiff, Nat.reduceLeDiff, Int.reduceToNat, Int.reducePow, Int.reduceBEq, Int.reduceBNe, Int.reduceLT, Int.reduceLE, decide_true, decide_false, Nat.reduceBEq, Bool.or_self, Bool.or_true, Bool.true_or, Bool.or_false, Bool.false_or, Bool.and_true, Bool.true_and, Bool.and_false, Bool.false_and, Bool.and_self, Bool.not_true, Bool.not_false, List.cons_append, List.nil_append, List.append_nil, if_true, if_false, Bool.false_eq_true, keysH])) | ((refine aop_pv (pv_typeAssert (by rfl) (by rfl)) ?_)))) | (refine gQ ?_; refine condS (fun hc => ?_) (fun hc => ?_) <;> (try (first | contradiction | (exfalso; omega)))) | (refine gW ?_; refine wopsS ?_) | (refine aw_block ?_) | (refine gS ?_; refine skipS ?_)))
      have hxl : x ∈ l := hpm.mem_iff.1 (List.mem_cons_self ..)
      obtain ⟨x0, x1⟩ := hI.b.ref x hxl
      obtain ⟨k, rfl⟩ : ∃ k : Nat, x = (k : Int) := ⟨x.toNat, by omega⟩
      have hkN : k < N.length := by omega
      have hLk : LtK k N := ⟨hkN⟩
      have hmn2 : ∀ y ∈ l, (N[(k : Int).toNat]!).c ≤ (N[y.toNat]!).c := fun y hy => hle_cost (hmn y hy)
      have hl2 : l2.length + 1 = l.length := by rw [← hpm.length_eq]; rfl
      have hset := hI.b.nd.set hw hkN
      have hcst := hI.b.nd.cost hw hkN
      have hwd := wordC_pc (N[k]!).st t.facts hset h24
      have hct := containsS_pc (N[k]!).st t.goal t.facts t.facts hset hw.goal
      have hstb := stubborn_pc t (N[k]!).st hw hset
      have hpath := path_pc hI.b.nd k hkN (by omega)
      
      
      
      
      cases hlk : Ab.look (kvC N cl) ((wsum (N[k]!).st : Nat) : Int) with
      | some v =>
        obtain ⟨m, hm1, hm2⟩ := kvC_some hw hI.b hset hlk
        (repeat' (first | (refine hK _ ?_; clear hK K) | (refine aw_seq (fun K hK => ?_)) | (refine gR ?_; refine regS ?_) | (refine gC 62 ?_; refine callS (hwd) ?_) | (refine stk_op (fun K hK => ?_); (refine aop_pv (pv_lookupSome hlk (by rfl) (by rfl) (by rfl) rfl) ?_)) | (refine gE ?_; refine exN ?_) | (refine gQ ?_; refine condT ?_) | (refine gW ?_; refine wopsS ?_) | (refine gX ?_; refine exitS ?_) | (apply_assumption (exfalso := false) (symm := false))))
        refine ⟨(N, l2, cl, false, f2), ⟨hI.skip hpm hm1 hm2, hok, by simp only; omega⟩, by simp only; omega, ?_⟩
        (refine atS ?_)
        (exact weakS)
      | none =>
        have hno := kvC_none hw hI.b hset hlk
        have hkv : kvC N cl ++ [(((wsum (N[k]!).st : Nat) : Int), (k : Int))] = kvC N (cl ++ [k]) := by simp [kvC]
        (repeat' (first | (refine hK _ ?_; clear hK K) | (refine aw_seq (fun K hK => ?_)) | (refine gRx 11 (by rfl) ?_; refine regS ?_) | (refine gC 62 ?_; refine callS (hwd) ?_) | (refine stk_op (fun K hK => ?_); (first | ((refine aop_pv (pv_lookupNone hlk (by rfl) (by rfl) (by rfl) rfl) ?_)) | ((refine (aop_mapNew (kv := kvC N cl) (by rfl) (by rfl) (by rfl) (by rfl) hlk (by rfl) ?_).1)))) | (refine gE ?_; refine exN ?_) | (refine gQ ?_; refine condF ?_) | (refine gW ?_; refine wopsS ?_) | (refine gS ?_; refine skipS ?_)))
        rw [hkv]
        cases hg : subB t.goal (N[k]!).st
        · rw [hg] at hct
          have hSJ := hI.close hpm (x := (k : Int)) hmn2 (by rw [Int.toNat_natCast]; exact hno) (by rw [Int.toNat_natCast]; exact hg)
          rw [Int.toNat_natCast] at hSJ
          have hcl2 := hSJ.b.few hL
          rw [List.length_append, List.length_singleton] at hcl2
          obtain ⟨S, hS⟩ : ∃ S, stubT t (N[k]!).st = S := ⟨_, rfl⟩
          rw [hS] at hstb
          obtain ⟨kv1, hk1⟩ : ∃ kv1, kvC N (cl ++ [k]) = kv1 := ⟨_, rfl⟩
          rw [hk1]
          have hstl := stub_len (t := t) (s := (N[k]!).st)
          rw [hS] at hstl
          (repeat' (first | (refine hK _ ?_; clear hK K) | (refine aw_seq (fun K hK => ?_)) | (refine gR ?_; refine regS ?_) | (refine gC 65 ?_; refine callS (hct) ?_) | (refine gC 41 ?_; refine callS (hstb) ?_) | (refine gE ?_; refine exN ?_) | (refine gQ ?_; refine condF ?_) | (refine aw_block ?_) | (refine gS ?_; refine skipS ?_)))
          obtain ⟨nd, hnd⟩ : ∃ nd, N[k]! = nd := ⟨_, rfl⟩
          rw [hnd] at hS
          have hs0 : isSet nd.st t.facts = true := by rw [← hnd]; exact hset
          have hc0 : 0 ≤ nd.c ∧ nd.c ≤ 10000000 := by rw [← hnd]; omega
          rw [hnd]
          obtain ⟨m0, hm0⟩ : ∃ m0, l2.length = m0 := ⟨_, rfl⟩
          have hm1 : m0 + 1 = l.length := by omega
          obtain ⟨m2, hm2⟩ : ∃ m2, l.length = m2 := ⟨_, rfl⟩
          rw [hm2] at hm1
          refine aw_loop_at (28 :: 30 :: [12, 68, 69, 70, 71, 72, 73, 74, 75, 76, 77, 78, 79, 80, 81, 82, 83, 84, 85, 86, 87, 88, 89, 90, 91, 92, 93, 94, 95, 96, 97, 98, 99]) (fun q : List Nd × List Int × Bool × Nat => SJ t q.1 q.2.1 cl k q.2.2.2 ∧ HeapOk (costN q.1) q.2.1 q.2.1.length ∧ q.2.1.length ≤ q.1.length ∧ k < q.1.length ∧ q.1[k]! = nd ∧ kvC q.1 (cl ++ [k]) = kv1 ∧ q.2.2.2 ≤ S.length ∧ q.2.1.length ≤ m0 + q.2.2.2) (fun q => S.length - q.2.2.2) (fun q => [(68, .int q.2.2.2)])
            (fun q => [(1, ⟨25, t.cs, true⟩), (2, ⟨44, [.bool false, .nilS, .int 0, .int 0], true⟩), (3, ⟨44, [.bool false, .nilS, .int 0, .int ((cl.length : Int) + 1)], true⟩),
              (16, ⟨82, ndsC q.1, q.2.2.1⟩), (4, ⟨83, [.sl 4 48 16 0 q.1.length], true⟩), (17, ⟨3, q.2.1.map AV.int, false⟩), (19, ⟨87, [.ptr 4 0, .sl 1 8 17 0 q.2.1.length], true⟩), (2000000001, ⟨1000000000, kvA kv1, false⟩), (8, ⟨82, nd.cs, true⟩)])
            (N, l2, f2, 0) ⟨hSJ, hok, by simp only; omega, hkN, hnd, hk1, by simp, by simp only; omega⟩ ?_ ?_
          · (refine atS ?_)
            (exact weakS)
          · clear hI hh hlN hNl hle hpo hpm hmn hmn2 hl2 hlk hno hkv hk1 hct hpath hwd hSJ hok hset hcst hxl x0 x1 hll hstb
            rintro ⟨N, l, f2, j⟩ ⟨hJ, hh, hlN, hkN, hnd, hk1, hj, hlm⟩ K hK
            simp only at hJ hh hlN hkN hnd hk1 hj hlm
            (refine atS ?_)
            have hNl := hJ.len
            by_cases hjt : j < S.length
            · have hSj : S[j] ∈ stubT t nd.st := by rw [hS]; exact List.getElem_mem hjt
              obtain ⟨q0, q1, q2⟩ := stub_sub hSj
              have hnx := next_pc t nd.st S[j] hw hs0 ⟨q0, q1⟩
              have hoc := (hw.ops (t.ops[S[j].toNat]'(by omega)) (List.getElem_mem _)).2
              
              (repeat' (first | (refine hK _ ?_; clear hK K) | (refine aw_seq (fun K hK => ?_)) | (refine gRx 18 (by rfl) ?_; refine regS ?_) | (refine gD 17 ?_; refine drS (.it 0 0 (.it 1 0 (.it 2 0 (.it 3 0 (.it 4 0 (.it 6 0 (.it 7 0 (.it 8 0 (.it 9 0 (.it 10 0 (.it 11 0 (.it 12 0 (.it 13 0 (.it 14 0 (.it 15 0 (.it 16 0 (.it 5 1 (.it 17 0 (.it 18 1 (.it 19 3 (.it 20 3 .nil))))))))))))))))))))) [0, 1, 2, 3, 4, 6, 7, 8, 9, 10, 11, 12, 13, 14, 15, 16, 17] ?_) | (refine gCd 49 ?_; refine callD (hnx) ?_) | (refine adx_op (fun K hK => ?_); refine aopx_buildSlice (d := 90) (by exact ⟨by decide, by decide, by decide⟩) (by rfl) (by rfl) (by rfl) (by rfl) ?_) | (refine ado_op (fun K hK => ?_); refine appendS ?_) | (refine gO ?_; refine adoS ?_) | (refine gE ?_; (first | (refine exN ?_) | (refine exS (fun _ => ?_)))) | (refine gQ ?_; refine condS (fun hc => ?_) (fun hc => ?_) <;> (try (first | contradiction | (exfalso; omega)))) | (refine gWd ?_; refine wdrS ?_) | (refine aw_block ?_) | (refine gS ?_; refine skipS ?_)))
              obtain ⟨n, hn⟩ : ∃ n : Nd, n = ⟨aft t.facts nd.st t.ops[S[j].toNat]!, nd.c + (t.ops[S[j].toNat]'(by omega)).cost, k, S[j]⟩ := ⟨_, rfl⟩
              have happ : ndsC N ++ [ints (aft t.facts nd.st t.ops[S[j].toNat]!), AV.int (nd.c + (t.ops[S[j].toNat]'(by omega)).cost), AV.int (k : Int), AV.int S[j]] = ndsC (N ++ [n]) := by rw [nds_app, hn]; rfl
              rw [happ, show N.length + 1 = (N ++ [n]).length by simp]
              have hl3 : ((N ++ [n]).length : Int) - 1 = N.length := by simp
              have hcongr := heapOk_congr hh (Nat.le_refl _) (costN_app (n := n) hJ.b.ref)
              have hkv2 : kvC (N ++ [n]) (cl ++ [k]) = kv1 := by
                rw [← hk1]
                exact List.map_congr_left fun m hm => by rw [app_at (hJ.b.clr m hm)]
              have hpush := fun l' hp => hJ.push hw (l' := l') (n := n) (by rw [hnd, hS]; exact hjt) (by simp only [hnd, hS]; rw [hn]) (by simp only [hnd, hS]; rw [hn, getBang (by omega)]) (by rw [hn]) (by simp only [hnd, hS]; rw [hn]) hp
              have hrf : Ref (l ++ [((N ++ [n]).length : Int) - 1]) (N ++ [n]).length := by
                rw [hl3]
                intro y hy
                have hle : (N ++ [n]).length = N.length + 1 := by simp
                rcases List.mem_append.1 hy with h5 | h5
                · have := hJ.b.ref y h5; omega
                · rw [List.mem_singleton] at h5; subst h5; omega
              have hat : (N ++ [n])[k]! = nd := by rw [app_at hkN]; exact hnd
              have hN2 : (N ++ [n]).length = N.length + 1 := by simp
              rw [← hl3] at hpush
              generalize N ++ [n] = N2 at *
              have hpu := pushH_hc l N2 false ((N2.length : Int) - 1) (by omega) (by omega) hrf hcongr
              (repeat' (first | (refine hK _ ?_; clear hK K) | (refine gR ?_; refine regS ?_) | (refine stk_op (fun K hK => ?_); (first | ((refine aop_pv (pv_makeInterface) ?_)) | ((refine aop_callH (hpu) (by (repeat (first | exact hin_nil | refine hin_cons (by rfl) ?_))) (fun _ h => by cases h) (by rfl) (fun x hp' hx => ?_); obtain ⟨rfl, l3, hpm, hok, rfl⟩ := hx <;> simp only [go_sem, Nat.reduceAdd, Nat.reduceMul, reduceIte, Nat.reduceEqDiff, Nat.reduceLeDiff, Int.reduceToNat, Int.reducePow, Int.reduceBEq, Int.reduceBNe, Int.reduceLT, Int.reduceLE, decide_true, decide_false, Nat.reduceBEq, Bool.or_self, Bool.or_true, Bool.true_or, Bool.or_false, Bool.false_or, Bool.and_true, Bool.true_and, Bool.and_false, Bool.false_and, Bool.and_self, Bool.not_true, Bool.not_false, List.cons_append, List.nil_append, List.append_nil, if_true, if_false, Bool.false_eq_true, keysH])))) | (refine gE ?_; refine exN ?_) | (refine gW ?_; refine wopsS ?_)))
              have hl3l := hpm.length_eq
              rw [List.length_append, List.length_singleton] at hl3l
              refine ⟨(N2, l3, false, j + 1), ⟨hpush l3 hpm, hok, by simp only; omega, by simp only; omega, hat, hkv2, by simp only; omega, by simp only; omega⟩, by simp only; omega, ?_⟩
              (refine atS ?_)
              (exact weakS)
            · obtain rfl : j = S.length := by omega
              have hfin := SJ.done hw (by rw [hnd, hS]; exact hJ)
              (repeat' (first | (refine hK _ ?_; clear hK K) | (refine aw_seq (fun K hK => ?_)) | (refine gR ?_; refine regS ?_) | (refine gQ ?_; refine condS (fun hc => ?_) (fun hc => ?_) <;> (try (first | contradiction | (exfalso; omega)))) | (refine gX ?_; refine exitS ?_) | (apply_assumption (exfalso := false) (symm := false))))
              refine ⟨(N, l, cl ++ [k], false, f2), ⟨hfin, hh, hlN⟩, ?_, ?_⟩
              · simp only [List.length_append, List.length_singleton]
                omega
              · rw [show ((cl.length : Int) + 1) = ((cl ++ [k]).length : Nat) by simp]
                simp only [hk1]
                (refine atS ?_)
                (exact weakS)
        · rw [hg] at hct
          obtain ⟨p1, p2, p3⟩ := hI.b.nd.path hkN
          have hbl := hI.b.nd.bkLen hkN
          have hcI : (N[k]!).c < Inf := by
            have : (N[k]!).c < 1000000000 := by omega
            exact this
          have hbest := fun z hz => hI.best hw hxl hmn2 (by rw [Int.toNat_natCast]; exact hg) (by rw [Int.toNat_natCast]; exact hcI) (z := z) hz
          rw [Int.toNat_natCast] at hbest
          have hYes : SYes t (pathN N k) (N[k]!).c cl.length := ⟨by omega, fun L' hL' => by have := hI.b.few hL'; omega, p3, ⟨_, p1, hg⟩, p2, hcI, by rw [pathN, List.length_reverse]; omega, hbest⟩
          generalize pathN N k = plan at *
          (refine aw_le (le_sealDM (f := Nd.av) 16 4 48 N.length N (by rfl) (nd_cells N) (by first | rfl | simp) (fun _ => rfl) (fun _ => rfl) (by omega)) ?_; try simp only [go_sem, Nat.reduceAdd, Nat.reduceMul, reduceIte, Nat.reduceEqDiff, Nat.reduceLeDiff, Int.reduceToNat, Int.reducePow, Int.reduceBEq, Int.reduceBNe, Int.reduceLT, Int.reduceLE, decide_true, decide_false])
          (repeat' (first | (refine hK _ ?_; clear hK K) | (refine aw_seq (fun K hK => ?_)) | (refine gR ?_; refine regS ?_) | (refine gD 12 ?_; refine drS (.it 0 0 (.it 1 0 (.it 3 0 (.it 4 0 (.it 5 0 (.it 6 0 (.it 2 1 (.it 7 0 (.it 8 3 .nil))))))))) [0, 1, 3, 4, 5, 6, 7] ?_) | (refine gC 65 ?_; refine callS (hct) ?_) | (refine gCd 66 ?_; refine callD (hpath) ?_) | (refine gO ?_; refine adoS ?_) | (refine gE ?_; refine exN ?_) | (refine gQ ?_; refine condT ?_) | (refine gT ?_; refine retS ?_)))
          (refine fin_le (Le.refl _) (rv_one (rv1_cell (by first | exact pv_load (by rfl) (by rfl) (by rfl) (by rfl) | exact pv_loadA (by rfl) (by rfl) (by rfl) (by first | decide | simp)))) (by first | rfl | (simp only [go_sem, Nat.reduceAdd, Nat.reduceMul, reduceIte, Nat.reduceEqDiff, Nat.reduceLeDiff, Int.reduceToNat, Int.reducePow, Int.reduceBEq, Int.reduceBNe, Int.reduceLT, Int.reduceLE, decide_true, decide_false])) ?_)
          exact .inl ⟨_, _, _, rfl, hYes⟩
end Go.Proofs.Ythdlckclpmfidaa
