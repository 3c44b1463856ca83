import Derived.Test.YthdlckclpmfidaaCms
import Derived.Test.YthdlckclpmfidaaAbl


namespace Go.Proofs.Ythdlckclpmfidaa
open Go.Ab
open Go
set_option linter.unusedSimpArgs false
set_option linter.unusedVariables false
set_option maxRecDepth 10000
attribute [local irreducible] PV AOp AOps AW PCall OCall MCall WCall HCall Ab.Fin OFin OFin2 MFin HFin RV RV1 Le AStk AGrd ADr ADx ADo AOpX AAny AOpsI wops wdr wgd wdt
set_option maxHeartbeats 16000000
/-! the number of reachable states -/
theorem wordC_pc (xs : List Int) (n : Int) (hs : isSet xs n = true) (hn : n ≤ 24) : PCall Try.prog 62 [ints xs] (fun r => r = .int (wsum xs : Nat)) := by
  have hb := wsum_bd hs hn
  have hm := (isSet_iff.1 hs).1
  (refine enterS Try.func62 Try.ntmps62 ?_)
  (refine aw_bound (i := 0) rfl (fun hb0 => ?_); (try simp only [List.length_map] at hb0))
  (repeat' (first | (refine hK _ ?_; clear hK K) | (refine aw_seq (fun K hK => ?_)) | (refine gR ?_; refine regS ?_) | (refine aw_block ?_)))
  refine aw_loop_at [3, 5, 8, 9, 10, 11, 12, 13, 14, 15, 16] (fun k : Nat => k ≤ xs.length) (fun k => xs.length - k) (fun k => [(3, .int (wsum (xs.take k) : Nat)), (8, .int k)]) (fun _ => []) 0 (by omega) ?_ ?_
  · (refine atS ?_)
    (exact weakS)
  · rintro k hk K hK
    (refine atS ?_)
    by_cases hlt : k < xs.length
    · have h1 := hm xs[k] (List.getElem_mem hlt)
      have h2 := wsum_take hlt
      have h3 := wsum_take_le (xs := xs) (k + 1)
      have h4 : wsum (xs.take k) < 2 ^ xs[k].toNat := wsum_lt ((isSet_iff.1 hs).2.sublist (List.take_sublist ..)) fun x hx => by
        have h5 := hm x (List.mem_of_mem_take hx)
        obtain ⟨i, hi, rfl⟩ := List.getElem_of_mem hx
        rw [List.length_take] at hi
        have := List.pairwise_iff_getElem.1 (isSet_iff.1 hs).2 i k (by omega) hlt (by omega)
        rw [List.getElem_take] at h5 ⊢
        omega
      have h5 := bits_or64_pow h1.1 (by omega) h4
      rw [← h2] at h5
      have e2 : (1 * 2 ^ xs[k].toNat : Int) = ((2 ^ xs[k].toNat : Nat) : Int) := by rw [Int.one_mul, Int.natCast_pow]; rfl
      have h6 : (2 ^ xs[k].toNat : Nat) < 2 ^ 24 := Nat.pow_lt_pow_right (by decide) (by omega)
      obtain ⟨g, hg⟩ : ∃ g : Nat, 2 ^ xs[k].toNat = g := ⟨_, rfl⟩
      rw [hg] at e2 h6
      (repeat' (first | (refine hK _ ?_; clear hK K) | (refine aw_seq (fun K hK => ?_)) | (refine gR ?_; refine regS ?_) | (refine gE ?_; (first | (refine exN ?_) | (refine exS (fun _ => ?_)))) | (refine gQ ?_; refine condS (fun hc => ?_) (fun hc => ?_) <;> (try (first | contradiction | (exfalso; omega)))) | (refine aw_block ?_) | (refine gS ?_; refine skipS ?_)))
      refine ⟨k + 1, by omega, by omega, ?_⟩
      rw [← h5]
      (refine atS ?_)
      (exact weakS)
    · obtain rfl : k = xs.length := by omega
      (repeat' (first | (refine hK _ ?_; clear hK K) | (refine aw_seq (fun K hK => ?_)) | (refine gR ?_; refine regS ?_) | (refine gQ ?_; refine condS (fun hc => ?_) (fun hc => ?_) <;> (try (first | contradiction | (exfalso; omega)))) | (refine gX ?_; refine exitS ?_) | (refine gT ?_; refine retS ?_) | (apply_assumption (exfalso := false) (symm := false))))
      (refine fin_le (Le.refl _) (rv_one (rv1_tmp (by rfl))) (by first | rfl | (simp only [go_sem, Nat.reduceAdd, Nat.reduceMul, reduceIte, Nat.reduceEqDiff, Nat.reduceLeDiff, Int.reduceToNat, Int.reducePow, Int.reduceBEq, Int.reduceBNe, Int.reduceLT, Int.reduceLE, decide_true, decide_false])) ?_)
      rw [List.take_length]

theorem successors_pc (t : Task) (s : List Int) : PCall Try.prog 47 [t.av, ints s] (fun r => r = .fn 69 [.iptr t.cs, .iptr [ints s]]) := by
  (refine enterS Try.func47 Try.ntmps47 ?_)
  (repeat' (first | (refine hK _ ?_; clear hK K) | (refine aw_seq (fun K hK => ?_)) | (refine gR ?_; refine regS ?_) | (refine stk_op (fun K hK => ?_); refine aop_le (.trans (le_sealPtr 2 rfl rfl rfl) (le_sealPtr 3 rfl rfl rfl)) ?_; simp only [go_sem, Nat.reduceAdd, Nat.reduceMul, reduceIte, Nat.reduceEqDiff, Nat.reduceLeDiff, Int.reduceToNat, Int.reducePow, Int.reduceBEq, Int.reduceBNe, Int.reduceLT, Int.reduceLE, decide_true, decide_false]; refine aop_pv pv_makeFunc ?_) | (refine gE ?_; refine exN ?_) | (refine gW ?_; refine wopsS ?_) | (refine gT ?_; refine retS ?_)))
  (refine fin_le (Le.refl _) (rv_one (rv1_tmp (by rfl))) (by first | rfl | (simp only [go_sem, Nat.reduceAdd, Nat.reduceMul, reduceIte, Nat.reduceEqDiff, Nat.reduceLeDiff, Int.reduceToNat, Int.reducePow, Int.reduceBEq, Int.reduceBNe, Int.reduceLT, Int.reduceLE, decide_true, decide_false])) ?_)
  rfl

/-- The numbers of the states, by their words. -/
def kvW (l : List (List Int)) : List (Int × Int) := l.zipIdx.map fun p => (((wsum p.1 : Nat) : Int), (p.2 : Int))
theorem kvW_app (l : List (List Int)) (x : List Int) : kvW (l ++ [x]) = kvW l ++ [(((wsum x : Nat) : Int), (l.length : Int))] := by
  simp [kvW, List.zipIdx_append]
theorem kvW_has {n : Int} {l : List (List Int)} {x : List Int} (h : ∀ y ∈ l, isSet y n = true) (hx : isSet x n = true) : (Ab.look (kvW l) ((wsum x : Nat) : Int)).isSome = true ↔ x ∈ l := by
  unfold Ab.look kvW
  rw [Option.isSome_map, List.find?_isSome]
  constructor
  · rintro ⟨p, hp, he⟩
    obtain ⟨q, hq, rfl⟩ := List.mem_map.1 hp
    simp only [beq_iff_eq] at he
    obtain ⟨y, i⟩ := q
    have := List.mem_of_getElem? (List.mem_zipIdx_iff_getElem?.1 hq)
    rw [← set_inj (h y this) hx (by simp only at he; omega)]
    exact this
  · intro hm
    obtain ⟨i, hi, rfl⟩ := List.getElem_of_mem hm
    refine ⟨(((wsum l[i] : Nat) : Int), (i : Int)), List.mem_map.2 ⟨(l[i], i), ?_, rfl⟩, by simp⟩
    rw [List.mem_zipIdx_iff_getElem?]
    simp [hi]
@[local go_sem] theorem purge_mpR : AV.purge 17 (.mp 2000000001) = .mp 2000000001 := rfl
@[local go_sem] theorem rows_mentR (id : Nat) (l : List (List Int)) : AV.mentL id (l.map fun x => ints x) = false := mentL_map id _ l fun _ => rfl
theorem rows_purR (l : List (List Int)) : AV.purL (l.map fun x => ints x) = true := purL_map _ l fun _ => rfl
@[local go_sem] theorem rows_fixR (ids pins : List Nat) (l : List (List Int)) : AV.fixL ids pins (l.map fun x => ints x) = l.map fun x => ints x := fixL_pur (rows_purR l)
@[local go_sem] theorem rows_onlR (ids : List Nat) (l : List (List Int)) : AV.onlL ids (l.map fun x => ints x) = true := onlL_pur (rows_purR l)

theorem reachable_pc (t : Task) (hw : WfT t) : PCall Try.prog 42 [t.av] (fun r => (∃ l : List (List Int), r = .int l.length ∧ ReachL t t.init l) ∨ (r = .int (-1) ∧ ManyT t t.init)) := by
  have h40 := hw.n40
  have h0 := hw.f0
  have h24 := hw.f1
  have hin := hw.init
  (refine enterS Try.func42 Try.ntmps42 ?_)
  (repeat' (first | (refine hK _ ?_; clear hK K) | (refine aw_seq (fun K hK => ?_)) | (refine gRx 2 (by rfl) ?_; refine regS ?_) | (refine gC 62 ?_; refine callS (wordC_pc _ _ (by assumption) (by assumption)) ?_) | (refine stk_op (fun K hK => ?_); (first | ((refine aop_makeMap (d := 10) 2000000001 (by decide) (by rfl) (by rfl) ?_)) | ((refine (aop_mapNew (kv := []) (by rfl) (by rfl) (by rfl) (by rfl) rfl (by rfl) ?_).2)))) | (refine gE ?_; refine exN ?_) | (refine gW ?_; refine wopsS ?_)))
  refine aw_region ?_
  refine aops_cons rfl (fun K1 hK1 => ?_)
  refine aop_pv (pv_fieldAddrF (by rfl) (by rfl) (by decide)) ?_
  simp only [go_sem, Nat.reduceAdd, Nat.reduceMul, reduceIte, Nat.reduceEqDiff, Nat.reduceLeDiff, Int.reduceToNat, Int.reducePow, Int.reduceBEq, Int.reduceBNe, Int.reduceLT, Int.reduceLE, decide_true, decide_false]; refine hK1 _ ?_; clear hK1 K1
  refine aops_cons rfl (fun K1 hK1 => ?_)
  refine aop_pv (pv_load (by rfl) (by rfl) (by rfl) (by rfl)) ?_
  simp only [go_sem, Nat.reduceAdd, Nat.reduceMul, reduceIte, Nat.reduceEqDiff, Nat.reduceLeDiff, Int.reduceToNat, Int.reducePow, Int.reduceBEq, Int.reduceBNe, Int.reduceLT, Int.reduceLE, decide_true, decide_false]; refine hK1 _ ?_; clear hK1 K1
  refine aops_cons rfl (fun K1 hK1 => ?_)
  refine aop_of_x (aopx_buildSliceO (d := 17) ⟨by decide, by decide, by decide⟩ (by rfl) (by rfl) (by rfl) (by rfl) (by rfl) ?_)
  simp only [go_sem, Nat.reduceAdd, Nat.reduceMul, reduceIte, Nat.reduceEqDiff, Nat.reduceLeDiff, Int.reduceToNat, Int.reducePow, Int.reduceBEq, Int.reduceBNe, Int.reduceLT, Int.reduceLE, decide_true, decide_false]; refine hK1 _ ?_; clear hK1 K1
  refine wgo ?_
  (repeat' (first | (refine hK _ ?_; clear hK K) | (refine aw_seq (fun K hK => ?_)) | (refine gRx 4 (by rfl) ?_; refine regS ?_) | (refine gE ?_; refine exN ?_) | (refine gW ?_; refine wopsS ?_) | (refine aw_block ?_)))
  have hRI0 : RI t t.init 0 [t.init] := ⟨rfl, by simp, by simpa using hin, by simpa using ⟨[], rfl⟩, by simp, by simp, fun j hj => by omega⟩
  refine aw_loop_at (17 :: [5, 7, 8, 9, 18, 19, 20, 21, 22, 23, 24, 25, 26, 27, 28, 29, 32, 33, 34, 35, 36, 37, 38, 39, 40, 41, 42, 43, 44, 45, 46, 47, 48, 49, 50, 51, 52]) (fun p : Nat × Bool × List (List Int) => RI t t.init p.1 p.2.2) (fun p => 2000 - p.1) (fun p => [(5, .int p.1)])
    (fun p => [(1, ⟨25, t.cs, true⟩), (2, ⟨3, [.v (.int .i64 0)], true⟩), (2000000001, ⟨1000000000, kvA (kvW p.2.2), false⟩), (3, ⟨79, [.mp 2000000001], true⟩), (4, ⟨47, [.sl 1 24 17 0 p.2.2.length], true⟩), (17, ⟨22, p.2.2.map (fun x => ints x), p.2.1⟩)]) (0, true, [t.init]) hRI0 ?_ ?_
  · (refine atS ?_)
    (exact weakS)
  · rintro ⟨i, fl, l⟩ hI K hK
    simp only at hI
    have hle := hI.le
    have hlen := hI.len
    (refine atS ?_)
    by_cases hlt : i < l.length
    · (repeat' (first | (refine hK _ ?_; clear hK K) | (refine aw_seq (fun K hK => ?_)) | (refine gRx 8 (by rfl) ?_; refine regS ?_) | (refine gD 6 ?_; refine drS (.it 0 0 (.it 1 0 (.it 2 0 (.it 3 0 (.it 4 0 (.it 5 1 .nil)))))) [0, 1, 2, 3, 4] ?_) | (refine gCd 47 ?_; refine callD (successors_pc _ _) ?_) | (refine gE ?_; (first | (refine exN ?_) | (refine exS (fun _ => ?_)))) | (refine gQ ?_; refine condS (fun hc => ?_) (fun hc => ?_) <;> (try (first | contradiction | (exfalso; omega)))) | (refine aw_block ?_) | (refine gS ?_; refine skipS ?_)))
      refine aw_forget [19, 25, 27] ?_
      (refine atS ?_)
      have hK9 := hK
      refine aw_rangeFy 1000000001 (news := []) (by rfl) (by decide) (by first | rfl | (simp [AV.mentL, AV.ment]; done)) (by first | rfl | (simp only [go_sem, Nat.reduceAdd, Nat.reduceMul, reduceIte, Nat.reduceEqDiff, Nat.reduceLeDiff, Int.reduceToNat, Int.reducePow, Int.reduceBEq, Int.reduceBNe, Int.reduceLT, Int.reduceLE, decide_true, decide_false, Nat.reduceBEq, Bool.or_self, Bool.or_true, Bool.true_or, Bool.or_false, Bool.false_or, Bool.and_true, Bool.true_and, Bool.and_false, Bool.false_and, Bool.and_self, Bool.not_true, Bool.not_false, List.cons_append, List.nil_append, List.append_nil, if_true, if_false, Bool.false_eq_true, keysH]; done)) (by first | rfl | (simp [AV.mentL, AV.ment]; done)) (by rfl) (fun id h => by cases h) (fun y hyp hya hyb => ?_) (fun _ _ h => h)
      have hlset := hI.set _ (List.getElem_mem hlt)
      (refine enterH Try.func69 Try.ntmps69 ?_)
      (repeat' (first | (refine hK _ ?_; clear hK K) | (refine aw_seq (fun K hK => ?_)) | (refine gR ?_; refine regS ?_) | (refine aw_block ?_)))
      refine aw_loop_set [4, 8, 9, 10, 11, 12, 13, 14, 15, 16, 17, 18, 19, 20, 21, 22, 23, 24, 25] (fun p : Nat × Bool × List (List Int) => RI t t.init i p.2.2 ∧ p.2.2[i]? = some l[i] ∧ p.1 ≤ t.ops.length ∧ ClAt t p.2.2 i p.1) (fun p => t.ops.length - p.1) (fun p => [(8, .int p.1)])
        (fun p => [(2000000001, ⟨1000000000, kvA (kvW p.2.2), false⟩), (4, ⟨47, [.sl 1 24 17 0 p.2.2.length], true⟩), (17, ⟨22, p.2.2.map (fun x => ints x), p.2.1⟩)]) (0, fl, l) ⟨hI, by simp [hlt], by simp, fun p hp => by simp at hp⟩ ?_ ?_
      · (refine atS ?_)
        (exact weakS)
      · generalize l[i] = s at *
        clear hI hle hlen
        rintro ⟨q, fl, l⟩ ⟨hI, hli, hq, hcl⟩ K hK
        simp only at hI hli hq hcl
        have hle := hI.le
        have hlen := hI.len
        obtain ⟨hil, hls⟩ := List.getElem?_eq_some_iff.1 hli
        (refine atS ?_)
        by_cases hqt : q < t.ops.length
        · have hcan := can_pc t s q hw hlset ⟨by omega, by omega⟩
          rw [Int.toNat_natCast] at hcan
          cases hb : subB (t.ops[q]!).pre s
          · rw [hb] at hcan
            
            (repeat' (first | (refine hK _ ?_; clear hK K) | (refine aw_seq (fun K hK => ?_)) | (refine gR ?_; refine regS ?_) | (refine gC 48 ?_; refine callS (hcan) ?_) | (refine gE ?_; refine exN ?_) | (refine gQ ?_; (first | (refine condF ?_) | (refine condS (fun hc => ?_) (fun hc => ?_) <;> (try (first | contradiction | (exfalso; omega)))))) | (refine aw_block ?_) | (refine gS ?_; refine skipS ?_)))
            refine ⟨(q + 1, fl, l), ⟨hI, hli, by simp only; omega, hcl.next (by rw [getBang hil, hls, hb]; intro h; cases h)⟩, by simp only; omega, ?_⟩
            (refine atS ?_)
            (exact weakS)
          · rw [hb] at hcan
            have hnx := next_pc t s q hw hlset ⟨by omega, by omega⟩
            rw [Int.toNat_natCast] at hnx
            have hst := aft_set h0 s t.ops[q]!
            have hst2 : l[i]! = s := by rw [getBang hil, hls]
            obtain ⟨nx, hnxe⟩ : ∃ nx, aft t.facts s t.ops[q]! = nx := ⟨_, rfl⟩
            rw [hnxe] at hnx hst
            
            (repeat' (first | (refine hK _ ?_; clear hK K) | (refine aw_seq (fun K hK => ?_)) | (refine gRx 3 (by rfl) ?_; refine regS ?_) | (refine gQ ?_; refine condS (fun hc => ?_) (fun hc => ?_) <;> (try (first | contradiction | (exfalso; omega)))) | (refine aw_block ?_) | (refine gS ?_; refine skipS ?_)))
            refine aw_regionI ?_
            refine aopsI_cons rfl rfl (fun K1 hK1 => ?_)
            first | refine aop_pv pv_move ?_ | refine aop_pv (pv_loadI (by rfl) (by rfl) (by rfl)) ?_ | refine aop_pv (pv_loadIA (by rfl) (by rfl) (by first | decide | (simp; done) | (simp; omega))) ?_ | refine aop_pv (pv_not (by rfl)) ?_ | refine aop_pv (pv_pickB (by rfl) (by rfl) (by rfl)) ?_ | (refine aop_call hcan (by rfl) (fun x hx => ?_); obtain rfl := hx) | (refine aop_call hnx (by rfl) (fun x hx => ?_); obtain rfl := hx)
            simp only [go_sem, Nat.reduceAdd, Nat.reduceMul, reduceIte, Nat.reduceEqDiff, Nat.reduceLeDiff, Int.reduceToNat, Int.reducePow, Int.reduceBEq, Int.reduceBNe, Int.reduceLT, Int.reduceLE, decide_true, decide_false]; refine hK1 _ ?_; clear hK1 K1
            refine aopsI_cons rfl rfl (fun K1 hK1 => ?_)
            first | refine aop_pv pv_move ?_ | refine aop_pv (pv_loadI (by rfl) (by rfl) (by rfl)) ?_ | refine aop_pv (pv_loadIA (by rfl) (by rfl) (by first | decide | (simp; done) | (simp; omega))) ?_ | refine aop_pv (pv_not (by rfl)) ?_ | refine aop_pv (pv_pickB (by rfl) (by rfl) (by rfl)) ?_ | (refine aop_call hcan (by rfl) (fun x hx => ?_); obtain rfl := hx) | (refine aop_call hnx (by rfl) (fun x hx => ?_); obtain rfl := hx)
            simp only [go_sem, Nat.reduceAdd, Nat.reduceMul, reduceIte, Nat.reduceEqDiff, Nat.reduceLeDiff, Int.reduceToNat, Int.reducePow, Int.reduceBEq, Int.reduceBNe, Int.reduceLT, Int.reduceLE, decide_true, decide_false]; refine hK1 _ ?_; clear hK1 K1
            refine aopsI_cons rfl rfl (fun K1 hK1 => ?_)
            first | refine aop_pv pv_move ?_ | refine aop_pv (pv_loadI (by rfl) (by rfl) (by rfl)) ?_ | refine aop_pv (pv_loadIA (by rfl) (by rfl) (by first | decide | (simp; done) | (simp; omega))) ?_ | refine aop_pv (pv_not (by rfl)) ?_ | refine aop_pv (pv_pickB (by rfl) (by rfl) (by rfl)) ?_ | (refine aop_call hcan (by rfl) (fun x hx => ?_); obtain rfl := hx) | (refine aop_call hnx (by rfl) (fun x hx => ?_); obtain rfl := hx)
            simp only [go_sem, Nat.reduceAdd, Nat.reduceMul, reduceIte, Nat.reduceEqDiff, Nat.reduceLeDiff, Int.reduceToNat, Int.reducePow, Int.reduceBEq, Int.reduceBNe, Int.reduceLT, Int.reduceLE, decide_true, decide_false]; refine hK1 _ ?_; clear hK1 K1
            refine aopsI_cons rfl rfl (fun K1 hK1 => ?_)
            first | refine aop_pv pv_move ?_ | refine aop_pv (pv_loadI (by rfl) (by rfl) (by rfl)) ?_ | refine aop_pv (pv_loadIA (by rfl) (by rfl) (by first | decide | (simp; done) | (simp; omega))) ?_ | refine aop_pv (pv_not (by rfl)) ?_ | refine aop_pv (pv_pickB (by rfl) (by rfl) (by rfl)) ?_ | (refine aop_call hcan (by rfl) (fun x hx => ?_); obtain rfl := hx) | (refine aop_call hnx (by rfl) (fun x hx => ?_); obtain rfl := hx)
            simp only [go_sem, Nat.reduceAdd, Nat.reduceMul, reduceIte, Nat.reduceEqDiff, Nat.reduceLeDiff, Int.reduceToNat, Int.reducePow, Int.reduceBEq, Int.reduceBNe, Int.reduceLT, Int.reduceLE, decide_true, decide_false]; refine hK1 _ ?_; clear hK1 K1
            refine aopsI_cons rfl rfl (fun K1 hK1 => ?_)
            first | refine aop_pv pv_move ?_ | refine aop_pv (pv_loadI (by rfl) (by rfl) (by rfl)) ?_ | refine aop_pv (pv_loadIA (by rfl) (by rfl) (by first | decide | (simp; done) | (simp; omega))) ?_ | refine aop_pv (pv_not (by rfl)) ?_ | refine aop_pv (pv_pickB (by rfl) (by rfl) (by rfl)) ?_ | (refine aop_call hcan (by rfl) (fun x hx => ?_); obtain rfl := hx) | (refine aop_call hnx (by rfl) (fun x hx => ?_); obtain rfl := hx)
            simp only [go_sem, Nat.reduceAdd, Nat.reduceMul, reduceIte, Nat.reduceEqDiff, Nat.reduceLeDiff, Int.reduceToNat, Int.reducePow, Int.reduceBEq, Int.reduceBNe, Int.reduceLT, Int.reduceLE, decide_true, decide_false]; refine hK1 _ ?_; clear hK1 K1
            refine aopsI_unguard (by rfl) (by rfl) ?_
            refine aopsI_cons rfl rfl (fun K1 hK1 => ?_)
            first | refine aop_pv pv_move ?_ | refine aop_pv (pv_loadI (by rfl) (by rfl) (by rfl)) ?_ | refine aop_pv (pv_loadIA (by rfl) (by rfl) (by first | decide | (simp; done) | (simp; omega))) ?_ | refine aop_pv (pv_not (by rfl)) ?_ | refine aop_pv (pv_pickB (by rfl) (by rfl) (by rfl)) ?_ | (refine aop_call hcan (by rfl) (fun x hx => ?_); obtain rfl := hx) | (refine aop_call hnx (by rfl) (fun x hx => ?_); obtain rfl := hx)
            simp only [go_sem, Nat.reduceAdd, Nat.reduceMul, reduceIte, Nat.reduceEqDiff, Nat.reduceLeDiff, Int.reduceToNat, Int.reducePow, Int.reduceBEq, Int.reduceBNe, Int.reduceLT, Int.reduceLE, decide_true, decide_false]; refine hK1 _ ?_; clear hK1 K1
            refine aopsI_unguard (by rfl) (by rfl) ?_
            refine aopsI_cons rfl rfl (fun K1 hK1 => ?_)
            first | refine aop_pv pv_move ?_ | refine aop_pv (pv_loadI (by rfl) (by rfl) (by rfl)) ?_ | refine aop_pv (pv_loadIA (by rfl) (by rfl) (by first | decide | (simp; done) | (simp; omega))) ?_ | refine aop_pv (pv_not (by rfl)) ?_ | refine aop_pv (pv_pickB (by rfl) (by rfl) (by rfl)) ?_ | (refine aop_call hcan (by rfl) (fun x hx => ?_); obtain rfl := hx) | (refine aop_call hnx (by rfl) (fun x hx => ?_); obtain rfl := hx)
            simp only [go_sem, Nat.reduceAdd, Nat.reduceMul, reduceIte, Nat.reduceEqDiff, Nat.reduceLeDiff, Int.reduceToNat, Int.reducePow, Int.reduceBEq, Int.reduceBNe, Int.reduceLT, Int.reduceLE, decide_true, decide_false]; refine hK1 _ ?_; clear hK1 K1
            refine aopsI_unguard (by rfl) (by rfl) ?_
            refine aopsI_cons rfl rfl (fun K1 hK1 => ?_)
            first | refine aop_pv pv_move ?_ | refine aop_pv (pv_loadI (by rfl) (by rfl) (by rfl)) ?_ | refine aop_pv (pv_loadIA (by rfl) (by rfl) (by first | decide | (simp; done) | (simp; omega))) ?_ | refine aop_pv (pv_not (by rfl)) ?_ | refine aop_pv (pv_pickB (by rfl) (by rfl) (by rfl)) ?_ | (refine aop_call hcan (by rfl) (fun x hx => ?_); obtain rfl := hx) | (refine aop_call hnx (by rfl) (fun x hx => ?_); obtain rfl := hx)
            simp only [go_sem, Nat.reduceAdd, Nat.reduceMul, reduceIte, Nat.reduceEqDiff, Nat.reduceLeDiff, Int.reduceToNat, Int.reducePow, Int.reduceBEq, Int.reduceBNe, Int.reduceLT, Int.reduceLE, decide_true, decide_false]; refine hK1 _ ?_; clear hK1 K1
            refine aopsI_unguard (by rfl) (by rfl) ?_
            refine aopsI_cons rfl rfl (fun K1 hK1 => ?_)
            first | refine aop_pv pv_move ?_ | refine aop_pv (pv_loadI (by rfl) (by rfl) (by rfl)) ?_ | refine aop_pv (pv_loadIA (by rfl) (by rfl) (by first | decide | (simp; done) | (simp; omega))) ?_ | refine aop_pv (pv_not (by rfl)) ?_ | refine aop_pv (pv_pickB (by rfl) (by rfl) (by rfl)) ?_ | (refine aop_call hcan (by rfl) (fun x hx => ?_); obtain rfl := hx) | (refine aop_call hnx (by rfl) (fun x hx => ?_); obtain rfl := hx)
            simp only [go_sem, Nat.reduceAdd, Nat.reduceMul, reduceIte, Nat.reduceEqDiff, Nat.reduceLeDiff, Int.reduceToNat, Int.reducePow, Int.reduceBEq, Int.reduceBNe, Int.reduceLT, Int.reduceLE, decide_true, decide_false]; refine hK1 _ ?_; clear hK1 K1
            refine aopsI_unguard (by rfl) (by rfl) ?_
            refine aopsI_cons rfl rfl (fun K1 hK1 => ?_)
            first | refine aop_pv pv_move ?_ | refine aop_pv (pv_loadI (by rfl) (by rfl) (by rfl)) ?_ | refine aop_pv (pv_loadIA (by rfl) (by rfl) (by first | decide | (simp; done) | (simp; omega))) ?_ | refine aop_pv (pv_not (by rfl)) ?_ | refine aop_pv (pv_pickB (by rfl) (by rfl) (by rfl)) ?_ | (refine aop_call hcan (by rfl) (fun x hx => ?_); obtain rfl := hx) | (refine aop_call hnx (by rfl) (fun x hx => ?_); obtain rfl := hx)
            simp only [go_sem, Nat.reduceAdd, Nat.reduceMul, reduceIte, Nat.reduceEqDiff, Nat.reduceLeDiff, Int.reduceToNat, Int.reducePow, Int.reduceBEq, Int.reduceBNe, Int.reduceLT, Int.reduceLE, decide_true, decide_false]; refine hK1 _ ?_; clear hK1 K1
            refine aopsI_unguard (by rfl) (by rfl) ?_
            refine aopsI_cons rfl rfl (fun K1 hK1 => ?_)
            first | refine aop_pv pv_move ?_ | refine aop_pv (pv_loadI (by rfl) (by rfl) (by rfl)) ?_ | refine aop_pv (pv_loadIA (by rfl) (by rfl) (by first | decide | (simp; done) | (simp; omega))) ?_ | refine aop_pv (pv_not (by rfl)) ?_ | refine aop_pv (pv_pickB (by rfl) (by rfl) (by rfl)) ?_ | (refine aop_call hcan (by rfl) (fun x hx => ?_); obtain rfl := hx) | (refine aop_call hnx (by rfl) (fun x hx => ?_); obtain rfl := hx)
            simp only [go_sem, Nat.reduceAdd, Nat.reduceMul, reduceIte, Nat.reduceEqDiff, Nat.reduceLeDiff, Int.reduceToNat, Int.reducePow, Int.reduceBEq, Int.reduceBNe, Int.reduceLT, Int.reduceLE, decide_true, decide_false]; refine hK1 _ ?_; clear hK1 K1
            refine aopsI_unguard (by rfl) (by rfl) ?_
            refine aopsI_yieldy 1000000002 hyp hya hyb (by rfl) (by rfl) (by rfl) (by rfl) (by rfl) (by decide) (by decide) (by decide) (by rfl) (by first | rfl | (simp only [go_sem, Nat.reduceAdd, Nat.reduceMul, reduceIte, Nat.reduceEqDiff, Nat.reduceLeDiff, Int.reduceToNat, Int.reducePow, Int.reduceBEq, Int.reduceBNe, Int.reduceLT, Int.reduceLE, decide_true, decide_false, Nat.reduceBEq, Bool.or_self, Bool.or_true, Bool.true_or, Bool.or_false, Bool.false_or, Bool.and_true, Bool.true_and, Bool.and_false, Bool.false_and, Bool.and_self, Bool.not_true, Bool.not_false, List.cons_append, List.nil_append, List.append_nil, if_true, if_false, Bool.false_eq_true, keysH]; done)) (by rfl) (by rfl) ?_
            simp only [go_sem, Nat.reduceAdd, Nat.reduceMul, reduceIte, Nat.reduceEqDiff, Nat.reduceLeDiff, Int.reduceToNat, Int.reducePow, Int.reduceBEq, Int.reduceBNe, Int.reduceLT, Int.reduceLE, decide_true, decide_false]
            
            refine gR ?_; refine regS ?_
            refine ⟨_, _, Le.refl _, by rfl, by rfl, ?_⟩
            simp only [go_sem, Nat.reduceAdd, Nat.reduceMul, reduceIte, Nat.reduceEqDiff, Nat.reduceLeDiff, Int.reduceToNat, Int.reducePow, Int.reduceBEq, Int.reduceBNe, Int.reduceLT, Int.reduceLE, decide_true, decide_false]
            have hwd := wordC_pc nx t.facts hst h24
            
            
            cases hlk : Ab.look (kvW l) ((wsum nx : Nat) : Int) with
            | some v =>
              have hin2 : nx ∈ l := (kvW_has hI.set hst).1 (by rw [hlk]; rfl)
              (repeat' (first | (refine hK _ ?_; clear hK K) | (refine aw_seq (fun K hK => ?_)) | (refine gR ?_; refine regS ?_) | (refine gD 8 ?_; refine drS (.it 0 0 (.it 1 0 (.it 2 1 (.it 3 1 (.it 4 0 (.it 5 0 (.it 6 0 (.it 7 0 (.it 8 0 .nil))))))))) [0, 1, 4, 5, 6, 7, 8] ?_) | (refine gCd 62 ?_; refine callD (hwd) ?_) | (refine adx_op (fun K hK => ?_); (refine aopx_pv (pv_lookupSome hlk (by rfl) (by rfl) (by rfl) rfl) ?_)) | (refine gQ ?_; refine condF ?_) | (refine gWd ?_; refine wdrS ?_) | (refine aw_block ?_) | (refine gS ?_; refine skipS ?_)))
              
              refine ⟨_, _, _, 1000000001, Le.refl _, by rfl, by rfl, by rfl, rfl, ?_⟩
              simp only [go_sem, Nat.reduceAdd, Nat.reduceMul, reduceIte, Nat.reduceEqDiff, Nat.reduceLeDiff, Int.reduceToNat, Int.reducePow, Int.reduceBEq, Int.reduceBNe, Int.reduceLT, Int.reduceLE, decide_true, decide_false]
              refine aopsI_unguard (by rfl) (by rfl) ?_
              refine aopsI_cons rfl rfl (fun K1 hK1 => ?_)
              first | refine aop_pv pv_move ?_ | refine aop_pv (pv_loadI (by rfl) (by rfl) (by rfl)) ?_ | refine aop_pv (pv_loadIA (by rfl) (by rfl) (by first | decide | (simp; done) | (simp; omega))) ?_ | refine aop_pv (pv_not (by rfl)) ?_ | refine aop_pv (pv_pickB (by rfl) (by rfl) (by rfl)) ?_ | (refine aop_call hcan (by rfl) (fun x hx => ?_); obtain rfl := hx) | (refine aop_call hnx (by rfl) (fun x hx => ?_); obtain rfl := hx)
              simp only [go_sem, Nat.reduceAdd, Nat.reduceMul, reduceIte, Nat.reduceEqDiff, Nat.reduceLeDiff, Int.reduceToNat, Int.reducePow, Int.reduceBEq, Int.reduceBNe, Int.reduceLT, Int.reduceLE, decide_true, decide_false]; refine hK1 _ ?_; clear hK1 K1
              refine aopsI_cons rfl rfl (fun K1 hK1 => ?_)
              first | refine aop_pv pv_move ?_ | refine aop_pv (pv_loadI (by rfl) (by rfl) (by rfl)) ?_ | refine aop_pv (pv_loadIA (by rfl) (by rfl) (by first | decide | (simp; done) | (simp; omega))) ?_ | refine aop_pv (pv_not (by rfl)) ?_ | refine aop_pv (pv_pickB (by rfl) (by rfl) (by rfl)) ?_ | (refine aop_call hcan (by rfl) (fun x hx => ?_); obtain rfl := hx) | (refine aop_call hnx (by rfl) (fun x hx => ?_); obtain rfl := hx)
              simp only [go_sem, Nat.reduceAdd, Nat.reduceMul, reduceIte, Nat.reduceEqDiff, Nat.reduceLeDiff, Int.reduceToNat, Int.reducePow, Int.reduceBEq, Int.reduceBNe, Int.reduceLT, Int.reduceLE, decide_true, decide_false]; refine hK1 _ ?_; clear hK1 K1
              refine aopsI_nil ?_
              (repeat' (first | (refine hK _ ?_; clear hK K) | (refine gR ?_; refine regS ?_) | (refine gE ?_; refine exN ?_) | (refine gQ ?_; refine condF ?_) | (refine gS ?_; refine skipS ?_)))
              refine ⟨(q + 1, fl, l), ⟨hI, hli, by simp only; omega, hcl.next (fun _ => by rw [hst2, hnxe]; exact hin2)⟩, by simp only; omega, ?_⟩
              (refine atS ?_)
              (exact weakS)
            | none =>
              have hno2 : ¬ nx ∈ l := fun h => by have := (kvW_has hI.set hst).2 h; rw [hlk] at this; cases this
              have hrch : ReachT t t.init nx := by have := hI.step hil hqt (by rw [hst2]; exact hb); rw [hst2, hnxe] at this; exact this
              have hcl2 := fun h => (hcl.push (x := nx) hil).next h
              
              (repeat' (first | (refine hK _ ?_; clear hK K) | (refine aw_seq (fun K hK => ?_)) | (refine gR ?_; refine regS ?_) | (refine gD 8 ?_; refine drS (.it 0 0 (.it 1 0 (.it 2 1 (.it 3 1 (.it 4 0 (.it 5 0 (.it 6 0 (.it 7 0 (.it 8 0 .nil))))))))) [0, 1, 4, 5, 6, 7, 8] ?_) | (refine gD 12 ?_; refine drS (.it 0 0 (.it 1 0 (.it 3 0 (.it 4 0 (.it 2 1 (.it 5 3 .nil)))))) [0, 1, 3, 4] ?_) | (refine gCd 62 ?_; refine callD (hwd) ?_) | (refine stk_op (fun K hK => ?_); refine appendS ?_) | (refine adx_op (fun K hK => ?_); (refine aopx_pv (pv_lookupNone hlk (by rfl) (by rfl) (by rfl) rfl) ?_)) | (refine ado_op (fun K hK => ?_); (refine (aop_mapNew (kv := kvW l) (by rfl) (by rfl) (by rfl) (by rfl) hlk (by rfl) ?_).1)) | (refine gE ?_; refine exN ?_) | (refine gQ ?_; (first | (refine condT ?_) | (refine condS (fun hc => ?_) (fun hc => ?_) <;> (try (first | contradiction | (exfalso; omega)))))) | (refine gWd ?_; refine wdrS ?_) | (refine gW ?_; refine wopsS ?_) | (refine aw_block ?_) | (refine gT ?_; refine retS ?_) | (refine gS ?_; refine skipS ?_)))
              · 
                refine ⟨_, _, _, 1000000003, Le.refl _, by rfl, by rfl, by rfl, rfl, ?_⟩
                simp only [go_sem, Nat.reduceAdd, Nat.reduceMul, reduceIte, Nat.reduceEqDiff, Nat.reduceLeDiff, Int.reduceToNat, Int.reducePow, Int.reduceBEq, Int.reduceBNe, Int.reduceLT, Int.reduceLE, decide_true, decide_false]
                refine aopsI_unguard (by rfl) (by rfl) ?_
                refine aopsI_cons rfl rfl (fun K1 hK1 => ?_)
                first | refine aop_pv pv_move ?_ | refine aop_pv (pv_loadI (by rfl) (by rfl) (by rfl)) ?_ | refine aop_pv (pv_loadIA (by rfl) (by rfl) (by first | decide | (simp; done) | (simp; omega))) ?_ | refine aop_pv (pv_not (by rfl)) ?_ | refine aop_pv (pv_pickB (by rfl) (by rfl) (by rfl)) ?_ | (refine aop_call hcan (by rfl) (fun x hx => ?_); obtain rfl := hx) | (refine aop_call hnx (by rfl) (fun x hx => ?_); obtain rfl := hx)
                simp only [go_sem, Nat.reduceAdd, Nat.reduceMul, reduceIte, Nat.reduceEqDiff, Nat.reduceLeDiff, Int.reduceToNat, Int.reducePow, Int.reduceBEq, Int.reduceBNe, Int.reduceLT, Int.reduceLE, decide_true, decide_false]; refine hK1 _ ?_; clear hK1 K1
                refine aopsI_cons rfl rfl (fun K1 hK1 => ?_)
                first | refine aop_pv pv_move ?_ | refine aop_pv (pv_loadI (by rfl) (by rfl) (by rfl)) ?_ | refine aop_pv (pv_loadIA (by rfl) (by rfl) (by first | decide | (simp; done) | (simp; omega))) ?_ | refine aop_pv (pv_not (by rfl)) ?_ | refine aop_pv (pv_pickB (by rfl) (by rfl) (by rfl)) ?_ | (refine aop_call hcan (by rfl) (fun x hx => ?_); obtain rfl := hx) | (refine aop_call hnx (by rfl) (fun x hx => ?_); obtain rfl := hx)
                simp only [go_sem, Nat.reduceAdd, Nat.reduceMul, reduceIte, Nat.reduceEqDiff, Nat.reduceLeDiff, Int.reduceToNat, Int.reducePow, Int.reduceBEq, Int.reduceBNe, Int.reduceLT, Int.reduceLE, decide_true, decide_false]; refine hK1 _ ?_; clear hK1 K1
                refine aopsI_nil ?_
                (repeat' (first | (refine gQ ?_; refine condT ?_) | (refine gT ?_; refine retS ?_) | (apply_assumption (exfalso := false) (symm := false))))
                refine hfin_del rv_zero (by first | exact .inl rfl | exact .inr rfl) (by rfl) (by first | rfl | (simp only [go_sem, Nat.reduceAdd, Nat.reduceMul, reduceIte, Nat.reduceEqDiff, Nat.reduceLeDiff, Int.reduceToNat, Int.reducePow, Int.reduceBEq, Int.reduceBNe, Int.reduceLT, Int.reduceLE, decide_true, decide_false, Nat.reduceBEq, Bool.or_self, Bool.or_true, Bool.true_or, Bool.or_false, Bool.false_or, Bool.and_true, Bool.true_and, Bool.and_false, Bool.false_and, Bool.and_self, Bool.not_true, Bool.not_false, List.cons_append, List.nil_append, List.append_nil, if_true, if_false, Bool.false_eq_true, keysH]; done)) (by rfl) ⟨.ret, 1000000003, _, rfl, by rfl, by rfl, ?_⟩
                simp only [go_sem, Nat.reduceAdd, Nat.reduceMul, reduceIte, Nat.reduceEqDiff, Nat.reduceLeDiff, Int.reduceToNat, Int.reducePow, Int.reduceBEq, Int.reduceBNe, Int.reduceLT, Int.reduceLE, decide_true, decide_false]
                
                (refine fin_le (Le.refl _) (rv_one (rv1_cell (by first | exact pv_load (by rfl) (by rfl) (by rfl) (by rfl) | exact pv_loadA (by rfl) (by rfl) (by rfl) (by first | decide | simp)))) (by first | rfl | (simp only [go_sem, Nat.reduceAdd, Nat.reduceMul, reduceIte, Nat.reduceEqDiff, Nat.reduceLeDiff, Int.reduceToNat, Int.reducePow, Int.reduceBEq, Int.reduceBNe, Int.reduceLT, Int.reduceLE, decide_true, decide_false])) ?_)
                exact .inr ⟨rfl, hI.many hst hrch hno2 (by omega)⟩
              · 
                refine ⟨_, _, _, 1000000001, Le.refl _, by rfl, by rfl, by rfl, rfl, ?_⟩
                simp only [go_sem, Nat.reduceAdd, Nat.reduceMul, reduceIte, Nat.reduceEqDiff, Nat.reduceLeDiff, Int.reduceToNat, Int.reducePow, Int.reduceBEq, Int.reduceBNe, Int.reduceLT, Int.reduceLE, decide_true, decide_false]
                refine aopsI_unguard (by rfl) (by rfl) ?_
                refine aopsI_cons rfl rfl (fun K1 hK1 => ?_)
                first | refine aop_pv pv_move ?_ | refine aop_pv (pv_loadI (by rfl) (by rfl) (by rfl)) ?_ | refine aop_pv (pv_loadIA (by rfl) (by rfl) (by first | decide | (simp; done) | (simp; omega))) ?_ | refine aop_pv (pv_not (by rfl)) ?_ | refine aop_pv (pv_pickB (by rfl) (by rfl) (by rfl)) ?_ | (refine aop_call hcan (by rfl) (fun x hx => ?_); obtain rfl := hx) | (refine aop_call hnx (by rfl) (fun x hx => ?_); obtain rfl := hx)
                simp only [go_sem, Nat.reduceAdd, Nat.reduceMul, reduceIte, Nat.reduceEqDiff, Nat.reduceLeDiff, Int.reduceToNat, Int.reducePow, Int.reduceBEq, Int.reduceBNe, Int.reduceLT, Int.reduceLE, decide_true, decide_false]; refine hK1 _ ?_; clear hK1 K1
                refine aopsI_cons rfl rfl (fun K1 hK1 => ?_)
                first | refine aop_pv pv_move ?_ | refine aop_pv (pv_loadI (by rfl) (by rfl) (by rfl)) ?_ | refine aop_pv (pv_loadIA (by rfl) (by rfl) (by first | decide | (simp; done) | (simp; omega))) ?_ | refine aop_pv (pv_not (by rfl)) ?_ | refine aop_pv (pv_pickB (by rfl) (by rfl) (by rfl)) ?_ | (refine aop_call hcan (by rfl) (fun x hx => ?_); obtain rfl := hx) | (refine aop_call hnx (by rfl) (fun x hx => ?_); obtain rfl := hx)
                simp only [go_sem, Nat.reduceAdd, Nat.reduceMul, reduceIte, Nat.reduceEqDiff, Nat.reduceLeDiff, Int.reduceToNat, Int.reducePow, Int.reduceBEq, Int.reduceBNe, Int.reduceLT, Int.reduceLE, decide_true, decide_false]; refine hK1 _ ?_; clear hK1 K1
                refine aopsI_nil ?_
                (repeat' (first | (refine hK _ ?_; clear hK K) | (refine gR ?_; refine regS ?_) | (refine gE ?_; refine exN ?_) | (refine gQ ?_; refine condF ?_) | (refine gS ?_; refine skipS ?_)))
                refine ⟨(q + 1, false, l ++ [nx]), ⟨hI.push hst hrch hno2 (by omega), by rw [List.getElem?_append_left hil]; exact hli, by simp only; omega, hcl2 (fun _ => by rw [getBang (show i < (l ++ [nx]).length by simp; omega), List.getElem_append_left hil, hls, hnxe]; simp)⟩, by simp only; omega, ?_⟩
                (refine atS ?_)
                (refine le_weak (by (repeat (first | exact .nil | refine .drop ?_ | refine weak_keep ?_ (by first | rfl | (rw [kvW_app]))))) (by (repeat refine hsub_hasE (by rfl) (by first | rfl | (rw [kvW_app])) ?_); exact hsub_nil _))
        · obtain rfl : q = t.ops.length := by omega
          
          (repeat' (first | (refine hK _ ?_; clear hK K) | (refine aw_seq (fun K hK => ?_)) | (refine gR ?_; refine regS ?_) | (refine gQ ?_; refine condS (fun hc => ?_) (fun hc => ?_) <;> (try (first | contradiction | (exfalso; omega)))) | (refine gX ?_; refine exitS ?_)))
          refine hfin_del rv_zero (by first | exact .inl rfl | exact .inr rfl) (by rfl) (by first | rfl | (simp only [go_sem, Nat.reduceAdd, Nat.reduceMul, reduceIte, Nat.reduceEqDiff, Nat.reduceLeDiff, Int.reduceToNat, Int.reducePow, Int.reduceBEq, Int.reduceBNe, Int.reduceLT, Int.reduceLE, decide_true, decide_false, Nat.reduceBEq, Bool.or_self, Bool.or_true, Bool.true_or, Bool.or_false, Bool.false_or, Bool.and_true, Bool.true_and, Bool.and_false, Bool.false_and, Bool.and_self, Bool.not_true, Bool.not_false, List.cons_append, List.nil_append, List.append_nil, if_true, if_false, Bool.false_eq_true, keysH]; done)) (by rfl) ⟨.normal, 1000000001, _, rfl, by rfl, by rfl, ?_⟩
          simp only [go_sem, Nat.reduceAdd, Nat.reduceMul, reduceIte, Nat.reduceEqDiff, Nat.reduceLeDiff, Int.reduceToNat, Int.reducePow, Int.reduceBEq, Int.reduceBNe, Int.reduceLT, Int.reduceLE, decide_true, decide_false]
          refine hK9 _ ?_
          
          (repeat' (first | (refine gR ?_; refine regS ?_) | (refine gE ?_; refine exN ?_) | (apply_assumption (exfalso := false) (symm := false))))
          refine ⟨(i + 1, fl, l), hI.next hil hcl, by simp only; omega, ?_⟩
          (refine atS ?_)
          (exact weakS)
    · 
      obtain rfl : i = l.length := by omega
      (repeat' (first | (refine hK _ ?_; clear hK K) | (refine aw_seq (fun K hK => ?_)) | (refine gR ?_; refine regS ?_) | (refine gQ ?_; refine condS (fun hc => ?_) (fun hc => ?_) <;> (try (first | contradiction | (exfalso; omega)))) | (refine gX ?_; refine exitS ?_) | (refine gT ?_; refine retS ?_) | (apply_assumption (exfalso := false) (symm := false))))
      (refine fin_le (Le.refl _) (rv_one (rv1_cell (by first | exact pv_load (by rfl) (by rfl) (by rfl) (by rfl) | exact pv_loadA (by rfl) (by rfl) (by rfl) (by first | decide | simp)))) (by first | rfl | (simp only [go_sem, Nat.reduceAdd, Nat.reduceMul, reduceIte, Nat.reduceEqDiff, Nat.reduceLeDiff, Int.reduceToNat, Int.reducePow, Int.reduceBEq, Int.reduceBNe, Int.reduceLT, Int.reduceLE, decide_true, decide_false])) ?_)
      exact .inl ⟨l, rfl, hI.done⟩

end Go.Proofs.Ythdlckclpmfidaa
