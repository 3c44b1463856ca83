import Derived.Test.YtpnpnbbanfgpgaaInx
import Derived.Test.YtpnpnbbanfgpgaaAbh



namespace Go.Proofs.Ytpnpnbbanfgpgaa
open Go.Ab
open Go
set_option linter.unusedSimpArgs false
set_option linter.unusedVariables false
set_option maxRecDepth 10000
attribute [local irreducible] PV AOp AOps AW PCall OCall MCall WCall HCall Ab.Fin OFin OFin2 MFin HFin RV RV1 Le AStk AGrd ADr ADx ADo AOpX AAny
set_option maxHeartbeats 4000000
/-! classes of facts -/
@[go_sem] theorem fixL_rows (ids pins : List Nat) (ls : List (List Int)) : AV.fixL ids pins (ls.map fun x => ints x) = ls.map fun x => ints x := fixL_map ids pins (fun x => ints x) ls fun _ => rfl
@[go_sem] theorem onlL_rows (ids : List Nat) (ls : List (List Int)) : AV.onlL ids (ls.map fun x => ints x) = true := onlL_pur (purL_map (fun x => ints x) ls fun _ => rfl)
@[go_sem] theorem purge_rows (id : Nat) (ls : List (List Int)) : AV.purgeL id (ls.map fun x => ints x) = ls.map fun x => ints x := purgeL_map id (fun x => ints x) ls fun _ => rfl
@[go_sem] theorem ment_rows (id : Nat) (ls : List (List Int)) : AV.mentL id (ls.map fun x => ints x) = false := mentL_map id (fun x => ints x) ls fun _ => rfl
@[go_sem] theorem cells_rows (ls : List (List Int)) : (ls.map fun x => ints x).flatMap AV.cells = ls.map fun x => ints x := flat_one (fun _ => rfl) ls
theorem rows_snoc (ls : List (List Int)) (x : List Int) : (ls.map fun x => ints x) ++ [ints x] = (ls ++ [x]).map fun x => ints x := by simp
/-- Which facts are used. -/
def bl (used : List Int) (n : Nat) : List Bool := (List.range n).map fun i : Nat => hasB used (i : Int)
theorem bl_len (used : List Int) (n : Nat) : (bl used n).length = n := by simp [bl]
theorem bl_get {used : List Int} {n k : Nat} (h : k < (bl used n).length) : (bl used n)[k] = hasB used (k : Int) := by simp [bl]
theorem bl_set {used : List Int} {n : Nat} {x : Int} (h0 : 0 ≤ x) : (bl used n).set x.toNat true = bl (used ++ [x]) n := by
  apply List.ext_getElem
  · simp [bl]
  · intro i h1 h2
    rw [List.getElem_set]
    simp only [bl, List.getElem_map, List.getElem_range]
    split
    · rename_i e
      have : (i : Int) = x := by omega
      rw [this]
      simp [hasB]
    · rename_i e
      have : ¬ (i : Int) = x := by omega
      simp [hasB, this]
theorem take_hc (l used : List Int) (out : List (List Int)) (n : Nat) (hn : n ≤ 1000) (hl : l.Pairwise (· < ·)) (hb : ∀ x ∈ l, 0 ≤ x ∧ x < n) (hll : l.length ≤ 1000) (ho : out.length ≤ 1000) (f1 f2 : Bool) :
    HCall Try.prog 53 ([ints l] ++ [.ptr 6 0, .ptr 5 0])
      [(6, ⟨91, [.sl 1 1 13 0 n], true⟩), (13, ⟨4, (bl used n).map AV.bool, f1⟩), (5, ⟨26, [.sl 1 24 100 0 out.length], true⟩), (100, ⟨22, out.map fun x => ints x, f2⟩)] [] [6, 5]
      (fun x hp => x = .tup [] ∧ ((notIn used l = [] ∧ hp = [(6, ⟨91, [.sl 1 1 13 0 n], true⟩), (13, ⟨4, (bl used n).map AV.bool, f1⟩), (5, ⟨26, [.sl 1 24 100 0 out.length], true⟩), (100, ⟨22, out.map fun x => ints x, f2⟩)]) ∨
        (¬ notIn used l = [] ∧ hp = [(6, ⟨91, [.sl 1 1 13 0 n], true⟩), (13, ⟨4, (bl (used ++ notIn used l) n).map AV.bool, f1⟩), (5, ⟨26, [.sl 1 24 100 0 (out ++ [notIn used l]).length], true⟩), (100, ⟨22, (out ++ [notIn used l]).map fun x => ints x, false⟩)]))) := by
  have hl' := List.pairwise_iff_getElem.1 hl
  (refine enterH Try.func53 Try.ntmps53 ?_)
  (repeat' (first | (refine hK _ ?_; clear hK K) | (refine aw_seq (fun K hK => ?_)) | (refine gR ?_; refine regS ?_) | (refine aw_block ?_)))
  (refine awVirt 4 200 1 8 3 ?_)
  refine aw_loop_at [4, 6, 9, 10, 11, 12, 13, 14, 15, 16, 17, 18, 19, 20, 21, 22, 23, 24, 25] (fun k : Nat => k ≤ l.length) (fun k => l.length - k) (fun k => [(9, .int k), (4, .sl 1 8 200 0 (notIn used (l.take k)).length)])
    (fun k => [(6, ⟨91, [.sl 1 1 13 0 n], true⟩), (13, ⟨4, (bl (used ++ notIn used (l.take k)) n).map AV.bool, f1⟩), (5, ⟨26, [.sl 1 24 100 0 out.length], true⟩), (100, ⟨22, out.map fun x => ints x, f2⟩), (1000000000, ⟨1000000000, [.ptr 6 0, .ptr 5 0], false⟩), (200, ⟨3, (notIn used (l.take k)).map AV.int, false⟩)]) 0 (by omega) ?_ ?_
  · rw [List.take_zero, show notIn used [] = [] from rfl, List.append_nil]
    (refine atS ?_)
    (exact weakS)
  · rintro k hk K hK
    (refine atS ?_)
    have hrl := notIn_len (del := used) (s := l) (k := k)
    have hbl := bl_len (used ++ notIn used (l.take k)) n
    by_cases hlt : k < l.length
    · obtain ⟨b0, b1⟩ := hb _ (List.getElem_mem hlt)
      have hnm : ¬ l[k] ∈ l.take k := fun hm => by
        obtain ⟨i, hi, he⟩ := List.getElem_of_mem hm
        rw [List.getElem_take] at he
        have hik : i < k := by rw [List.length_take] at hi; omega
        have := hl' i k (by omega) hlt hik
        omega
      have hu : hasB (used ++ notIn used (l.take k)) l[k] = hasB used l[k] := by
        rw [Bool.eq_iff_iff, hasB_t, hasB_t, List.mem_append]
        constructor
        · rintro (h | h)
          · exact h
          · exact absurd (List.mem_filter.1 h).1 hnm
        · exact .inl
      have hg := bl_get (used := used ++ notIn used (l.take k)) (n := n) (k := (l[k]).toNat) (by omega)
      rw [show (((l[k]).toNat : Nat) : Int) = l[k] by omega, hu] at hg
      (repeat' (first | (refine hK _ ?_; clear hK K) | (refine aw_seq (fun K hK => ?_)) | (refine gR ?_; refine regS ?_) | (refine stk_op (fun K hK => ?_); refine appendS ?_) | (refine gE ?_; (first | (refine exN ?_) | (refine exS (fun _ => ?_)))) | (refine gQ ?_; refine condS (fun hc => ?_) (fun hc => ?_) <;> (try (first | contradiction | (exfalso; omega)))) | (refine aw_block ?_) | (refine gS ?_; refine skipS ?_)))
      · have hf : hasB used l[k] = false := by rw [← hg]; assumption
        refine ⟨k + 1, by omega, by omega, ?_⟩
        rw [notIn_yes hlt hf]
        (refine atS ?_)
        (refine le_weak (by (repeat (first | exact .nil | refine .drop ?_ | refine weak_keep ?_ (by first | rfl | (rw [← List.map_set, purgeL_bools, bl_set b0, List.append_assoc]))))) (by (repeat refine hsub_hasE (by rfl) (by first | rfl | (rw [← List.map_set, purgeL_bools, bl_set b0, List.append_assoc])) ?_); exact hsub_nil _))
      · have hf : hasB used l[k] = true := by rw [← hg]; assumption
        refine ⟨k + 1, by omega, by omega, ?_⟩
        rw [notIn_no hlt hf]
        (refine atS ?_)
        (exact weakS)
    · obtain rfl : k = l.length := by omega
      rw [List.take_length] at *
      generalize notIn used l = m at *
      (repeat' (first | (refine hK _ ?_; clear hK K) | (refine aw_seq (fun K hK => ?_)) | (refine gRx 9 (by rfl) ?_; refine regS ?_) | (refine gQ ?_; refine condS (fun hc => ?_) (fun hc => ?_) <;> (try (first | contradiction | (exfalso; omega)))) | (refine gX ?_; refine exitS ?_) | (refine gS ?_; refine skipS ?_) | (apply_assumption (exfalso := false) (symm := false))))
      · refine aw_le (le_sealMap (f := AV.int) 200 8 m.length m (by rfl) rfl (fun _ => rfl) (fun _ => rfl)) ?_
        simp only [AV.sealSL, sealS_any, sealS_v, sealS_isl, sealS_iptr, sealS_ptr, sealS_sl, sealS_agg, sealS_tup, sealS_fn, purge_agg, purge_tup, purge_fn, and_self, AV.mentL, AV.ment, Bool.or_self, go_sem, Nat.reduceAdd, Nat.reduceMul, reduceIte, Nat.reduceEqDiff, Nat.reduceLeDiff, Int.reduceToNat, Int.reducePow, Int.reduceBEq, Int.reduceBNe, Int.reduceLT, Int.reduceLE, decide_true, decide_false]
        have hm : ¬ m = [] := by rintro rfl; simp at hc
        (repeat' (first | (refine hK _ ?_; clear hK K) | (refine gR ?_; refine regS ?_) | (refine stk_op (fun K hK => ?_); (refine appendS ?_; simp only [go_sem, Nat.reduceAdd, Nat.reduceMul, reduceIte, Nat.reduceEqDiff, Nat.reduceLeDiff, Int.reduceToNat, Int.reducePow, Int.reduceBEq, Int.reduceBNe, Int.reduceLT, Int.reduceLE, decide_true, decide_false, Nat.reduceBEq, Bool.or_self, Bool.or_true, Bool.true_or, Bool.or_false, Bool.false_or, Bool.and_true, Bool.true_and, Bool.and_false, Bool.false_and, Bool.and_self, Bool.not_true, Bool.not_false, List.cons_append, List.nil_append, List.append_nil, if_true, if_false, Bool.false_eq_true, keysH])) | (refine gE ?_; refine exN ?_) | (refine gW ?_; refine wopsS ?_)))
        rw [show (ints m :: []) = [ints m] from rfl, rows_snoc, show out.length + 1 = (out ++ [m]).length by simp]
        (refine hfin_eq (Le.refl _) rv_zero (by (repeat refine hsub_has (by rfl) ?_); exact hsub_nil _) (by rfl) (by first | rfl | (simp only [go_sem, Nat.reduceAdd, Nat.reduceMul, reduceIte, Nat.reduceEqDiff, Nat.reduceLeDiff, Int.reduceToNat, Int.reducePow, Int.reduceBEq, Int.reduceBNe, Int.reduceLT, Int.reduceLE, decide_true, decide_false, Nat.reduceBEq, Bool.or_self, Bool.or_true, Bool.true_or, Bool.or_false, Bool.false_or, Bool.and_true, Bool.true_and, Bool.and_false, Bool.false_and, Bool.and_self, Bool.not_true, Bool.not_false, List.cons_append, List.nil_append, List.append_nil, if_true, if_false, Bool.false_eq_true, keysH]; done)) ⟨rfl, .inr ⟨hm, rfl⟩⟩)
      · have hm : m = [] := by apply List.eq_nil_of_length_eq_zero; omega
        subst hm
        rw [List.append_nil]
        (repeat' fail)
        (refine hfin_eq (Le.refl _) rv_zero (by (repeat refine hsub_has (by rfl) ?_); exact hsub_nil _) (by rfl) (by first | rfl | (simp only [go_sem, Nat.reduceAdd, Nat.reduceMul, reduceIte, Nat.reduceEqDiff, Nat.reduceLeDiff, Int.reduceToNat, Int.reducePow, Int.reduceBEq, Int.reduceBNe, Int.reduceLT, Int.reduceLE, decide_true, decide_false, Nat.reduceBEq, Bool.or_self, Bool.or_true, Bool.true_or, Bool.or_false, Bool.false_or, Bool.and_true, Bool.true_and, Bool.and_false, Bool.false_and, Bool.and_self, Bool.not_true, Bool.not_false, List.cons_append, List.nil_append, List.append_nil, if_true, if_false, Bool.false_eq_true, keysH]; done)) ⟨rfl, .inl ⟨rfl, rfl⟩⟩)
/-! the division -/
def covStep (p : List (List Int) × List Int) (l : List Int) : List (List Int) × List Int := if notIn p.2 l = [] then p else (p.1 ++ [notIn p.2 l], p.2 ++ notIn p.2 l)
def singles (n : Nat) : List (List Int) := (List.range n).map fun p : Nat => [(p : Int)]
def coverT (n : Nat) (ls : List (List Int)) : List (List Int) := ((singles n).foldl covStep (ls.foldl covStep ([], []))).1
theorem covF_len : ∀ (l : List (List Int)) (p : List (List Int) × List Int), (l.foldl covStep p).1.length ≤ p.1.length + l.length
  | [], p => by simp
  | x :: r, p => by
    have h := covF_len r (covStep p x)
    have h2 : (covStep p x).1.length ≤ p.1.length + 1 := by unfold covStep; split <;> simp
    rw [List.foldl_cons, List.length_cons]
    omega
theorem singles_len (n : Nat) : (singles n).length = n := by simp [singles]
theorem singles_get {n k : Nat} (h : k < (singles n).length) : (singles n)[k] = [(k : Int)] := by simp [singles]
theorem bl_nil (n : Nat) : (bl [] n).map AV.bool = List.replicate n (AV.bool false) := by
  apply List.ext_getElem
  · simp [bl]
  · intro i h1 h2
    simp [bl, hasB]
@[go_sem] theorem repl_fix (ids pins : List Nat) (n : Nat) (b : Bool) : AV.fixL ids pins (List.replicate n (AV.bool b)) = List.replicate n (AV.bool b) := by
  have := fixL_map ids pins AV.bool (List.replicate n b) fun _ => rfl
  simpa using this
theorem cover_pc (t : Task) (ls : List (List Int)) (hw : WfT t) (hs : ∀ l ∈ ls, isSet l t.facts = true) (h24 : ls.length ≤ 24) : PCall Try.prog 25 [t.av, rows ls] (fun r => r = rows (coverT t.facts.toNat ls)) := by
  have hn0 := hw.f0
  have hn1 := hw.f1
  obtain ⟨n, hn⟩ := Int.eq_ofNat_of_zero_le hn0
  have hnn : t.facts.toNat = n := by omega
  rw [hnn]
  (refine enterS Try.func25 Try.ntmps25 ?_)
  (repeat' (first | (refine hK _ ?_; clear hK K) | (refine aw_seq (fun K hK => ?_)) | (refine gRx 4 (by rfl) ?_; refine regS ?_) | (refine stk_op (fun K hK => ?_); (first | ((refine aop_pv pv_makeFunc ?_)) | (refine aop_makeSlice (d := 13) (by rfl) (by rfl) (by omega) (by first | omega | (simp only [Int.toNat_natCast, List.length_map]; omega)) (by decide) (by rfl) 13 (by first | rfl | (simp only [go_sem, Nat.reduceAdd, Nat.reduceMul, reduceIte, Nat.reduceEqDiff, Nat.reduceLeDiff, Int.reduceToNat, Int.reducePow, Int.reduceBEq, Int.reduceBNe, Int.reduceLT, Int.reduceLE, decide_true, decide_false]; done) | (simp only [go_sem, Nat.reduceAdd, Nat.reduceMul, reduceIte, Nat.reduceEqDiff, Nat.reduceLeDiff, Int.reduceToNat, Int.reducePow, Int.reduceBEq, Int.reduceBNe, Int.reduceLT, Int.reduceLE, decide_true, decide_false]; rfl) | (simp [St.free, mentHp, AV.mentL, AV.ment])) ?_))) | (refine gE ?_; refine exN ?_) | (refine gW ?_; refine wopsS ?_)))
  (repeat' (first | (refine hK _ ?_; clear hK K) | (refine gR ?_; refine regS ?_) | (refine aw_block ?_)))
  rw [hnn, ← bl_nil]
  (refine aw_le (le_virtH 5 0 100 1 24 22 (by rfl) (by rfl) (by first | rfl | (simp only [go_sem, Nat.reduceAdd, Nat.reduceMul, reduceIte, Nat.reduceEqDiff, Nat.reduceLeDiff, Int.reduceToNat, Int.reducePow, Int.reduceBEq, Int.reduceBNe, Int.reduceLT, Int.reduceLE, decide_true, decide_false]; done) | (simp only [go_sem, Nat.reduceAdd, Nat.reduceMul, reduceIte, Nat.reduceEqDiff, Nat.reduceLeDiff, Int.reduceToNat, Int.reducePow, Int.reduceBEq, Int.reduceBNe, Int.reduceLT, Int.reduceLE, decide_true, decide_false]; rfl) | (simp [St.free, mentHp, AV.mentL, AV.ment]))) ?_; simp only [go_sem, Nat.reduceAdd, Nat.reduceMul, reduceIte, Nat.reduceEqDiff, Nat.reduceLeDiff, Int.reduceToNat, Int.reducePow, Int.reduceBEq, Int.reduceBNe, Int.reduceLT, Int.reduceLE, decide_true, decide_false])
  refine aw_loop_at (13 :: [9, 17, 18, 19, 20, 21, 22, 23, 24]) (fun k : Nat => k ≤ ls.length) (fun k => ls.length - k) (fun k => [(17, .int k)])
    (fun k => [(2, ⟨25, t.cs, true⟩), (6, ⟨91, [.sl 1 1 13 0 n], true⟩), (13, ⟨4, (bl ((ls.take k).foldl covStep ([], [])).2 n).map AV.bool, true⟩), (5, ⟨26, [.sl 1 24 100 0 ((ls.take k).foldl covStep ([], [])).1.length], true⟩),
      (100, ⟨22, ((ls.take k).foldl covStep ([], [])).1.map fun x => ints x, false⟩)]) 0 (by omega) ?_ ?_
  · (refine atS ?_)
    (exact weakS)
  · rintro k hk K hK
    (refine atS ?_)
    by_cases hlt : k < ls.length
    · have hst := hs _ (List.getElem_mem hlt)
      have hlen := set_len hst hn0 hn1
      have hfl := foldl_take (f := covStep) (b := ([], [])) hlt
      have hlk : (ls.take k).length ≤ k := by rw [List.length_take]; omega
      have hcl : ((ls.take k).foldl covStep ([], [])).1.length ≤ k := by
        have := covF_len (ls.take k) ([], [])
        simp only [List.length_nil] at this
        omega
      obtain ⟨hb, hp⟩ := isSet_iff.1 hst
      rw [hn] at hb
      generalize (ls.take k).foldl covStep ([], []) = p at *
      (repeat' (first | (refine hK _ ?_; clear hK K) | (refine aw_seq (fun K hK => ?_)) | (refine gR ?_; refine regS ?_) | (refine stk_op (fun K hK => ?_); (refine aop_callHv (by rfl) (take_hc ls[k] p.2 p.1 n (by omega) hp hb hlen (by omega) true false) (by (repeat (first | exact hin_nil | refine hin_cons (by rfl) ?_))) (fun _ h => by cases h) (by rfl) (fun x hp' hx => ?_); obtain ⟨rfl, (⟨he, rfl⟩ | ⟨he, rfl⟩)⟩ := hx <;> simp only [go_sem, Nat.reduceAdd, Nat.reduceMul, reduceIte, Nat.reduceEqDiff, Nat.reduceLeDiff, Int.reduceToNat, Int.reducePow, Int.reduceBEq, Int.reduceBNe, Int.reduceLT, Int.reduceLE, decide_true, decide_false, Nat.reduceBEq, Bool.or_self, Bool.or_true, Bool.true_or, Bool.or_false, Bool.false_or, Bool.and_true, Bool.true_and, Bool.and_false, Bool.false_and, Bool.and_self, Bool.not_true, Bool.not_false, List.cons_append, List.nil_append, List.append_nil, if_true, if_false, Bool.false_eq_true, keysH])) | (refine gE ?_; (first | (refine exN ?_) | (refine exS (fun _ => ?_)))) | (refine gQ ?_; refine condS (fun hc => ?_) (fun hc => ?_) <;> (try (first | contradiction | (exfalso; omega)))) | (refine aw_block ?_) | (refine gS ?_; refine skipS ?_)))
      all_goals refine ⟨k + 1, by omega, by omega, ?_⟩
      · rw [hfl, covStep, if_pos he]
        (refine atS ?_)
        (exact weakS)
      · rw [hfl, covStep, if_neg he]
        (refine atS ?_)
        (exact weakS)
    · obtain rfl : k = ls.length := by omega
      rw [List.take_length]
      have hcl0 : (ls.foldl covStep ([], [])).1.length ≤ 24 := by
        have := covF_len ls ([], [])
        simp only [List.length_nil] at this
        omega
      have hcv : coverT n ls = ((singles n).foldl covStep (ls.foldl covStep ([], []))).1 := rfl
      generalize ls.foldl covStep ([], []) = p0 at *
      (repeat' (first | (refine hK _ ?_; clear hK K) | (refine aw_seq (fun K hK => ?_)) | (refine gR ?_; refine regS ?_) | (refine gQ ?_; refine condS (fun hc => ?_) (fun hc => ?_) <;> (try (first | contradiction | (exfalso; omega)))) | (refine aw_block ?_) | (refine gX ?_; refine exitS ?_) | (apply_assumption (exfalso := false) (symm := false))))
      refine aw_loop_at (13 :: [10, 27, 28, 29, 30, 31, 32, 33, 34]) (fun k : Nat => k ≤ n) (fun k => n - k) (fun k => [(27, .int k)])
        (fun k => [(2, ⟨25, t.cs, true⟩), (6, ⟨91, [.sl 1 1 13 0 n], true⟩), (13, ⟨4, (bl (((singles n).take k).foldl covStep p0).2 n).map AV.bool, true⟩), (5, ⟨26, [.sl 1 24 100 0 (((singles n).take k).foldl covStep p0).1.length], true⟩),
          (100, ⟨22, (((singles n).take k).foldl covStep p0).1.map fun x => ints x, false⟩)]) 0 (by omega) ?_ ?_
      · rw [List.take_zero]
        (refine atS ?_)
        (exact weakS)
      · rintro k hk K hK
        (refine atS ?_)
        by_cases hlt : k < n
        · have hks : k < (singles n).length := by rw [singles_len]; exact hlt
          have hfl := foldl_take (f := covStep) (b := p0) hks
          rw [singles_get hks] at hfl
          have hlk : ((singles n).take k).length ≤ k := by rw [List.length_take]; omega
          have hcl : (((singles n).take k).foldl covStep p0).1.length ≤ 24 + k := by
            have := covF_len ((singles n).take k) p0
            omega
          generalize ((singles n).take k).foldl covStep p0 = p at *
          (repeat' (first | (refine hK _ ?_; clear hK K) | (refine aw_seq (fun K hK => ?_)) | (refine gR ?_; refine regS ?_) | (refine stk_op (fun K hK => ?_); (refine aop_callHv (by rfl) (take_hc [(k : Int)] p.2 p.1 n (by omega) (by simp) (by simp; omega) (by simp) (by omega) true false) (by (repeat (first | exact hin_nil | refine hin_cons (by rfl) ?_))) (fun _ h => by cases h) (by rfl) (fun x hp' hx => ?_); obtain ⟨rfl, (⟨he, rfl⟩ | ⟨he, rfl⟩)⟩ := hx <;> simp only [go_sem, Nat.reduceAdd, Nat.reduceMul, reduceIte, Nat.reduceEqDiff, Nat.reduceLeDiff, Int.reduceToNat, Int.reducePow, Int.reduceBEq, Int.reduceBNe, Int.reduceLT, Int.reduceLE, decide_true, decide_false, Nat.reduceBEq, Bool.or_self, Bool.or_true, Bool.true_or, Bool.or_false, Bool.false_or, Bool.and_true, Bool.true_and, Bool.and_false, Bool.false_and, Bool.and_self, Bool.not_true, Bool.not_false, List.cons_append, List.nil_append, List.append_nil, if_true, if_false, Bool.false_eq_true, keysH])) | (refine gE ?_; refine exN ?_) | (refine gQ ?_; refine condS (fun hc => ?_) (fun hc => ?_) <;> (try (first | contradiction | (exfalso; omega)))) | (refine aw_block ?_) | (refine gS ?_; refine skipS ?_)))
          all_goals refine ⟨k + 1, by omega, by omega, ?_⟩
          · rw [hfl, covStep, if_pos he]
            (refine atS ?_)
            (exact weakS)
          · rw [hfl, covStep, if_neg he]
            (refine atS ?_)
            (exact weakS)
        · obtain rfl : k = n := by omega
          rw [List.take_of_length_le (by rw [singles_len]; exact Nat.le_refl _)]
          (repeat' (first | (refine hK _ ?_; clear hK K) | (refine aw_seq (fun K hK => ?_)) | (refine gR ?_; refine regS ?_) | (refine gQ ?_; refine condS (fun hc => ?_) (fun hc => ?_) <;> (try (first | contradiction | (exfalso; omega)))) | (refine gX ?_; refine exitS ?_) | (refine gT ?_; refine retS ?_) | (apply_assumption (exfalso := false) (symm := false))))
          refine fin_sl1 (f := fun x => ints x) ((singles k).foldl covStep p0).1 rfl (by rfl) (by rfl) rfl (fun _ => rfl) (fun _ => rfl) (by rw [hcv])
end Go.Proofs.Ytpnpnbbanfgpgaa
