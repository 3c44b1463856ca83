import Derived.Test.YthdlckclpmfidaaBsr



namespace Go.Proofs.Ythdlckclpmfidaa
open Go.Ab
open Go
set_option linter.unusedSimpArgs false
set_option linter.unusedVariables false
set_option maxRecDepth 10000
attribute [local irreducible] PV AOp AOps AW PCall OCall MCall Ab.Fin OFin OFin2 MFin RV RV1 Le AStk AGrd ADr ADx ADo AOpX AAny
set_option maxHeartbeats 40000000
/-! least costs by relaxation -/
def frA (A : List (Nat × Nat × Int)) : List Int := A.map fun a => (a.1 : Int)
def toA (A : List (Nat × Nat × Int)) : List Int := A.map fun a => (a.2.1 : Int)
def coA (A : List (Nat × Nat × Int)) : List Int := A.map fun a => a.2.2
@[go_sem] theorem frA_len (A : List (Nat × Nat × Int)) : (frA A).length = A.length := by simp [frA]
@[go_sem] theorem toA_len (A : List (Nat × Nat × Int)) : (toA A).length = A.length := by simp [toA]
@[go_sem] theorem coA_len (A : List (Nat × Nat × Int)) : (coA A).length = A.length := by simp [coA]
@[go_sem] theorem frA_snoc (A : List (Nat × Nat × Int)) (i k : Nat) (c : Int) : frA (A ++ [(i, k, c)]) = frA A ++ [(i : Int)] := by simp [frA]
@[go_sem] theorem toA_snoc (A : List (Nat × Nat × Int)) (i k : Nat) (c : Int) : toA (A ++ [(i, k, c)]) = toA A ++ [(k : Int)] := by simp [toA]
@[go_sem] theorem coA_snoc (A : List (Nat × Nat × Int)) (i k : Nat) (c : Int) : coA (A ++ [(i, k, c)]) = coA A ++ [c] := by simp [coA]
@[go_sem] theorem frA_get (A : List (Nat × Nat × Int)) (j : Nat) (h : j < (frA A).length) : (frA A)[j]'h = ((A[j]'(by simpa [frA] using h)).1 : Int) := by simp [frA]
@[go_sem] theorem toA_get (A : List (Nat × Nat × Int)) (j : Nat) (h : j < (toA A).length) : (toA A)[j]'h = ((A[j]'(by simpa [toA] using h)).2.1 : Int) := by simp [toA]
@[go_sem] theorem coA_get (A : List (Nat × Nat × Int)) (j : Nat) (h : j < (coA A).length) : (coA A)[j]'h = (A[j]'(by simpa [coA] using h)).2.2 := by simp [coA]
@[go_sem] theorem wds_getE (l : List (List Int)) (j : Nat) (h : j < (wds l).length) : (wds l)[j]'h = ((wsum (l[j]'(by simpa [wds] using h)) : Nat) : Int) := by simp [wds]
@[go_sem] theorem purge_snoc (id : Nat) (xs : List Int) (x : Int) : AV.purgeL id (xs.map AV.int ++ [AV.int x]) = xs.map AV.int ++ [AV.int x] := by
  rw [purgeL_append, purgeL_ints]; rfl
theorem flat_next {A : List (Nat × Nat × Int)} {D : List Int} {a : Nat} (h : Flat A D a) (ha : a < A.length) (hn : ∀ x y, D[A[a].2.1]? = some x → D[A[a].1]? = some y → x < Inf → y ≤ x + A[a].2.2) : Flat A D (a + 1) := by
  intro j hj hja
  rcases Nat.lt_or_ge j a with h1 | h1
  · exact h j hj h1
  · obtain rfl : j = a := by omega
    exact hn
theorem costs_pc (t : Task) (s : List Int) (l : List (List Int)) (hw : WfT t) (hl : ReachL t s l) : PCall Try.prog 20 [t.av, rowsI l] (fun r => ∃ D, r = ints D ∧ CostOk t l D ∧ Flat (arcI t l l.length) D (arcI t l l.length).length) := by
  have h40 := hw.n40
  have h0 := hw.f0
  have h24 := hw.f1
  have hlen := hl.len
  have hcost : ∀ o ∈ t.ops, 0 ≤ o.cost ∧ o.cost ≤ 100 := fun o ho => (hw.ops o ho).2
  (refine enterS Try.func20 Try.ntmps20 ?_)
  (repeat' (first | (refine hK _ ?_; clear hK K) | (refine aw_seq (fun K hK => ?_)) | (refine gR ?_; refine regS ?_) | (refine gE ?_; (first | (refine exN ?_) | (refine exS (fun _ => ?_)))) | (refine gQ ?_; (first | (refine condT ?_) | (refine condF ?_) | (refine condS (fun hc => ?_) (fun hc => ?_) <;> (try (first | contradiction | (exfalso; omega)))))) | (refine gW ?_; refine wopsS ?_) | (refine aw_block ?_) | (refine gX ?_; refine exitS ?_) | (refine gT ?_; refine retS ?_) | (refine gS ?_; refine skipS ?_) | (apply_assumption (exfalso := false) (symm := false))))
  (refine awVirt 5 100 1 8 3 ?_)
  (refine awVirt 6 101 1 8 3 ?_)
  refine aw_loop_at [5, 6, 7, 17, 18, 19, 20, 21, 22, 23, 24, 25, 26, 27, 28, 29, 30, 31, 32, 33, 34, 35, 36, 37, 38, 39, 40, 41, 42, 43] (fun k : Nat => k ≤ l.length) (fun k => l.length - k) (fun k => [(7, .int k), (5, .sl 1 8 100 0 k), (6, .sl 1 8 101 0 k)])
    (fun k => [(2, ⟨25, t.cs, true⟩), (100, ⟨3, (costI t l k).map AV.int, false⟩), (101, ⟨3, (wds (l.take k)).map AV.int, false⟩)]) 0 (by omega) ?_ ?_
  · (refine atS ?_)
    (exact weakS)
  · rintro k hk K hK
    (refine atS ?_)
    have hcl := costI_len (t := t) (l := l) (k := k)
    have hwl : (wds (l.take k)).length = k := by rw [wds_len, List.length_take]; omega
    by_cases hlt : k < l.length
    · have hset := hl.set _ (List.getElem_mem hlt)
      have hg : l[k]! = l[k] := getBang hlt
      (repeat' (first | (refine hK _ ?_; clear hK K) | (refine aw_seq (fun K hK => ?_)) | (refine gR ?_; refine regS ?_) | (refine gD 7 ?_; refine drS (.it 0 0 (.it 1 0 (.it 2 0 (.it 3 0 (.it 4 0 (.it 5 0 (.it 6 1 .nil))))))) [0, 1, 2, 3, 4, 5] ?_) | (refine gC 45 ?_; refine callS (word_pc _ _ (by assumption) (by assumption)) ?_) | (refine gCd 26 ?_; refine callD (subset_pc _ _) ?_) | (refine stk_op (fun K hK => ?_); (first | (refine appendS ?_) | (refine virtS 23 30 1 8 3 ?_; refine appendS ?_) | (refine virtS 38 40 1 8 3 ?_; refine appendS ?_) | (refine virtS 41 43 1 8 3 ?_; refine appendS ?_))) | (refine adx_op (fun K hK => ?_); (first | (refine aopx_pv (pv_fieldAddrF (by rfl) (by rfl) (by first | decide | (simp; done) | (simp; omega))) ?_) | (refine aopx_pv (pv_fieldAddrIF (by rfl) (by rfl) (by first | decide | (simp; done) | (simp; omega))) ?_))) | (refine And.intro ?_ ?_) | (refine gDx ?_; refine adxS ?_) | (refine gE ?_; (first | (refine exN ?_) | (refine exS (fun _ => ?_)))) | (refine gQ ?_; (first | (refine condT ?_) | (refine condF ?_) | (refine condS (fun hc => ?_) (fun hc => ?_) <;> (try (first | contradiction | (exfalso; omega)))))) | (refine gWd ?_; refine wdrS ?_) | (refine gW ?_; refine wopsS ?_) | (refine aw_block ?_) | (refine gX ?_; refine exitS ?_) | (refine gT ?_; refine retS ?_) | (refine gS ?_; refine skipS ?_) | (apply_assumption (exfalso := false) (symm := false))))
      · refine ⟨k + 1, by omega, by omega, ?_⟩
        rw [costI_yes (by rw [hg]; assumption), List.take_succ_eq_append_getElem hlt]
        (refine atS ?_)
        (exact weakS)
      · refine ⟨k + 1, by omega, by omega, ?_⟩
        rw [costI_no (by rw [hg]; assumption), List.take_succ_eq_append_getElem hlt]
        (refine atS ?_)
        (exact weakS)
    · obtain rfl : k = l.length := by omega
      rw [List.take_length]
      clear hwl hcl
      (repeat' (first | (refine hK _ ?_; clear hK K) | (refine aw_seq (fun K hK => ?_)) | (refine gR ?_; refine regS ?_) | (refine gE ?_; (first | (refine exN ?_) | (refine exS (fun _ => ?_)))) | (refine gQ ?_; (first | (refine condT ?_) | (refine condF ?_) | (refine condS (fun hc => ?_) (fun hc => ?_) <;> (try (first | contradiction | (exfalso; omega)))))) | (refine gW ?_; refine wopsS ?_) | (refine aw_block ?_) | (refine gX ?_; refine exitS ?_) | (refine gT ?_; refine retS ?_) | (refine gS ?_; refine skipS ?_) | (apply_assumption (exfalso := false) (symm := false))))
      (refine awVirt 8 102 1 8 3 ?_)
      (refine awVirt 9 103 1 8 3 ?_)
      (refine awVirt 10 104 1 8 3 ?_)
      have hbase : (arcI t l 0).length = 0 := rfl
      refine aw_loop_at [8, 9, 10, 11, 12, 13, 14, 44, 45, 46, 47, 48, 49, 50, 51, 52, 53, 54, 55, 56, 57, 58, 59, 60, 61, 62, 63, 64, 65, 66, 67, 68, 69, 70, 71, 72, 73, 74, 75, 76, 77, 78, 79, 80, 81, 82, 83, 84, 85, 86, 87, 88, 89, 90, 91, 92, 93, 94, 95, 96, 97, 98, 99, 100] (fun i : Nat => i ≤ l.length) (fun i => l.length - i) (fun i => [(11, .int i), (8, .sl 1 8 102 0 (arcI t l i).length), (9, .sl 1 8 103 0 (arcI t l i).length), (10, .sl 1 8 104 0 (arcI t l i).length)])
        (fun i => [(2, ⟨25, t.cs, true⟩), (100, ⟨3, (costI t l l.length).map AV.int, false⟩), (101, ⟨3, (wds l).map AV.int, false⟩),
          (102, ⟨3, (frA (arcI t l i)).map AV.int, false⟩), (103, ⟨3, (toA (arcI t l i)).map AV.int, false⟩), (104, ⟨3, (coA (arcI t l i)).map AV.int, false⟩)]) 0 (by omega) ?_ ?_
      · (refine atS ?_)
        (exact weakS)
      · rintro i hi K hK
        (refine atS ?_)
        by_cases hlt : i < l.length
        · (repeat' (first | (refine hK _ ?_; clear hK K) | (refine aw_seq (fun K hK => ?_)) | (refine gR ?_; refine regS ?_) | (refine gE ?_; (first | (refine exN ?_) | (refine exS (fun _ => ?_)))) | (refine gQ ?_; (first | (refine condT ?_) | (refine condF ?_) | (refine condS (fun hc => ?_) (fun hc => ?_) <;> (try (first | contradiction | (exfalso; omega)))))) | (refine gW ?_; refine wopsS ?_) | (refine aw_block ?_) | (refine gX ?_; refine exitS ?_) | (refine gT ?_; refine retS ?_) | (refine gS ?_; refine skipS ?_) | (apply_assumption (exfalso := false) (symm := false))))
          have hIb : (arcI t l i).length ≤ 160000000 := by
            have h1 := arcI_len (t := t) (l := l) (i := i)
            have h2 : t.ops.length * l.length ≤ 40 * 2000 := Nat.mul_le_mul h40 hlen
            have h3 : i * (t.ops.length * l.length) ≤ 2000 * (40 * 2000) := Nat.mul_le_mul (by omega) h2
            omega
          have hOb : ∀ q, q ≤ t.ops.length → (arcO t l i q).length ≤ 80000 := fun q hq => by
            have h1 := arcO_len (t := t) (l := l) (i := i) (q := q)
            have h2 : q * l.length ≤ 40 * 2000 := Nat.mul_le_mul (by omega) hlen
            omega
          refine aw_loop_at [8, 9, 10, 12, 13, 14, 50, 51, 52, 53, 54, 55, 56, 57, 58, 59, 60, 61, 62, 63, 64, 65, 66, 67, 68, 69, 70, 71, 72, 73, 74, 75, 76, 77, 78, 79, 80, 81, 82, 83, 84, 85, 86, 87, 88, 89, 90, 91, 92, 93, 94, 95, 96, 97, 98, 99, 100] (fun q : Nat => q ≤ t.ops.length) (fun q => t.ops.length - q) (fun q => [(12, .int q), (8, .sl 1 8 102 0 (arcI t l i ++ arcO t l i q).length), (9, .sl 1 8 103 0 (arcI t l i ++ arcO t l i q).length), (10, .sl 1 8 104 0 (arcI t l i ++ arcO t l i q).length)])
            (fun q => [(2, ⟨25, t.cs, true⟩), (100, ⟨3, (costI t l l.length).map AV.int, false⟩), (101, ⟨3, (wds l).map AV.int, false⟩),
              (102, ⟨3, (frA (arcI t l i ++ arcO t l i q)).map AV.int, false⟩), (103, ⟨3, (toA (arcI t l i ++ arcO t l i q)).map AV.int, false⟩), (104, ⟨3, (coA (arcI t l i ++ arcO t l i q)).map AV.int, false⟩)]) 0 (by omega) ?_ ?_
          · rw [arcO_zero, List.append_nil]
            (refine atS ?_)
            (exact weakS)
          · rintro q hq K hK
            (refine atS ?_)
            have hOq := hOb q hq
            by_cases hqt : q < t.ops.length
            · have hg : l[i]! = l[i] := getBang hlt
              have hst := aft_set h0 l[i] t.ops[q]!
              have hcq : 0 ≤ (t.ops[q]!).cost ∧ (t.ops[q]!).cost ≤ 100 := by rw [getBang hqt]; exact hcost _ (List.getElem_mem hqt)
              have hoq : t.ops[q]! = t.ops[q] := getBang hqt
              (repeat' (first | (refine hK _ ?_; clear hK K) | (refine aw_seq (fun K hK => ?_)) | (refine gR ?_; refine regS ?_) | (refine gD 17 ?_; refine drS (.it 0 0 (.it 1 0 (.it 2 0 (.it 3 0 (.it 4 0 (.it 5 0 (.it 6 1 .nil))))))) [0, 1, 2, 3, 4, 5] ?_) | (refine gD 18 ?_; refine drS (.it 0 0 (.it 1 0 (.it 2 0 (.it 3 0 (.it 4 0 (.it 5 0 (.it 6 1 (.it 7 1 (.it 8 0 .nil))))))))) [0, 1, 2, 3, 4, 5, 8] ?_) | (refine gCd 39 ?_; refine callD (applies_pc _ _ _ (by omega) (by omega)) ?_) | (refine gCd 28 ?_; refine callD (after_pc _ _ _ (by omega) (by omega) (by omega) (by omega)) ?_) | (refine gCd 45 ?_; refine callD (word_pc _ _ (by assumption) (by assumption)) ?_) | (refine stk_op (fun K hK => ?_); (first | (refine aop_pv (pv_fieldAddrF (by rfl) (by rfl) (by first | decide | (simp; done) | (simp; omega))) ?_) | (refine aop_pv (pv_fieldAddrIF (by rfl) (by rfl) (by first | decide | (simp; done) | (simp; omega))) ?_))) | (refine And.intro ?_ ?_) | (refine gDx ?_; refine adxS ?_) | (refine gE ?_; (first | (refine exN ?_) | (refine exS (fun _ => ?_)))) | (refine gQ ?_; (first | (refine condT ?_) | (refine condF ?_) | (refine condS (fun hc => ?_) (fun hc => ?_) <;> (try (first | contradiction | (exfalso; omega)))))) | (refine gWd ?_; refine wdrS ?_) | (refine gW ?_; refine wopsS ?_) | (refine aw_block ?_) | (refine gX ?_; refine exitS ?_) | (refine gT ?_; refine retS ?_) | (refine gS ?_; refine skipS ?_) | (apply_assumption (exfalso := false) (symm := false))))
              · have e : arcO t l i (q + 1) = arcO t l i q ++ arcK l (wsum (aft t.facts l[i] t.ops[q]!)) i (t.ops[q]!).cost l.length := by rw [arcO_succ, arcQ, if_pos (by rw [hg]; assumption), hg]
                generalize hwq : wsum (aft t.facts l[i] t.ops[q]!) = w at *
                generalize hB : arcI t l i ++ arcO t l i q = B at *
                have hBl : (arcI t l i).length + (arcO t l i q).length = B.length := by rw [← hB, List.length_append]
                have hBb : B.length ≤ 160080000 := by omega
                rw [hBl]
                rw [hoq] at e
                refine aw_loop_at [8, 9, 10, 14, 72, 73, 74, 75, 76, 77, 78, 79, 80, 81, 82, 83, 84, 85, 86, 87, 88, 89, 90, 91, 92, 93, 94, 95, 96, 97, 98, 99, 100] (fun k : Nat => k ≤ l.length) (fun k => l.length - k) (fun k => [(14, .int k), (8, .sl 1 8 102 0 (B ++ arcK l w i t.ops[q].cost k).length), (9, .sl 1 8 103 0 (B ++ arcK l w i t.ops[q].cost k).length), (10, .sl 1 8 104 0 (B ++ arcK l w i t.ops[q].cost k).length)])
                  (fun k => [(2, ⟨25, t.cs, true⟩), (100, ⟨3, (costI t l l.length).map AV.int, false⟩), (101, ⟨3, (wds l).map AV.int, false⟩),
                    (102, ⟨3, (frA (B ++ arcK l w i t.ops[q].cost k)).map AV.int, false⟩), (103, ⟨3, (toA (B ++ arcK l w i t.ops[q].cost k)).map AV.int, false⟩), (104, ⟨3, (coA (B ++ arcK l w i t.ops[q].cost k)).map AV.int, false⟩)]) 0 (by omega) ?_ ?_
                · rw [arcK_zero, List.append_nil]
                  (refine atS ?_)
                  (exact weakS)
                · rintro k hk K hK
                  (refine atS ?_)
                  have hKb := arcK_len (l := l) (w := w) (i := i) (c := t.ops[q].cost) (k := k)
                  by_cases hkt : k < l.length
                  · have hgk : l[k]! = l[k] := getBang hkt
                    (repeat' (first | (refine hK _ ?_; clear hK K) | (refine aw_seq (fun K hK => ?_)) | (refine gR ?_; refine regS ?_) | (refine stk_op (fun K hK => ?_); (first | (refine aop_pv (pv_eql (by rfl) (by rfl)) ?_) | (refine aop_pv (pv_eqlB (by rfl) (by rfl)) ?_) | (refine aop_pv (pv_eqlA (by rfl) (by rfl) (by kernel_rfl)) ?_) | (refine appendS ?_) | (refine virtS 84 87 1 8 3 ?_; refine appendS ?_) | (refine virtS 88 91 1 8 3 ?_; refine appendS ?_) | (refine aop_pv (pv_fieldAddrF (by rfl) (by rfl) (by first | decide | (simp; done) | (simp; omega))) ?_) | (refine aop_pv (pv_fieldAddrIF (by rfl) (by rfl) (by first | decide | (simp; done) | (simp; omega))) ?_) | (refine virtS 92 100 1 8 3 ?_; refine appendS ?_))) | (refine gE ?_; (first | (refine exN ?_) | (refine exS (fun _ => ?_)))) | (refine gQ ?_; (first | (refine condT ?_) | (refine condF ?_) | (refine condS (fun hc => ?_) (fun hc => ?_) <;> (try (first | contradiction | (exfalso; omega)))))) | (refine gW ?_; refine wopsS ?_) | (refine aw_block ?_) | (refine gX ?_; refine exitS ?_) | (refine gT ?_; refine retS ?_) | (refine gS ?_; refine skipS ?_) | (apply_assumption (exfalso := false) (symm := false))))
                    · refine ⟨k + 1, by omega, by omega, ?_⟩
                      rw [arcK_yes (by rw [hgk]; omega), ← List.append_assoc]
                      (refine atS ?_)
                      (exact weakS)
                    · refine ⟨k + 1, by omega, by omega, ?_⟩
                      rw [arcK_no (by rw [hgk]; omega)]
                      (refine atS ?_)
                      (exact weakS)
                  · obtain rfl : k = l.length := by omega
                    (repeat' (first | (refine hK _ ?_; clear hK K) | (refine aw_seq (fun K hK => ?_)) | (refine gR ?_; refine regS ?_) | (refine gE ?_; (first | (refine exN ?_) | (refine exS (fun _ => ?_)))) | (refine gQ ?_; (first | (refine condT ?_) | (refine condF ?_) | (refine condS (fun hc => ?_) (fun hc => ?_) <;> (try (first | contradiction | (exfalso; omega)))))) | (refine gW ?_; refine wopsS ?_) | (refine aw_block ?_) | (refine gX ?_; refine exitS ?_) | (refine gT ?_; refine retS ?_) | (refine gS ?_; refine skipS ?_) | (apply_assumption (exfalso := false) (symm := false))))
                    refine ⟨q + 1, by omega, by omega, ?_⟩
                    rw [e, ← List.append_assoc, hB]
                    (refine atS ?_)
                    (exact weakS)
              · have e : arcO t l i (q + 1) = arcO t l i q := by rw [arcO_succ, arcQ, if_neg (by rw [hg]; simp_all), List.append_nil]
                refine ⟨q + 1, by omega, by omega, ?_⟩
                rw [e]
                (refine atS ?_)
                (exact weakS)
            · obtain rfl : q = t.ops.length := by omega
              (repeat' (first | (refine hK _ ?_; clear hK K) | (refine aw_seq (fun K hK => ?_)) | (refine gR ?_; refine regS ?_) | (refine stk_op (fun K hK => ?_); (first | (refine aop_pv (pv_fieldAddrF (by rfl) (by rfl) (by first | decide | (simp; done) | (simp; omega))) ?_) | (refine aop_pv (pv_fieldAddrIF (by rfl) (by rfl) (by first | decide | (simp; done) | (simp; omega))) ?_))) | (refine gE ?_; (first | (refine exN ?_) | (refine exS (fun _ => ?_)))) | (refine gQ ?_; (first | (refine condT ?_) | (refine condF ?_) | (refine condS (fun hc => ?_) (fun hc => ?_) <;> (try (first | contradiction | (exfalso; omega)))))) | (refine gW ?_; refine wopsS ?_) | (refine aw_block ?_) | (refine gX ?_; refine exitS ?_) | (refine gT ?_; refine retS ?_) | (refine gS ?_; refine skipS ?_) | (apply_assumption (exfalso := false) (symm := false))))
              refine ⟨i + 1, by omega, by omega, ?_⟩
              rw [arcI_succ]
              (refine atS ?_)
              (exact weakS)
        · obtain rfl : i = l.length := by omega
          (repeat' (first | (refine hK _ ?_; clear hK K) | (refine aw_seq (fun K hK => ?_)) | (refine gR ?_; refine regS ?_) | (refine gE ?_; (first | (refine exN ?_) | (refine exS (fun _ => ?_)))) | (refine gQ ?_; (first | (refine condT ?_) | (refine condF ?_) | (refine condS (fun hc => ?_) (fun hc => ?_) <;> (try (first | contradiction | (exfalso; omega)))))) | (refine gW ?_; refine wopsS ?_) | (refine aw_block ?_) | (refine gX ?_; refine exitS ?_) | (refine gT ?_; refine retS ?_) | (refine gS ?_; refine skipS ?_) | (apply_assumption (exfalso := false) (symm := false))))
          have hAm : ∀ a (ha : a < (arcI t l l.length).length), (arcI t l l.length)[a].1 < l.length ∧ (arcI t l l.length)[a].2.1 < l.length ∧ 0 ≤ (arcI t l l.length)[a].2.2 ∧ (arcI t l l.length)[a].2.2 ≤ 100 := by
            intro a ha
            have hm := List.getElem_mem ha
            rcases hx : (arcI t l l.length)[a] with ⟨i, k, c⟩
            rw [hx] at hm
            obtain ⟨h1, h2, q, h3, h4, h5, h6⟩ := arc_mem.1 hm
            rw [getBang h3] at h6
            have := hcost _ (List.getElem_mem h3)
            exact ⟨h1, h2, by simp only; omega, by simp only; omega⟩
          have hIb : (arcI t l l.length).length ≤ 160000000 := by
            have h1 := arcI_len (t := t) (l := l) (i := l.length)
            have h2 : t.ops.length * l.length ≤ 40 * 2000 := Nat.mul_le_mul h40 hlen
            have h3 : l.length * (t.ops.length * l.length) ≤ 2000 * (40 * 2000) := Nat.mul_le_mul hlen h2
            omega
          have hrel : ∀ D a (ha : a < (arcI t l l.length).length), CostOk t l D → ∀ (h1 : (arcI t l l.length)[a].2.1 < D.length) (h2 : (arcI t l l.length)[a].1 < D.length), D[(arcI t l l.length)[a].2.1] < Inf → D[(arcI t l l.length)[a].2.1] + (arcI t l l.length)[a].2.2 < D[(arcI t l l.length)[a].1] → CostOk t l (D.set (arcI t l l.length)[a].1 (D[(arcI t l l.length)[a].2.1] + (arcI t l l.length)[a].2.2)) := by
            intro D a ha hC h1 h2 h3 h4
            exact hC.relax hl h0 (fun o ho => (hcost o ho).1) (n := l.length) (List.getElem_mem ha) h2 h1 h3 h4
          have hC0 := costI_ok (t := t) (l := l)
          generalize costI t l l.length = D0 at *
          generalize arcI t l l.length = A at *
          have hD0l := hC0.len
          refine aw_loop_at [15, 16, 101, 102, 103, 104, 105, 106, 107, 108, 109, 110, 111, 112, 113, 114, 115, 116, 117, 118, 119, 120, 121, 122, 123, 124, 125, 126, 127, 128, 129, 130, 131, 132, 133, 134, 135, 136, 137, 138, 139, 140, 141, 142, 143, 144, 145, 146, 147, 148, 149, 150, 151, 152, 153, 154, 155] (fun p : Bool × List Int => CostOk t l p.2 ∧ (p.1 = false → Flat A p.2 A.length)) (fun p => 2 * (lsum p.2).toNat + (if p.1 then 1 else 0)) (fun p => [(15, .bool p.1)])
            (fun p => [(2, ⟨25, t.cs, true⟩), (100, ⟨3, p.2.map AV.int, false⟩), (101, ⟨3, (wds l).map AV.int, false⟩),
              (102, ⟨3, (frA A).map AV.int, false⟩), (103, ⟨3, (toA A).map AV.int, false⟩), (104, ⟨3, (coA A).map AV.int, false⟩)]) (true, D0) ⟨hC0, fun h => by cases h⟩ ?_ ?_
          · (refine atS ?_)
            (exact weakS)
          · clear hC0 hD0l
            rintro ⟨ag, D0⟩ ⟨hC0, hF0⟩ K hK
            simp only at hC0 hF0
            have hs0 := lsum_nonneg fun i hi => (hC0.bd i hi).1
            cases ag with
            | false =>
              (refine atS ?_)
              have hD0l := hC0.len
              rw [← hD0l] at *
              (repeat' (first | (refine hK _ ?_; clear hK K) | (refine aw_seq (fun K hK => ?_)) | (refine gR ?_; refine regS ?_) | (refine gE ?_; (first | (refine exN ?_) | (refine exS (fun _ => ?_)))) | (refine gQ ?_; (first | (refine condT ?_) | (refine condF ?_) | (refine condS (fun hc => ?_) (fun hc => ?_) <;> (try (first | contradiction | (exfalso; omega)))))) | (refine gW ?_; refine wopsS ?_) | (refine aw_block ?_) | (refine gX ?_; refine exitS ?_) | (refine gT ?_; refine retS ?_) | (refine gS ?_; refine skipS ?_) | (apply_assumption (exfalso := false) (symm := false))))
              refine fin_sl1 D0 rfl (by rfl) (by rfl) (by rfl) (fun _ => rfl) (fun _ => rfl) ⟨D0, rfl, hC0, hF0 rfl⟩
            | true =>
              (refine atS ?_)
              (repeat' (first | (refine hK _ ?_; clear hK K) | (refine aw_seq (fun K hK => ?_)) | (refine gR ?_; refine regS ?_) | (refine gE ?_; (first | (refine exN ?_) | (refine exS (fun _ => ?_)))) | (refine gQ ?_; (first | (refine condT ?_) | (refine condF ?_) | (refine condS (fun hc => ?_) (fun hc => ?_) <;> (try (first | contradiction | (exfalso; omega)))))) | (refine gW ?_; refine wopsS ?_) | (refine aw_block ?_) | (refine gX ?_; refine exitS ?_) | (refine gT ?_; refine retS ?_) | (refine gS ?_; refine skipS ?_) | (apply_assumption (exfalso := false) (symm := false))))
              refine aw_loop_at [15, 16, 102, 103, 104, 105, 106, 107, 108, 109, 110, 111, 112, 113, 114, 115, 116, 117, 118, 119, 120, 121, 122, 123, 124, 125, 126, 127, 128, 129, 130, 131, 132, 133, 134, 135, 136, 137, 138, 139, 140, 141, 142, 143, 144, 145, 146, 147, 148, 149, 150, 151, 152, 153, 154, 155] (fun p : Nat × Bool × List Int => CostOk t l p.2.2 ∧ p.1 ≤ A.length ∧ (p.2.1 = false → p.2.2 = D0 ∧ Flat A D0 p.1) ∧ (p.2.1 = true → lsum p.2.2 < lsum D0)) (fun p => A.length - p.1) (fun p => [(16, .int p.1), (15, .bool p.2.1)])
                (fun p => [(2, ⟨25, t.cs, true⟩), (100, ⟨3, p.2.2.map AV.int, false⟩), (101, ⟨3, (wds l).map AV.int, false⟩),
                  (102, ⟨3, (frA A).map AV.int, false⟩), (103, ⟨3, (toA A).map AV.int, false⟩), (104, ⟨3, (coA A).map AV.int, false⟩)]) (0, false, D0) ⟨hC0, by simp, fun _ => ⟨rfl, fun j hj h => by omega⟩, fun h => by cases h⟩ ?_ ?_
              · (refine atS ?_)
                (exact weakS)
              · rintro ⟨a, ag, D⟩ ⟨hC, ha, hF, hT⟩ K hK
                simp only at hC ha hF hT
                have hDl := hC.len
                have hs := lsum_nonneg fun i hi => (hC.bd i hi).1
                (refine atS ?_)
                by_cases hat : a < A.length
                · have hm := hAm a hat
                  have hkD : A[a].2.1 < D.length := by omega
                  have hiD : A[a].1 < D.length := by omega
                  have hb1 : 0 ≤ D[A[a].2.1] ∧ D[A[a].2.1] ≤ 1000000000 := hC.bd _ hkD
                  have hb2 : 0 ≤ D[A[a].1] ∧ D[A[a].1] ≤ 1000000000 := hC.bd _ hiD
                  have hr : D[A[a].2.1] < 1000000000 → D[A[a].2.1] + A[a].2.2 < D[A[a].1] → CostOk t l (D.set A[a].1 (D[A[a].2.1] + A[a].2.2)) := hrel D a hat hC hkD hiD
                  have hls := lsum_set (x := D[A[a].2.1] + A[a].2.2) hiD
                  have hfl : (D[A[a].2.1] < 1000000000 → D[A[a].1] ≤ D[A[a].2.1] + A[a].2.2) → Flat A D a → Flat A D (a + 1) := fun h1 h => flat_next h hat fun x y hx hy h3 => by
                    rw [List.getElem?_eq_getElem hkD, Option.some.injEq] at hx
                    rw [List.getElem?_eq_getElem hiD, Option.some.injEq] at hy
                    have h3 : x < 1000000000 := h3
                    subst hx
                    subst hy
                    exact h1 h3
                  clear hrel hAm
                  (repeat' (first | (refine hK _ ?_; clear hK K) | (refine aw_seq (fun K hK => ?_)) | (refine gR ?_; refine regS ?_) | (refine gD 32 ?_; refine drS (.it 0 0 (.it 1 0 (.it 2 0 (.it 3 0 (.it 4 0 (.it 5 0 (.it 6 0 (.it 7 0 (.it 8 0 (.it 9 0 (.it 10 0 (.it 11 0 (.it 12 0 (.it 13 0 (.it 14 0 (.it 15 0 (.it 16 0 (.it 17 0 (.it 18 0 (.it 19 0 (.it 20 0 (.it 21 0 (.it 22 0 (.it 23 0 (.it 24 0 (.it 25 0 (.it 26 0 (.it 27 0 (.it 28 0 (.it 29 0 .nil)))))))))))))))))))))))))))))) [0, 1, 2, 3, 4, 5, 6, 7, 8, 9, 10, 11, 12, 13, 14, 15, 16, 17, 18, 19, 20, 21, 22, 23, 24, 25, 26, 27, 28, 29] ?_) | (refine gD 33 ?_; refine drS (.it 0 0 (.it 1 0 (.it 2 0 (.it 3 0 (.it 4 0 (.it 5 0 (.it 6 0 (.it 7 0 (.it 8 0 (.it 9 0 (.it 10 0 (.it 11 0 (.it 12 0 (.it 13 0 (.it 14 0 (.it 15 0 (.it 16 0 (.it 17 0 (.it 18 3 .nil))))))))))))))))))) [0, 1, 2, 3, 4, 5, 6, 7, 8, 9, 10, 11, 12, 13, 14, 15, 16, 17] ?_) | (refine And.intro ?_ ?_) | (refine gDx ?_; refine adxS ?_) | (refine gO ?_; refine adoS ?_) | (refine gE ?_; (first | (refine exN ?_) | (refine exS (fun _ => ?_)))) | (refine gGd ?_; refine guardD (fun hc => ?_) (fun hc => ?_) <;> (try (first | contradiction | (exfalso; omega)))) | (refine gQ ?_; (first | (refine condT ?_) | (refine condF ?_) | (refine condS (fun hc => ?_) (fun hc => ?_) <;> (try (first | contradiction | (exfalso; omega)))))) | (refine gWd ?_; refine wdrS ?_) | (refine gW ?_; refine wopsS ?_) | (refine aw_block ?_) | (refine gX ?_; refine exitS ?_) | (refine gT ?_; refine retS ?_) | (refine gS ?_; refine skipS ?_) | (apply_assumption (exfalso := false) (symm := false))))
                  · refine ⟨(a + 1, true, D.set A[a].1 (D[A[a].2.1] + A[a].2.2)), ⟨hr (by assumption) (by assumption), by simp only; omega, fun h => (by cases h), fun _ => ?_⟩, by simp only; omega, ?_⟩
                    · simp only
                      rw [hls]
                      cases ag
                      · obtain ⟨rfl, _⟩ := hF rfl
                        omega
                      · have := hT rfl
                        omega
                    · (refine atS ?_)
                      (refine le_weak (by (repeat (first | exact .nil | refine .drop ?_ | refine weak_keep ?_ (by first | rfl | (simp [List.map_set]))))) (by (repeat refine hsub_hasE (by rfl) (by first | rfl | (simp [List.map_set])) ?_); exact hsub_nil _))
                  · refine ⟨(a + 1, ag, D), ⟨hC, by simp only; omega, fun h => ⟨(hF h).1, by obtain ⟨h1, h2⟩ := hF h; subst h1; exact hfl (fun _ => by assumption) h2⟩, hT⟩, by simp only; omega, ?_⟩
                    (refine atS ?_)
                    (exact weakS)
                  · refine ⟨(a + 1, ag, D), ⟨hC, by simp only; omega, fun h => ⟨(hF h).1, by obtain ⟨h1, h2⟩ := hF h; subst h1; exact hfl (fun _ => by omega) h2⟩, hT⟩, by simp only; omega, ?_⟩
                    (refine atS ?_)
                    (exact weakS)
                · obtain rfl : a = A.length := by omega
                  (repeat' (first | (refine hK _ ?_; clear hK K) | (refine aw_seq (fun K hK => ?_)) | (refine gR ?_; refine regS ?_) | (refine gE ?_; (first | (refine exN ?_) | (refine exS (fun _ => ?_)))) | (refine gQ ?_; (first | (refine condT ?_) | (refine condF ?_) | (refine condS (fun hc => ?_) (fun hc => ?_) <;> (try (first | contradiction | (exfalso; omega)))))) | (refine gW ?_; refine wopsS ?_) | (refine aw_block ?_) | (refine gX ?_; refine exitS ?_) | (refine gT ?_; refine retS ?_) | (refine gS ?_; refine skipS ?_) | (apply_assumption (exfalso := false) (symm := false))))
                  refine ⟨(ag, D), ⟨hC, fun h => by obtain ⟨rfl, h2⟩ := hF h; exact h2⟩, ?_, ?_⟩
                  · cases ag
                    · obtain ⟨rfl, _⟩ := hF rfl
                      simp
                    · have := hT rfl
                      simp
                      omega
                  · (refine atS ?_)
                    (exact weakS)

end Go.Proofs.Ythdlckclpmfidaa
