import Derived.Test.YtokmhfjledbglaaStt
import Derived.Test.YtokmhfjledbglaaGrp
import Derived.Test.YtokmhfjledbglaaMvv





namespace Go.Proofs.Ytokmhfjledbglaa
open Go.Ab
open Go
set_option linter.unusedSimpArgs false
set_option linter.unusedVariables false
set_option maxRecDepth 10000
attribute [local irreducible] PV AOp AOps AW PCall OCall MCall WCall Ab.Fin OFin OFin2 MFin RV RV1 Le AStk AGrd ADr ADx ADo AOpX AAny
set_option maxHeartbeats 4000000
@[local go_sem] theorem purge_appT (id : Nat) (a b : List AV) : AV.purgeL id (a ++ b) = AV.purgeL id a ++ AV.purgeL id b := purgeL_append id a b
@[local go_sem] theorem cells_intsT (xs : List Int) : (xs.map AV.int).flatMap AV.cells = xs.map AV.int := flat_ints xs
@[local go_sem] theorem sealDL_appT (id sz bw n : Nat) (es a b : List AV) : AV.sealDL id sz bw n es (a ++ b) = AV.sealDL id sz bw n es a ++ AV.sealDL id sz bw n es b := by rw [sealDL_eq, sealDL_eq, sealDL_eq, List.map_append]
/-! multi.Base, multi.facts -/
def basesL (sz : List Int) (k : Nat) : List Int := (List.range k).map fun (v : Nat) => baseK sz v
theorem basesL_len (sz : List Int) (k : Nat) : (basesL sz k).length = k := by simp [basesL]
theorem basesL_succ (sz : List Int) (k : Nat) : basesL sz (k + 1) = basesL sz k ++ [baseK sz k] := by simp [basesL, List.range_succ]
theorem basesL_at {sz : List Int} {k i : Nat} (h : i < (basesL sz k).length) : (basesL sz k)[i] = baseK sz i := by simp [basesL]
theorem base_pc (m : MTask) (hm : MValid m) : PCall Try.prog 40 [ints m.sizes] (fun r => r = .tup [ints (basesL m.sizes m.sizes.length), .int (baseK m.sizes m.sizes.length)]) := by
  have h8 := hm.n8
  have hb : ∀ k, k ≤ m.sizes.length → 0 ≤ baseK m.sizes k ∧ baseK m.sizes k ≤ 6 * k := by
    intro k
    induction k with
    | zero => intro _; simp [baseK]
    | succ k ih =>
      intro hk
      have h1 := ih (by omega)
      have h2 := sz_at hm (k := k) (by omega)
      rw [baseK_succ (by omega)]
      omega
  (refine enterS Try.func40 Try.ntmps40 ?_)
  (repeat' (first | (refine hK _ ?_; clear hK K) | (refine aw_seq (fun K hK => ?_)) | (refine gR ?_; refine regS ?_) | (refine stk_op (fun K hK => ?_); (first | (refine appendS ?_) | (refine virtS 14 17 1 8 3 ?_; refine appendS ?_))) | (refine gE ?_; (first | (refine exN ?_) | (refine exS (fun _ => ?_)))) | (refine gQ ?_; (first | (refine condT ?_) | (refine condF ?_) | (refine condS (fun hc => ?_) (fun hc => ?_) <;> (try (first | contradiction | (exfalso; omega)))))) | (refine gW ?_; refine wopsS ?_) | (refine aw_block ?_) | (refine gX ?_; refine exitS ?_) | (refine gT ?_; refine retS ?_) | (refine gS ?_; refine skipS ?_) | (apply_assumption (exfalso := false) (symm := false))))
  (refine awVirt 4 100 1 8 3 ?_)
  refine aw_loop_at [4, 5, 7, 10, 11, 12, 13, 14, 15, 16, 17, 18, 19, 20, 21] (fun k : Nat => k ≤ m.sizes.length) (fun k => m.sizes.length - k) (fun k => [(10, .int k), (4, .sl 1 8 100 0 (basesL m.sizes k).length), (5, .int (baseK m.sizes k))]) (fun k => [(100, ⟨3, (basesL m.sizes k).map AV.int, false⟩)]) 0 (by omega) ?_ ?_
  · (refine atS ?_)
    (exact weakS)
  · rintro k hk K hK
    (refine atS ?_)
    have hbl := basesL_len m.sizes k
    have hbk := hb k hk
    by_cases hlt : k < m.sizes.length
    · have hs1 := basesL_succ m.sizes k
      have hs2 := baseK_succ hlt
      have hs3 := sz_at hm hlt
      rw [getElem!_pos m.sizes k hlt] at hs2 hs3
      (repeat' (first | (refine hK _ ?_; clear hK K) | (refine aw_seq (fun K hK => ?_)) | (refine gR ?_; refine regS ?_) | (refine stk_op (fun K hK => ?_); (first | (refine appendS ?_) | (refine virtS 14 17 1 8 3 ?_; refine appendS ?_))) | (refine gE ?_; (first | (refine exN ?_) | (refine exS (fun _ => ?_)))) | (refine gQ ?_; (first | (refine condT ?_) | (refine condF ?_) | (refine condS (fun hc => ?_) (fun hc => ?_) <;> (try (first | contradiction | (exfalso; omega)))))) | (refine gW ?_; refine wopsS ?_) | (refine aw_block ?_) | (refine gX ?_; refine exitS ?_) | (refine gT ?_; refine retS ?_) | (refine gS ?_; refine skipS ?_) | (apply_assumption (exfalso := false) (symm := false))))
      refine ⟨k + 1, by omega, by omega, ?_⟩
      rw [hs1, hs2]
      (refine atS ?_)
      (exact weakS)
    · obtain rfl : k = m.sizes.length := by omega
      (repeat' (first | (refine hK _ ?_; clear hK K) | (refine aw_seq (fun K hK => ?_)) | (refine gRx 9 (by rfl) ?_; refine regS ?_) | (refine stk_op (fun K hK => ?_); (first | (refine appendS ?_) | (refine virtS 14 17 1 8 3 ?_; refine appendS ?_))) | (refine gE ?_; (first | (refine exN ?_) | (refine exS (fun _ => ?_)))) | (refine gQ ?_; (first | (refine condT ?_) | (refine condF ?_) | (refine condS (fun hc => ?_) (fun hc => ?_) <;> (try (first | contradiction | (exfalso; omega)))))) | (refine gW ?_; refine wopsS ?_) | (refine aw_block ?_) | (refine gX ?_; refine exitS ?_) | (refine gT ?_; refine retS ?_) | (refine gS ?_; refine skipS ?_) | (apply_assumption (exfalso := false) (symm := false))))
      (refine aw_le (le_sealDI 100 (basesL m.sizes m.sizes.length).length (basesL m.sizes m.sizes.length) (by rfl) (by first | rfl | simp)) ?_; simp only [go_sem, Nat.reduceAdd, Nat.reduceMul, reduceIte, Nat.reduceEqDiff, Nat.reduceLeDiff, Int.reduceToNat, Int.reducePow, Int.reduceBEq, Int.reduceBNe, Int.reduceLT, Int.reduceLE, decide_true, decide_false])
      (repeat' (first | (refine hK _ ?_; clear hK K) | (refine aw_seq (fun K hK => ?_)) | (refine gR ?_; refine regS ?_) | (refine stk_op (fun K hK => ?_); (first | (refine appendS ?_) | (refine virtS 14 17 1 8 3 ?_; refine appendS ?_))) | (refine gE ?_; (first | (refine exN ?_) | (refine exS (fun _ => ?_)))) | (refine gQ ?_; (first | (refine condT ?_) | (refine condF ?_) | (refine condS (fun hc => ?_) (fun hc => ?_) <;> (try (first | contradiction | (exfalso; omega)))))) | (refine gW ?_; refine wopsS ?_) | (refine aw_block ?_) | (refine gX ?_; refine exitS ?_) | (refine gT ?_; refine retS ?_) | (refine gS ?_; refine skipS ?_) | (apply_assumption (exfalso := false) (symm := false))))
      (refine fin_le (Le.refl _) (rv_two (rv1_tmp (by rfl)) (rv1_tmp (by rfl))) (by first | rfl | (simp only [go_sem, Nat.reduceAdd, Nat.reduceMul, reduceIte, Nat.reduceEqDiff, Nat.reduceLeDiff, Int.reduceToNat, Int.reducePow, Int.reduceBEq, Int.reduceBNe, Int.reduceLT, Int.reduceLE, decide_true, decide_false])) ?_)
      rfl
theorem facts_pc (m : MTask) (hm : MValid m) (l : List (Int × Int)) (hl : ∀ a ∈ l, okA m a) (hll : l.length ≤ 1000) : PCall Try.prog 41 [ints (basesL m.sizes m.sizes.length), asgs l] (fun r => r = ints (factsM m.sizes l)) := by
  have hbl := basesL_len m.sizes m.sizes.length
  have h8 := hm.n8
  have hfl : ∀ k, k ≤ l.length → (factsM m.sizes (l.take k)).length = k := fun k hk => by simp [factsM]; omega
  (refine enterS Try.func41 Try.ntmps41 ?_)
  (repeat' (first | (refine hK _ ?_; clear hK K) | (refine aw_seq (fun K hK => ?_)) | (refine gR ?_; refine regS ?_) | (refine gD 5 ?_; refine drS (.it 0 0 (.it 1 0 (.it 2 0 (.it 3 0 (.it 4 0 (.it 5 0 (.it 6 0 (.it 7 0 (.it 8 0 (.it 9 1 (.it 10 3 (.it 11 1 .nil)))))))))))) [0, 1, 2, 3, 4, 5, 6, 7, 8] ?_) | (refine adx_op (fun K hK => ?_); (first | (refine aopx_pv (pv_fieldAddrF (by rfl) (by rfl) (by first | decide | (simp; done) | (simp; omega))) ?_) | (refine aopx_pv (pv_fieldAddrIF (by rfl) (by rfl) (by first | decide | (simp; done) | (simp; omega))) ?_) | (refine aopx_buildSlice (d := 23) (by exact ⟨by decide, by decide, by decide⟩) (by rfl) (by rfl) (by rfl) (by rfl) ?_))) | (refine And.intro ?_ ?_) | (refine gDx ?_; refine adxS ?_) | (refine ado_op (fun K hK => ?_); (first | (refine appendS ?_) | (refine virtS 14 24 1 8 3 ?_; refine appendS ?_))) | (refine gE ?_; (first | (refine exN ?_) | (refine exS (fun _ => ?_)))) | (refine gQ ?_; (first | (refine condT ?_) | (refine condF ?_) | (refine condS (fun hc => ?_) (fun hc => ?_) <;> (try (first | contradiction | (exfalso; omega)))))) | (refine gWd ?_; refine wdrS ?_) | (refine gW ?_; refine wopsS ?_) | (refine aw_block ?_) | (refine gX ?_; refine exitS ?_) | (refine gT ?_; refine retS ?_) | (refine gS ?_; refine skipS ?_) | (apply_assumption (exfalso := false) (symm := false))))
  (refine awVirt 5 100 1 8 3 ?_)
  refine aw_loop_at [5, 7, 10, 11, 12, 13, 14, 15, 16, 17, 18, 19, 20, 21, 22, 23, 24, 25] (fun k : Nat => k ≤ l.length) (fun k => l.length - k) (fun k => [(10, .int k), (5, .sl 1 8 100 0 (factsM m.sizes (l.take k)).length)]) (fun k => [(100, ⟨3, (factsM m.sizes (l.take k)).map AV.int, false⟩)]) 0 (by omega) ?_ ?_
  · (refine atS ?_)
    (exact weakS)
  · rintro k hk K hK
    (refine atS ?_)
    have hfk := hfl k hk
    by_cases hlt : k < l.length
    · have ho := hl _ (List.getElem_mem hlt)
      have hin := fact_in hm ho
      obtain ⟨o1, o2, o3, o4⟩ := ho
      have hix : l[k].1.toNat < (basesL m.sizes m.sizes.length).length := by omega
      have hst : factsM m.sizes (l.take (k + 1)) = factsM m.sizes (l.take k) ++ [(basesL m.sizes m.sizes.length)[l[k].1.toNat] + l[k].2] := by
        rw [basesL_at]
        unfold factsM
        rw [List.take_succ_eq_append_getElem hlt, List.map_append]; rfl
      have hbd : 0 ≤ (basesL m.sizes m.sizes.length)[l[k].1.toNat] ∧ (basesL m.sizes m.sizes.length)[l[k].1.toNat] ≤ 1000 := by
        rw [basesL_at]
        have h1 := base_nn hm (k := l[k].1.toNat) (by omega)
        have h2 : ∀ j, j ≤ m.sizes.length → baseK m.sizes j ≤ 6 * j := by
          intro j
          induction j with
          | zero => intro _; simp [baseK]
          | succ j ih =>
            intro hj
            have h1 := ih (by omega)
            have h2 := sz_at hm (k := j) (by omega)
            rw [baseK_succ (by omega)]
            omega
        have := h2 l[k].1.toNat (by omega)
        omega
      have hv6 : l[k].2 ≤ 6 := by have := sz_at hm (k := l[k].1.toNat) (by omega); omega
      
      (repeat' (first | (refine hK _ ?_; clear hK K) | (refine aw_seq (fun K hK => ?_)) | (refine gR ?_; refine regS ?_) | (refine gD 5 ?_; refine drS (.it 0 0 (.it 1 0 (.it 2 0 (.it 3 0 (.it 4 0 (.it 5 0 (.it 6 0 (.it 7 0 (.it 8 0 (.it 9 1 (.it 10 3 (.it 11 1 .nil)))))))))))) [0, 1, 2, 3, 4, 5, 6, 7, 8] ?_) | (refine adx_op (fun K hK => ?_); (first | (refine aopx_pv (pv_fieldAddrF (by rfl) (by rfl) (by first | decide | (simp; done) | (simp; omega))) ?_) | (refine aopx_pv (pv_fieldAddrIF (by rfl) (by rfl) (by first | decide | (simp; done) | (simp; omega))) ?_) | (refine aopx_buildSlice (d := 23) (by exact ⟨by decide, by decide, by decide⟩) (by rfl) (by rfl) (by rfl) (by rfl) ?_))) | (refine And.intro ?_ ?_) | (refine gDx ?_; refine adxS ?_) | (refine ado_op (fun K hK => ?_); (first | (refine appendS ?_) | (refine virtS 14 24 1 8 3 ?_; refine appendS ?_))) | (refine gE ?_; (first | (refine Exists.intro hlt ?_) | (refine exN ?_) | (refine exS (fun _ => ?_)))) | (refine gQ ?_; (first | (refine condT ?_) | (refine condF ?_) | (refine condS (fun hc => ?_) (fun hc => ?_) <;> (try (first | contradiction | (exfalso; omega)))))) | (refine gWd ?_; refine wdrS ?_) | (refine gW ?_; refine wopsS ?_) | (refine aw_block ?_) | (refine gX ?_; refine exitS ?_) | (refine gT ?_; refine retS ?_) | (refine gS ?_; refine skipS ?_) | (apply_assumption (exfalso := false) (symm := false))))
      
      all_goals (refine ⟨k + 1, by omega, by omega, ?_⟩; rw [hst]; (refine atS ?_); (exact weakS))
    · obtain rfl : k = l.length := by omega
      rw [List.take_length]
      (repeat' (first | (refine hK _ ?_; clear hK K) | (refine aw_seq (fun K hK => ?_)) | (refine gR ?_; refine regS ?_) | (refine gD 5 ?_; refine drS (.it 0 0 (.it 1 0 (.it 2 0 (.it 3 0 (.it 4 0 (.it 5 0 (.it 6 0 (.it 7 0 (.it 8 0 (.it 9 1 (.it 10 3 (.it 11 1 .nil)))))))))))) [0, 1, 2, 3, 4, 5, 6, 7, 8] ?_) | (refine adx_op (fun K hK => ?_); (first | (refine aopx_pv (pv_fieldAddrF (by rfl) (by rfl) (by first | decide | (simp; done) | (simp; omega))) ?_) | (refine aopx_pv (pv_fieldAddrIF (by rfl) (by rfl) (by first | decide | (simp; done) | (simp; omega))) ?_) | (refine aopx_buildSlice (d := 23) (by exact ⟨by decide, by decide, by decide⟩) (by rfl) (by rfl) (by rfl) (by rfl) ?_))) | (refine And.intro ?_ ?_) | (refine gDx ?_; refine adxS ?_) | (refine ado_op (fun K hK => ?_); (first | (refine appendS ?_) | (refine virtS 14 24 1 8 3 ?_; refine appendS ?_))) | (refine gE ?_; (first | (refine exN ?_) | (refine exS (fun _ => ?_)))) | (refine gQ ?_; (first | (refine condT ?_) | (refine condF ?_) | (refine condS (fun hc => ?_) (fun hc => ?_) <;> (try (first | contradiction | (exfalso; omega)))))) | (refine gWd ?_; refine wdrS ?_) | (refine gW ?_; refine wopsS ?_) | (refine aw_block ?_) | (refine gX ?_; refine exitS ?_) | (refine gT ?_; refine retS ?_) | (refine gS ?_; refine skipS ?_) | (apply_assumption (exfalso := false) (symm := false))))
      refine fin_sl1 (factsM m.sizes l) rfl (by rfl) (by rfl) rfl (fun _ => rfl) (fun _ => rfl) rfl
/-! multi.Strips -/
/-- Assignments are no more than variables. -/
theorem as_len {m : MTask} {l : List (Int × Int)} (h : asB m l = true) : l.length ≤ m.sizes.length := by
  obtain ⟨h1, h2⟩ := as_ok h
  have key : ∀ (n : Nat) (l : List (Int × Int)), (∀ a ∈ l, 0 ≤ a.1 ∧ a.1 < n) → l.Pairwise (fun a b => a.1 < b.1) → l.length ≤ n := by
    intro n
    induction n with
    | zero =>
      intro l hl _
      match l, hl with
      | [], _ => simp
      | a :: r, hl => have := hl a (by simp); omega
    | succ n ih =>
      intro l hl hp
      rcases List.eq_nil_or_concat l with rfl | ⟨r, a, rfl⟩
      · simp
      · rw [List.concat_eq_append] at *
        rw [List.pairwise_append] at hp
        have ha := hl a (by simp)
        have := ih r (fun b hb => by
          have h1 := hl b (by simp [hb])
          have h2 := hp.2.2 b hb a (by simp)
          omega) hp.1
        rw [List.length_append]; simp; omega
  exact key m.sizes.length l (fun a ha => ⟨(h1 a ha).1, (h1 a ha).2.1⟩) h2
def delP (sz : List Int) (a : Int × Int) (x : Nat) : List Int := ((List.range x).filter fun (y : Nat) => !decide ((y : Int) = a.2)).map fun (y : Nat) => baseK sz a.1.toNat + (y : Int)
theorem delP_succ (sz : List Int) (a : Int × Int) (x : Nat) : delP sz a (x + 1) = delP sz a x ++ if (!decide ((x : Int) = a.2)) = true then [baseK sz a.1.toNat + (x : Int)] else [] := by
  unfold delP
  rw [List.range_succ, List.filter_append, List.map_append, List.filter_cons, List.filter_nil]
  split <;> rfl
theorem delP_len (sz : List Int) (a : Int × Int) (x : Nat) : (delP sz a x).length ≤ x := by
  unfold delP
  rw [List.length_map]
  have := List.length_filter_le (fun (y : Nat) => !decide ((y : Int) = a.2)) (List.range x)
  simpa using this
def delK (sz : List Int) (l : List (Int × Int)) (j x : Nat) : List Int := delM sz (l.take j) ++ delP sz l[j]! x
theorem delK_zero (sz : List Int) (l : List (Int × Int)) (j : Nat) : delK sz l j 0 = delM sz (l.take j) := by simp [delK, delP]
theorem delK_succ {sz : List Int} {l : List (Int × Int)} {j : Nat} (h : j < l.length) (x : Nat) : delK sz l j (x + 1) = delK sz l j x ++ if (!decide ((x : Int) = l[j].2)) = true then [baseK sz l[j].1.toNat + (x : Int)] else [] := by
  unfold delK
  rw [delP_succ, getElem!_pos l j h, List.append_assoc]
theorem delK_all {sz : List Int} {l : List (Int × Int)} {j : Nat} (h : j < l.length) : delK sz l j sz[l[j].1.toNat]!.toNat = delM sz (l.take (j + 1)) := by
  unfold delK delM
  rw [List.take_succ_eq_append_getElem h, List.flatMap_append, getElem!_pos l j h]
  simp [delA, delP]
theorem delM_len {m : MTask} (hm : MValid m) {l : List (Int × Int)} (hl : ∀ a ∈ l, okA m a) : ∀ j, (delM m.sizes (l.take j)).length ≤ 6 * j
  | 0 => by simp [delM]
  | j + 1 => by
    have ih := delM_len hm hl j
    by_cases h : j < l.length
    · rw [← delK_all h]
      unfold delK
      rw [List.length_append]
      have h1 := delP_len m.sizes l[j]! m.sizes[l[j].1.toNat]!.toNat
      have h2 := hl _ (List.getElem_mem h)
      have h3 := sz_at hm (k := l[j].1.toNat) (by have := h2.1; have := h2.2.1; omega)
      omega
    · rw [List.take_of_length_le (by omega)]
      rw [List.take_of_length_le (by omega)] at ih
      omega
def initK (sz s : List Int) (k : Nat) : List Int := (List.range k).map fun (v : Nat) => baseK sz v + s[v]!
theorem initK_len (sz s : List Int) (k : Nat) : (initK sz s k).length = k := by simp [initK]
theorem initK_succ {sz s : List Int} {k : Nat} (h : k < s.length) : initK sz s (k + 1) = initK sz s k ++ [baseK sz k + s[k]] := by
  unfold initK
  rw [List.range_succ, List.map_append]
  simp [h]

theorem strips_pc (m : MTask) : PCall Try.prog 22 [m.av] (fun r => (∃ a b : Int, a ≠ 0 ∧ r = .tup [.agg [.int 0, .nilS, .nilS, .nilS], fault a b]) ∨ (MValid m ∧ baseK m.sizes m.sizes.length ≤ 24 ∧ r = .tup [(stripsT m).av, fault 0 0])) := by
  by_cases hm : MValid m
  · by_cases h24 : baseK m.sizes m.sizes.length ≤ 24
    · refine PCall.mono (Q := fun r => r = .tup [(stripsT m).av, fault 0 0]) ?_ fun r hr => .inr ⟨hm, h24, hr⟩
      have h8 := hm.n8
      have h40 := hm.n40
      have hil := init_len hm
      have hfg := facts_pc m hm m.goal (as_ok hm.goal).1 (by have := as_len hm.goal; omega)
      
      
      
      (refine enterS Try.func22 Try.ntmps22 ?_)
      
      (repeat' (first | (refine hK _ ?_; clear hK K) | (refine aw_seq (fun K hK => ?_)) | (refine gR ?_; refine regS ?_) | (refine gD 3 ?_; refine drE (s1 := ?_) (.it 0 0 (.fkm 1 1 2 3 (.it 2 3 (.it 3 3 .nil)) (.it 1 1 (.it 3 3 .nil)))) [0] ?_ ?_; rotate_left) | (refine gC 39 ?_; refine callS (mvalid_ok m hm) ?_) | (refine gC 40 ?_; refine callS (base_pc m hm) ?_) | (refine gC 41 ?_; refine callS (hfg) ?_) | (refine stk_op (fun K hK => ?_); (first | (refine aop_pv (pv_neq (by rfl) (by rfl)) ?_) | (refine aop_pv (pv_neqB (by rfl) (by rfl)) ?_) | (refine aop_pv (pv_neqA (by rfl) (by rfl) (by kernel_rfl)) ?_) | (refine aop_pv (pv_fieldAddrF (by rfl) (by rfl) (by first | decide | (simp; done) | (simp; omega))) ?_) | (refine aop_pv (pv_fieldAddrIF (by rfl) (by rfl) (by first | decide | (simp; done) | (simp; omega))) ?_))) | (refine And.intro ?_ ?_) | (refine gDx ?_; refine adxS ?_) | (refine gO ?_; refine adoS ?_) | (refine gL ?_; (first | exact Le.refl _ | exact weakS)) | (refine gE ?_; (first | (refine exN ?_) | (refine exS (fun _ => ?_)))) | (refine gQ ?_; (first | (refine condT ?_) | (refine condF ?_) | (refine condS (fun hc => ?_) (fun hc => ?_) <;> (try (first | contradiction | (exfalso; omega)))))) | (refine gWd ?_; refine wdrS ?_) | (refine gW ?_; refine wopsS ?_) | (refine aw_block ?_) | (refine gX ?_; refine exitS ?_) | (refine gT ?_; refine retS ?_) | (refine gS ?_; refine skipS ?_) | (apply_assumption (exfalso := false) (symm := false))))
      have hB : ∀ i (h : i < (basesL m.sizes m.sizes.length).length), (basesL m.sizes m.sizes.length)[i] = baseK m.sizes i := fun i h => basesL_at h
      have hBl := basesL_len m.sizes m.sizes.length
      have hB0 : ∀ i, i ≤ m.sizes.length → 0 ≤ baseK m.sizes i ∧ baseK m.sizes i ≤ 24 := fun i h => ⟨base_nn hm h, by have := base_le hm h (Nat.le_refl _); omega⟩
      have hT : (stripsT m).av = .agg [.int (baseK m.sizes m.sizes.length), ints (initK m.sizes m.init m.init.length), ints (factsM m.sizes m.goal), opsA (m.ops.map (opS m.sizes))] := rfl
      clear hfg
      have hfacts := facts_pc m hm
      generalize basesL m.sizes m.sizes.length = B at *
      generalize baseK m.sizes m.sizes.length = N at *
      generalize factsM m.sizes m.goal = G at *
      (refine aw_le (le_virtH 7 1 101 1 8 3 (by rfl) (by rfl) (by first | rfl | (simp only [go_sem, Nat.reduceAdd, Nat.reduceMul, reduceIte, Nat.reduceEqDiff, Nat.reduceLeDiff, Int.reduceToNat, Int.reducePow, Int.reduceBEq, Int.reduceBNe, Int.reduceLT, Int.reduceLE, decide_true, decide_false]; done) | (simp only [go_sem, Nat.reduceAdd, Nat.reduceMul, reduceIte, Nat.reduceEqDiff, Nat.reduceLeDiff, Int.reduceToNat, Int.reducePow, Int.reduceBEq, Int.reduceBNe, Int.reduceLT, Int.reduceLE, decide_true, decide_false]; rfl) | (simp [St.free, mentHp, AV.mentL, AV.ment]))) ?_; simp only [go_sem, Nat.reduceAdd, Nat.reduceMul, reduceIte, Nat.reduceEqDiff, Nat.reduceLeDiff, Int.reduceToNat, Int.reducePow, Int.reduceBEq, Int.reduceBNe, Int.reduceLT, Int.reduceLE, decide_true, decide_false])
      refine aw_loop_at [8, 9, 42, 43, 44, 45, 46, 47, 48, 49, 50, 51, 52, 53, 54, 55, 56, 57, 58] (fun k : Nat => k ≤ m.init.length) (fun k => m.init.length - k) (fun k => [(42, .int k)]) (fun k => [(1, ⟨50, m.cs, true⟩), (2, ⟨25, [.int 0, .nilS, .nilS, .nilS], true⟩), (3, ⟨27, [.int 0, .int 0], true⟩), (4, ⟨27, [.int 0, .int 0], true⟩), (7, ⟨25, [.int N, .sl 1 8 101 0 (initK m.sizes m.init k).length, ints G, .nilS], true⟩), (101, ⟨3, (initK m.sizes m.init k).map AV.int, false⟩)]) 0 (by omega) ?_ ?_
      · (refine atS ?_)
        (exact weakS)
      · rintro k hk K hK
        (refine atS ?_)
        have hkl := initK_len m.sizes m.init k
        by_cases hlt : k < m.init.length
        · have hst := initK_succ (sz := m.sizes) hlt
          have hkb : k < B.length := by omega
          rw [← hB k hkb] at hst
          have hb0 := hB0 k (by omega)
          rw [← hB k hkb] at hb0
          have hsv := st_ok hm hlt
          rw [getElem!_pos m.init k hlt] at hsv
          have hs6 := sz_at hm (k := k) (by omega)
          
          
          (repeat' (first | (refine hK _ ?_; clear hK K) | (refine aw_seq (fun K hK => ?_)) | (refine gR ?_; refine regS ?_) | (refine gD 11 ?_; refine drS (.it 0 0 (.it 1 0 (.it 2 0 (.it 3 0 (.it 4 0 (.it 5 0 (.it 6 0 (.it 7 0 (.it 8 1 (.it 9 3 (.it 10 1 (.it 11 3 .nil)))))))))))) [0, 1, 2, 3, 4, 5, 6, 7] ?_) | (refine adx_op (fun K hK => ?_); (first | (refine aopx_pv (pv_fieldAddrF (by rfl) (by rfl) (by first | decide | (simp; done) | (simp; omega))) ?_) | (refine aopx_pv (pv_fieldAddrIF (by rfl) (by rfl) (by first | decide | (simp; done) | (simp; omega))) ?_) | (refine aopx_buildSlice (d := 55) (by exact ⟨by decide, by decide, by decide⟩) (by rfl) (by rfl) (by rfl) (by rfl) ?_))) | (refine And.intro ?_ ?_) | (refine gDx ?_; refine adxS ?_) | (refine ado_op (fun K hK => ?_); (first | (refine appendS ?_) | (refine virtS 48 56 1 8 3 ?_; refine appendS ?_))) | (refine gO ?_; refine adoS ?_) | (refine gE ?_; (first | (refine Exists.intro hlt ?_) | (refine Exists.intro hkb ?_) | (refine exN ?_) | (refine exS (fun _ => ?_)))) | (refine gQ ?_; (first | (refine condT ?_) | (refine condF ?_) | (refine condS (fun hc => ?_) (fun hc => ?_) <;> (try (first | contradiction | (exfalso; omega)))))) | (refine gWd ?_; refine wdrS ?_) | (refine gW ?_; refine wopsS ?_) | (refine aw_block ?_) | (refine gX ?_; refine exitS ?_) | (refine gT ?_; refine retS ?_) | (refine gS ?_; refine skipS ?_) | (apply_assumption (exfalso := false) (symm := false))))
          
          all_goals (refine ⟨k + 1, by omega, by omega, ?_⟩; rw [hst]; (refine atS ?_); (exact weakS))
        · obtain rfl : k = m.init.length := by omega
          
          (repeat' (first | (refine hK _ ?_; clear hK K) | (refine aw_seq (fun K hK => ?_)) | (refine gRx 13 (by rfl) ?_; refine regS ?_) | (refine stk_op (fun K hK => ?_); (first | (refine aop_pv (pv_fieldAddrF (by rfl) (by rfl) (by first | decide | (simp; done) | (simp; omega))) ?_) | (refine aop_pv (pv_fieldAddrIF (by rfl) (by rfl) (by first | decide | (simp; done) | (simp; omega))) ?_))) | (refine gE ?_; (first | (refine exN ?_) | (refine exS (fun _ => ?_)))) | (refine gQ ?_; (first | (refine condT ?_) | (refine condF ?_) | (refine condS (fun hc => ?_) (fun hc => ?_) <;> (try (first | contradiction | (exfalso; omega)))))) | (refine gW ?_; refine wopsS ?_) | (refine aw_block ?_) | (refine gX ?_; refine exitS ?_) | (refine gT ?_; refine retS ?_) | (refine gS ?_; refine skipS ?_) | (apply_assumption (exfalso := false) (symm := false))))
          (refine aw_le (le_sealDI 101 (initK m.sizes m.init m.init.length).length (initK m.sizes m.init m.init.length) (by rfl) (by first | rfl | simp)) ?_; simp only [go_sem, Nat.reduceAdd, Nat.reduceMul, reduceIte, Nat.reduceEqDiff, Nat.reduceLeDiff, Int.reduceToNat, Int.reducePow, Int.reduceBEq, Int.reduceBNe, Int.reduceLT, Int.reduceLE, decide_true, decide_false])
          (repeat' (first | (refine hK _ ?_; clear hK K) | (refine aw_seq (fun K hK => ?_)) | (refine gR ?_; refine regS ?_) | (refine stk_op (fun K hK => ?_); (first | (refine aop_pv (pv_fieldAddrF (by rfl) (by rfl) (by first | decide | (simp; done) | (simp; omega))) ?_) | (refine aop_pv (pv_fieldAddrIF (by rfl) (by rfl) (by first | decide | (simp; done) | (simp; omega))) ?_))) | (refine gE ?_; (first | (refine exN ?_) | (refine exS (fun _ => ?_)))) | (refine gQ ?_; (first | (refine condT ?_) | (refine condF ?_) | (refine condS (fun hc => ?_) (fun hc => ?_) <;> (try (first | contradiction | (exfalso; omega)))))) | (refine gW ?_; refine wopsS ?_) | (refine aw_block ?_) | (refine gX ?_; refine exitS ?_) | (refine gT ?_; refine retS ?_) | (refine gS ?_; refine skipS ?_) | (apply_assumption (exfalso := false) (symm := false))))
          generalize initK m.sizes m.init m.init.length = I at *
          (refine aw_le (le_virtH 7 3 103 4 80 55 (by rfl) (by rfl) (by first | rfl | (simp only [go_sem, Nat.reduceAdd, Nat.reduceMul, reduceIte, Nat.reduceEqDiff, Nat.reduceLeDiff, Int.reduceToNat, Int.reducePow, Int.reduceBEq, Int.reduceBNe, Int.reduceLT, Int.reduceLE, decide_true, decide_false]; done) | (simp only [go_sem, Nat.reduceAdd, Nat.reduceMul, reduceIte, Nat.reduceEqDiff, Nat.reduceLeDiff, Int.reduceToNat, Int.reducePow, Int.reduceBEq, Int.reduceBNe, Int.reduceLT, Int.reduceLE, decide_true, decide_false]; rfl) | (simp [St.free, mentHp, AV.mentL, AV.ment]))) ?_; simp only [go_sem, Nat.reduceAdd, Nat.reduceMul, reduceIte, Nat.reduceEqDiff, Nat.reduceLeDiff, Int.reduceToNat, Int.reducePow, Int.reduceBEq, Int.reduceBNe, Int.reduceLT, Int.reduceLE, decide_true, decide_false])
          have hol : (m.ops.map (opS m.sizes)).length = m.ops.length := List.length_map _
          have hoi : ∀ i (h : i < m.ops.length), (m.ops.map (opS m.sizes)).take (i + 1) = (m.ops.map (opS m.sizes)).take i ++ [opS m.sizes m.ops[i]] := fun i h => by
            rw [← List.map_take, List.take_succ_eq_append_getElem h, List.map_append, List.map_take]; rfl
          refine aw_loop_at [11, 12, 14, 15, 62, 63, 64, 65, 66, 67, 68, 69, 70, 71, 72, 73, 74, 75, 76, 77, 78, 79, 80, 81, 82, 83, 84, 85, 86, 87, 88, 89, 90, 91, 92, 93, 94, 95, 96, 97, 98, 99, 100, 101, 102, 103, 104, 105, 106, 107, 108, 109, 110, 111, 112, 113, 114, 115, 116, 117] (fun i : Nat => i ≤ m.ops.length) (fun i => m.ops.length - i) (fun i => [(62, .int i)]) (fun i => [(1, ⟨50, m.cs, true⟩), (2, ⟨25, [.int 0, .nilS, .nilS, .nilS], true⟩), (3, ⟨27, [.int 0, .int 0], true⟩), (4, ⟨27, [.int 0, .int 0], true⟩), (7, ⟨25, [.int N, ints I, ints G, .sl 4 80 103 0 i], true⟩), (103, ⟨55, ((m.ops.map (opS m.sizes)).take i).flatMap opc, false⟩)]) 0 (by omega) ?_ ?_
          · (refine atS ?_)
            (exact weakS)
          · rintro i hi K hK
            (refine atS ?_)
            by_cases hit : i < m.ops.length
            · obtain ⟨a1, a2, a3, a4⟩ := hm.ops _ (List.getElem_mem hit)
              obtain ⟨p1, p2⟩ := as_ok a2
              have hpl := as_len a2
              have hql := as_len a1
              have hf1 := hfacts m.ops[i].pre (as_ok a1).1 (by omega)
              have hf2 := hfacts m.ops[i].post p1 (by omega)
              have hos := hoi i hit
              have hoS : opS m.sizes m.ops[i] = ⟨factsM m.sizes m.ops[i].pre, factsM m.sizes m.ops[i].post, delM m.sizes m.ops[i].post, m.ops[i].cost⟩ := rfl
              rw [hoS] at hos
              clear hoS
              
              
              
              generalize factsM m.sizes m.ops[i].pre = FP at *
              generalize factsM m.sizes m.ops[i].post = FA at *
              
              
              (repeat' (first | (refine hK _ ?_; clear hK K) | (refine aw_seq (fun K hK => ?_)) | (refine gR ?_; refine regS ?_) | (refine gD 16 ?_; refine drE (s1 := ?_) (.it 0 0 (.it 1 0 (.it 2 0 (.it 4 0 (.it 5 0 (.it 6 0 (.it 8 0 (.it 9 0 (.fk 3 11 (.fk 7 11 (.it 10 0 (.it 11 1 (.it 12 3 .nil))) (.it 7 1 (.it 10 0 (.it 12 3 .nil)))) (.it 3 1 (.it 7 1 (.it 10 0 (.it 12 3 .nil))))))))))))) [0, 1, 2, 4, 5, 6, 8, 9, 10] ?_ ?_; rotate_left) | (refine gCd 41 ?_; refine callD (hf1) ?_) | (refine gCd 41 ?_; refine callD (hf2) ?_) | (refine stk_op (fun K hK => ?_); (first | (refine aop_pv (pv_fieldAddrF (by rfl) (by rfl) (by first | decide | (simp; done) | (simp; omega))) ?_) | (refine aop_pv (pv_fieldAddrIF (by rfl) (by rfl) (by first | decide | (simp; done) | (simp; omega))) ?_))) | (refine adx_op (fun K hK => ?_); (first | (refine aopx_pv (pv_fieldAddrF (by rfl) (by rfl) (by first | decide | (simp; done) | (simp; omega))) ?_) | (refine aopx_pv (pv_fieldAddrIF (by rfl) (by rfl) (by first | decide | (simp; done) | (simp; omega))) ?_) | (refine aopx_alloc (d := 12) 12 (by first | rfl | (simp only [go_sem, Nat.reduceAdd, Nat.reduceMul, reduceIte, Nat.reduceEqDiff, Nat.reduceLeDiff, Int.reduceToNat, Int.reducePow, Int.reduceBEq, Int.reduceBNe, Int.reduceLT, Int.reduceLE, decide_true, decide_false]; done) | (simp only [go_sem, Nat.reduceAdd, Nat.reduceMul, reduceIte, Nat.reduceEqDiff, Nat.reduceLeDiff, Int.reduceToNat, Int.reducePow, Int.reduceBEq, Int.reduceBNe, Int.reduceLT, Int.reduceLE, decide_true, decide_false]; rfl) | (simp [St.free, mentHp, AV.mentL, AV.ment])) ?_))) | (refine And.intro ?_ ?_) | (refine gDx ?_; refine adxS ?_) | (refine gO ?_; refine adoS ?_) | (refine gL ?_; (first | exact Le.refl _ | exact weakS)) | (refine gE ?_; (first | (refine Exists.intro hit ?_) | (refine exN ?_) | (refine exS (fun _ => ?_)))) | (refine gQ ?_; (first | (refine condT ?_) | (refine condF ?_) | (refine condS (fun hc => ?_) (fun hc => ?_) <;> (try (first | contradiction | (exfalso; omega)))))) | (refine gWd ?_; refine wdrS ?_) | (refine gW ?_; refine wopsS ?_) | (refine aw_block ?_) | (refine gX ?_; refine exitS ?_) | (refine gT ?_; refine retS ?_) | (refine gS ?_; refine skipS ?_) | (apply_assumption (exfalso := false) (symm := false))))
              
              generalize m.ops[i].post = P at *
              (refine aw_le (le_virtH 12 2 102 1 8 3 (by rfl) (by rfl) (by first | rfl | (simp only [go_sem, Nat.reduceAdd, Nat.reduceMul, reduceIte, Nat.reduceEqDiff, Nat.reduceLeDiff, Int.reduceToNat, Int.reducePow, Int.reduceBEq, Int.reduceBNe, Int.reduceLT, Int.reduceLE, decide_true, decide_false]; done) | (simp only [go_sem, Nat.reduceAdd, Nat.reduceMul, reduceIte, Nat.reduceEqDiff, Nat.reduceLeDiff, Int.reduceToNat, Int.reducePow, Int.reduceBEq, Int.reduceBNe, Int.reduceLT, Int.reduceLE, decide_true, decide_false]; rfl) | (simp [St.free, mentHp, AV.mentL, AV.ment]))) ?_; simp only [go_sem, Nat.reduceAdd, Nat.reduceMul, reduceIte, Nat.reduceEqDiff, Nat.reduceLeDiff, Int.reduceToNat, Int.reducePow, Int.reduceBEq, Int.reduceBNe, Int.reduceLT, Int.reduceLE, decide_true, decide_false])
              refine aw_loop_at [14, 15, 80, 81, 82, 83, 84, 85, 86, 87, 88, 89, 90, 91, 92, 93, 94, 95, 96, 97, 98, 99, 100, 101, 102, 103, 104, 105, 106, 107, 108, 109, 110] (fun j : Nat => j ≤ P.length) (fun j => P.length - j) (fun j => [(80, .int j)]) (fun j => [(1, ⟨50, m.cs, true⟩), (2, ⟨25, [.int 0, .nilS, .nilS, .nilS], true⟩), (3, ⟨27, [.int 0, .int 0], true⟩), (4, ⟨27, [.int 0, .int 0], true⟩), (7, ⟨25, [.int N, ints I, ints G, .sl 4 80 103 0 i], true⟩), (103, ⟨55, ((m.ops.map (opS m.sizes)).take i).flatMap opc, false⟩), (12, ⟨55, [ints FP, ints FA, .sl 1 8 102 0 (delM m.sizes (P.take j)).length, .int m.ops[i].cost], true⟩), (102, ⟨3, (delM m.sizes (P.take j)).map AV.int, false⟩)]) 0 (by omega) ?_ ?_
              · (refine atS ?_)
                (exact weakS)
              · rintro j hj K hK
                (refine atS ?_)
                by_cases hjt : j < P.length
                · obtain ⟨q1, q2, q3, q4⟩ := p1 _ (List.getElem_mem hjt)
                  have hdl := delM_len hm p1 j
                  have hall := delK_all (sz := m.sizes) hjt
                  have hsu := fun x => delK_succ (sz := m.sizes) hjt x
                  have hz := delK_zero m.sizes P j
                  have hxb : P[j].1.toNat < B.length := by omega
                  have hxs : P[j].1.toNat < m.sizes.length := by omega
                  have hsz := sz_at hm hxs
                  rw [← hB _ hxb] at hsu
                  have hb0 := hB0 P[j].1.toNat (by omega)
                  rw [← hB _ hxb] at hb0
                  rw [getElem!_pos m.sizes _ hxs] at hall hsz q4
                  have hkl : ∀ x, (delK m.sizes P j x).length ≤ 6 * j + x := fun x => by
                    unfold delK
                    rw [List.length_append]
                    have := delP_len m.sizes P[j]! x
                    omega
                  rw [← hz]
                  clear hz hdl
                  
                  
                  (repeat' (first | (refine hK _ ?_; clear hK K) | (refine aw_seq (fun K hK => ?_)) | (refine gR ?_; refine regS ?_) | (refine stk_op (fun K hK => ?_); (first | (refine aop_pv (pv_fieldAddrF (by rfl) (by rfl) (by first | decide | (simp; done) | (simp; omega))) ?_) | (refine aop_pv (pv_fieldAddrIF (by rfl) (by rfl) (by first | decide | (simp; done) | (simp; omega))) ?_))) | (refine gE ?_; (first | (refine Exists.intro hjt ?_) | (refine Exists.intro hxs ?_) | (refine exN ?_) | (refine exS (fun _ => ?_)))) | (refine gQ ?_; (first | (refine condT ?_) | (refine condF ?_) | (refine condS (fun hc => ?_) (fun hc => ?_) <;> (try (first | contradiction | (exfalso; omega)))))) | (refine gW ?_; refine wopsS ?_) | (refine aw_block ?_) | (refine gX ?_; refine exitS ?_) | (refine gT ?_; refine retS ?_) | (refine gS ?_; refine skipS ?_) | (apply_assumption (exfalso := false) (symm := false))))
                  
                  generalize m.sizes[P[j].1.toNat] = S at *
                  refine aw_loop_at [15, 90, 91, 92, 93, 94, 95, 96, 97, 98, 99, 100, 101, 102, 103, 104, 105, 106, 107, 108, 109] (fun x : Nat => (x : Int) ≤ S) (fun x => S.toNat - x) (fun x => [(90, .int x)]) (fun x => [(1, ⟨50, m.cs, true⟩), (2, ⟨25, [.int 0, .nilS, .nilS, .nilS], true⟩), (3, ⟨27, [.int 0, .int 0], true⟩), (4, ⟨27, [.int 0, .int 0], true⟩), (7, ⟨25, [.int N, ints I, ints G, .sl 4 80 103 0 i], true⟩), (103, ⟨55, ((m.ops.map (opS m.sizes)).take i).flatMap opc, false⟩), (12, ⟨55, [ints FP, ints FA, .sl 1 8 102 0 (delK m.sizes P j x).length, .int m.ops[i].cost], true⟩), (102, ⟨3, (delK m.sizes P j x).map AV.int, false⟩), (14, ⟨73, [.int P[j].1, .int P[j].2], true⟩)]) 0 (by omega) ?_ ?_
                  · (refine atS ?_)
                    (exact weakS)
                  · rintro x hx K hK
                    (refine atS ?_)
                    by_cases hxt : (x : Int) < S
                    · have hsx := hsu x
                      have hkx := hkl x
                      
                      
                      (repeat' (first | (refine hK _ ?_; clear hK K) | (refine aw_seq (fun K hK => ?_)) | (refine gR ?_; refine regS ?_) | (refine gD 24 ?_; refine drS (.it 0 0 (.it 1 0 (.it 2 0 (.it 3 0 (.it 4 0 (.it 5 0 (.it 6 0 (.it 7 0 (.it 8 0 (.it 9 1 (.it 10 3 (.it 11 1 (.it 12 3 .nil))))))))))))) [0, 1, 2, 3, 4, 5, 6, 7, 8] ?_) | (refine stk_op (fun K hK => ?_); (first | (refine aop_pv (pv_fieldAddrF (by rfl) (by rfl) (by first | decide | (simp; done) | (simp; omega))) ?_) | (refine aop_pv (pv_fieldAddrIF (by rfl) (by rfl) (by first | decide | (simp; done) | (simp; omega))) ?_) | (refine aop_pv (pv_neq (by rfl) (by rfl)) ?_) | (refine aop_pv (pv_neqB (by rfl) (by rfl)) ?_) | (refine aop_pv (pv_neqA (by rfl) (by rfl) (by kernel_rfl)) ?_))) | (refine adx_op (fun K hK => ?_); (first | (refine aopx_pv (pv_fieldAddrF (by rfl) (by rfl) (by first | decide | (simp; done) | (simp; omega))) ?_) | (refine aopx_pv (pv_fieldAddrIF (by rfl) (by rfl) (by first | decide | (simp; done) | (simp; omega))) ?_) | (refine aopx_buildSlice (d := 106) (by exact ⟨by decide, by decide, by decide⟩) (by rfl) (by rfl) (by rfl) (by rfl) ?_))) | (refine And.intro ?_ ?_) | (refine gDx ?_; refine adxS ?_) | (refine ado_op (fun K hK => ?_); (first | (refine appendS ?_) | (refine virtS 98 107 1 8 3 ?_; refine appendS ?_))) | (refine gO ?_; refine adoS ?_) | (refine gE ?_; (first | (refine Exists.intro hxb ?_) | (refine Exists.intro hjt ?_) | (refine exN ?_) | (refine exS (fun _ => ?_)))) | (refine gQ ?_; (first | (refine condT ?_) | (refine condF ?_) | (refine condS (fun hc => ?_) (fun hc => ?_) <;> (try (first | contradiction | (exfalso; omega)))))) | (refine gWd ?_; refine wdrS ?_) | (refine gW ?_; refine wopsS ?_) | (refine aw_block ?_) | (refine gX ?_; refine exitS ?_) | (refine gT ?_; refine retS ?_) | (refine gS ?_; refine skipS ?_) | (apply_assumption (exfalso := false) (symm := false))))
                      
                      all_goals (refine ⟨x + 1, by omega, by omega, ?_⟩)
                      all_goals first
                        | (rw [hsx, if_pos (by simp [*]; done)]; (refine atS ?_); (exact weakS); done)
                        | (rw [hsx, if_neg (by simp [*]; done), List.append_nil]; (refine atS ?_); (exact weakS); done)
                    · obtain rfl : x = S.toNat := by omega
                      rw [hall]
                      
                      (repeat' (first | (refine hK _ ?_; clear hK K) | (refine aw_seq (fun K hK => ?_)) | (refine gR ?_; refine regS ?_) | (refine gE ?_; (first | (refine exN ?_) | (refine exS (fun _ => ?_)))) | (refine gQ ?_; (first | (refine condT ?_) | (refine condF ?_) | (refine condS (fun hc => ?_) (fun hc => ?_) <;> (try (first | contradiction | (exfalso; omega)))))) | (refine gW ?_; refine wopsS ?_) | (refine aw_block ?_) | (refine gX ?_; refine exitS ?_) | (refine gT ?_; refine retS ?_) | (refine gS ?_; refine skipS ?_) | (apply_assumption (exfalso := false) (symm := false))))
                      (refine ⟨j + 1, by omega, by omega, ?_⟩; (refine atS ?_); (exact weakS))
                · obtain rfl : j = P.length := by omega
                  rw [List.take_length]
                  
                  (repeat' (first | (refine hK _ ?_; clear hK K) | (refine aw_seq (fun K hK => ?_)) | (refine gRx 27 (by rfl) ?_; refine regS ?_) | (refine stk_op (fun K hK => ?_); (first | (refine aop_pv (pv_fieldAddrF (by rfl) (by rfl) (by first | decide | (simp; done) | (simp; omega))) ?_) | (refine aop_pv (pv_fieldAddrIF (by rfl) (by rfl) (by first | decide | (simp; done) | (simp; omega))) ?_) | (refine appendS ?_) | (refine virtS 112 115 4 80 55 ?_; refine appendS ?_))) | (refine gE ?_; (first | (refine exN ?_) | (refine exS (fun _ => ?_)))) | (refine gQ ?_; (first | (refine condT ?_) | (refine condF ?_) | (refine condS (fun hc => ?_) (fun hc => ?_) <;> (try (first | contradiction | (exfalso; omega)))))) | (refine gW ?_; refine wopsS ?_) | (refine aw_block ?_) | (refine gX ?_; refine exitS ?_) | (refine gT ?_; refine retS ?_) | (refine gS ?_; refine skipS ?_) | (apply_assumption (exfalso := false) (symm := false))))
                  (refine aw_le (le_sealDI 102 (delM m.sizes P).length (delM m.sizes P) (by rfl) (by first | rfl | simp)) ?_; simp only [go_sem, Nat.reduceAdd, Nat.reduceMul, reduceIte, Nat.reduceEqDiff, Nat.reduceLeDiff, Int.reduceToNat, Int.reducePow, Int.reduceBEq, Int.reduceBNe, Int.reduceLT, Int.reduceLE, decide_true, decide_false])
                  
                  (repeat' (first | (refine hK _ ?_; clear hK K) | (refine aw_seq (fun K hK => ?_)) | (refine gR ?_; refine regS ?_) | (refine stk_op (fun K hK => ?_); (first | ((refine appendS ?_; simp only [go_sem, Nat.reduceAdd, Nat.reduceMul, reduceIte, Nat.reduceEqDiff, Nat.reduceLeDiff, Int.reduceToNat, Int.reducePow, Int.reduceBEq, Int.reduceBNe, Int.reduceLT, Int.reduceLE, decide_true, decide_false, Nat.reduceBEq, Bool.or_self, Bool.or_true, Bool.true_or, Bool.or_false, Bool.false_or, Bool.and_true, Bool.true_and, Bool.and_false, Bool.false_and, Bool.and_self, Bool.not_true, Bool.not_false, List.cons_append, List.nil_append, List.append_nil, if_true, if_false, Bool.false_eq_true, keysH])) | (refine aop_pv (pv_fieldAddrF (by rfl) (by rfl) (by first | decide | (simp; done) | (simp; omega))) ?_) | (refine aop_pv (pv_fieldAddrIF (by rfl) (by rfl) (by first | decide | (simp; done) | (simp; omega))) ?_) | (refine appendS ?_) | (refine virtS 112 115 4 80 55 ?_; refine appendS ?_))) | (refine gE ?_; (first | (refine exN ?_) | (refine exS (fun _ => ?_)))) | (refine gQ ?_; (first | (refine condT ?_) | (refine condF ?_) | (refine condS (fun hc => ?_) (fun hc => ?_) <;> (try (first | contradiction | (exfalso; omega)))))) | (refine gW ?_; refine wopsS ?_) | (refine aw_block ?_) | (refine gX ?_; refine exitS ?_) | (refine gT ?_; refine retS ?_) | (refine gS ?_; refine skipS ?_) | (apply_assumption (exfalso := false) (symm := false))))
                  refine ⟨i + 1, by omega, by omega, ?_⟩
                  rw [hos, List.flatMap_append, List.flatMap_cons, List.flatMap_nil, List.append_nil]
                  (refine atS ?_)
                  (exact weakS)
            · obtain rfl : i = m.ops.length := by omega
              rw [← hol, List.take_length]
              
              (repeat' (first | (refine hK _ ?_; clear hK K) | (refine aw_seq (fun K hK => ?_)) | (refine gRx 29 (by rfl) ?_; refine regS ?_) | (refine gE ?_; (first | (refine exN ?_) | (refine exS (fun _ => ?_)))) | (refine gQ ?_; (first | (refine condT ?_) | (refine condF ?_) | (refine condS (fun hc => ?_) (fun hc => ?_) <;> (try (first | contradiction | (exfalso; omega)))))) | (refine gW ?_; refine wopsS ?_) | (refine aw_block ?_) | (refine gX ?_; refine exitS ?_) | (refine gT ?_; refine retS ?_) | (refine gS ?_; refine skipS ?_) | (apply_assumption (exfalso := false) (symm := false))))
              (refine aw_le (le_sealDM (f := Op.av) 103 4 80 (m.ops.map (opS m.sizes)).length (m.ops.map (opS m.sizes)) (by rfl) (opc_flat _) (by first | rfl | simp) (fun _ => rfl) (fun _ => rfl) (by omega)) ?_; try simp only [go_sem, Nat.reduceAdd, Nat.reduceMul, reduceIte, Nat.reduceEqDiff, Nat.reduceLeDiff, Int.reduceToNat, Int.reducePow, Int.reduceBEq, Int.reduceBNe, Int.reduceLT, Int.reduceLE, decide_true, decide_false])
              
              (repeat' (first | (refine hK _ ?_; clear hK K) | (refine aw_seq (fun K hK => ?_)) | (refine gR ?_; refine regS ?_) | (refine gE ?_; (first | (refine exN ?_) | (refine exS (fun _ => ?_)))) | (refine gQ ?_; (first | (refine condT ?_) | (refine condF ?_) | (refine condS (fun hc => ?_) (fun hc => ?_) <;> (try (first | contradiction | (exfalso; omega)))))) | (refine gW ?_; refine wopsS ?_) | (refine aw_block ?_) | (refine gX ?_; refine exitS ?_) | (refine gT ?_; refine retS ?_) | (refine gS ?_; refine skipS ?_) | (apply_assumption (exfalso := false) (symm := false))))
              (refine fin_le (Le.refl _) (rv_two (rv1_cell (by first | exact pv_load (by rfl) (by rfl) (by rfl) (by rfl) | exact pv_loadA (by rfl) (by rfl) (by rfl) (by first | decide | simp))) (rv1_cell (by first | exact pv_load (by rfl) (by rfl) (by rfl) (by rfl) | exact pv_loadA (by rfl) (by rfl) (by rfl) (by first | decide | simp)))) (by first | rfl | (simp only [go_sem, Nat.reduceAdd, Nat.reduceMul, reduceIte, Nat.reduceEqDiff, Nat.reduceLeDiff, Int.reduceToNat, Int.reducePow, Int.reduceBEq, Int.reduceBNe, Int.reduceLT, Int.reduceLE, decide_true, decide_false])) ?_)
              rw [hT]
              rfl
    · 
      
      
      (refine enterS Try.func22 Try.ntmps22 ?_)
      
      (repeat' (first | (refine hK _ ?_; clear hK K) | (refine aw_seq (fun K hK => ?_)) | (refine gR ?_; refine regS ?_) | (refine gD 3 ?_; refine drE (s1 := ?_) (.it 0 0 (.fkm 1 1 2 3 (.it 2 3 (.it 3 3 .nil)) (.it 1 1 (.it 3 3 .nil)))) [0] ?_ ?_; rotate_left) | (refine gC 39 ?_; refine callS (mvalid_ok m hm) ?_) | (refine gC 40 ?_; refine callS (base_pc m hm) ?_) | (refine stk_op (fun K hK => ?_); (first | (refine aop_pv (pv_neq (by rfl) (by rfl)) ?_) | (refine aop_pv (pv_neqB (by rfl) (by rfl)) ?_) | (refine aop_pv (pv_neqA (by rfl) (by rfl) (by kernel_rfl)) ?_) | (refine aop_pv (pv_fieldAddrF (by rfl) (by rfl) (by first | decide | (simp; done) | (simp; omega))) ?_) | (refine aop_pv (pv_fieldAddrIF (by rfl) (by rfl) (by first | decide | (simp; done) | (simp; omega))) ?_))) | (refine And.intro ?_ ?_) | (refine gDx ?_; refine adxS ?_) | (refine gO ?_; refine adoS ?_) | (refine gL ?_; (first | exact Le.refl _ | exact weakS)) | (refine gE ?_; (first | (refine exN ?_) | (refine exS (fun _ => ?_)))) | (refine gQ ?_; (first | (refine condT ?_) | (refine condF ?_) | (refine condS (fun hc => ?_) (fun hc => ?_) <;> (try (first | contradiction | (exfalso; omega)))))) | (refine gWd ?_; refine wdrS ?_) | (refine gW ?_; refine wopsS ?_) | (refine aw_block ?_) | (refine gX ?_; refine exitS ?_) | (refine gT ?_; refine retS ?_) | (refine gS ?_; refine skipS ?_) | (apply_assumption (exfalso := false) (symm := false))))
      (refine fin_le (Le.refl _) (rv_two (rv1_cell (by first | exact pv_load (by rfl) (by rfl) (by rfl) (by rfl) | exact pv_loadA (by rfl) (by rfl) (by rfl) (by first | decide | simp))) (rv1_cell (by first | exact pv_load (by rfl) (by rfl) (by rfl) (by rfl) | exact pv_loadA (by rfl) (by rfl) (by rfl) (by first | decide | simp)))) (by first | rfl | (simp only [go_sem, Nat.reduceAdd, Nat.reduceMul, reduceIte, Nat.reduceEqDiff, Nat.reduceLeDiff, Int.reduceToNat, Int.reducePow, Int.reduceBEq, Int.reduceBNe, Int.reduceLT, Int.reduceLE, decide_true, decide_false])) ?_)
      exact .inl ⟨10, -8, by decide, rfl⟩
  · have hv : PCall Try.prog 39 [m.av] (fun r => ∃ a b : Int, a ≠ 0 ∧ r = fault a b) := (mval_pc m).mono fun r h => h.elim (fun h => h) fun h => absurd h.1 hm
    
    
    (refine enterS Try.func22 Try.ntmps22 ?_)
    
    (repeat' (first | (refine hK _ ?_; clear hK K) | (refine aw_seq (fun K hK => ?_)) | (refine gR ?_; refine regS ?_) | (refine gD 3 ?_; refine drE (s1 := ?_) (.it 0 0 (.fkm 1 1 2 3 (.it 2 3 (.it 3 3 .nil)) (.it 1 1 (.it 3 3 .nil)))) [0] ?_ ?_; rotate_left) | (refine stk_op (fun K hK => ?_); (first | (refine aop_call (hv) (by rfl) (fun x hx => ?_); obtain ⟨a, b, hab, rfl⟩ := hx) | (refine aop_pv (pv_neq (by rfl) (by rfl)) ?_) | (refine aop_pv (pv_neqB (by rfl) (by rfl)) ?_) | (refine aop_pv (pv_neqA (by rfl) (by rfl) (by kernel_rfl)) ?_))) | (refine And.intro ?_ ?_) | (refine gDx ?_; refine adxS ?_) | (refine gO ?_; refine adoS ?_) | (refine gL ?_; (first | exact Le.refl _ | exact weakS)) | (refine gE ?_; (first | (refine exN ?_) | (refine exS (fun _ => ?_)))) | (refine gQ ?_; (first | (refine condT ?_) | (refine condF ?_) | (refine condS (fun hc => ?_) (fun hc => ?_) <;> (try (first | contradiction | (exfalso; omega)))))) | (refine gWd ?_; refine wdrS ?_) | (refine gW ?_; refine wopsS ?_) | (refine aw_block ?_) | (refine gX ?_; refine exitS ?_) | (refine gT ?_; refine retS ?_) | (refine gS ?_; refine skipS ?_) | (apply_assumption (exfalso := false) (symm := false))))
    all_goals (refine fin_le (Le.refl _) (rv_two (rv1_cell (by first | exact pv_load (by rfl) (by rfl) (by rfl) (by rfl) | exact pv_loadA (by rfl) (by rfl) (by rfl) (by first | decide | simp))) (rv1_cell (by first | exact pv_load (by rfl) (by rfl) (by rfl) (by rfl) | exact pv_loadA (by rfl) (by rfl) (by rfl) (by first | decide | simp)))) (by first | rfl | (simp only [go_sem, Nat.reduceAdd, Nat.reduceMul, reduceIte, Nat.reduceEqDiff, Nat.reduceLeDiff, Int.reduceToNat, Int.reducePow, Int.reduceBEq, Int.reduceBNe, Int.reduceLT, Int.reduceLE, decide_true, decide_false])) ?_)
    all_goals exact .inl ⟨a, b, hab, rfl⟩


end Go.Proofs.Ytokmhfjledbglaa
