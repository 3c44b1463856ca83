import Derived.Test.YthdlckclpmfidaaCms


namespace Go.Proofs.Ythdlckclpmfidaa
open Go.Ab
open Go
set_option linter.unusedSimpArgs false
set_option linter.unusedVariables false
set_option maxRecDepth 10000
attribute [local irreducible] PV AOp AOps AW PCall OCall MCall WCall HCall Ab.Fin OFin OFin2 MFin HFin RV RV1 Le AStk AGrd ADr ADx ADo AOpX AAny AOpsI wops wdr wgd wdt
set_option maxHeartbeats 4000000
/-! the reference: rounds until nothing is added -/
structure WB (t : Task) (s : List Int) (p : Int) (l : List Int) : Prop where
  nd : l.Nodup
  rg : InR l t.ops.length
  ins : ∀ x ∈ l, InS t s p x.toNat
  seed : ∀ i : Nat, i < t.ops.length → hasB (t.ops[i]!).add p = true → (i : Int) ∈ l
structure WI (t : Task) (s : List Int) (p : Int) (m0 : Nat) (a : Bool) (l : List Int) (i k : Nat) : Prop where
  b : WB t s p l
  len : m0 ≤ l.length
  up : a = true → m0 < l.length
  cl : a = false → ∀ j m : Nat, (j : Int) ∈ l → m < t.ops.length → (j < i ∨ j = i ∧ m < k) → dueB t s j m = true → (m : Int) ∈ l
theorem WB.start {t : Task} {s l : List Int} {p : Int} (h : WB t s p l) : WI t s p l.length false l 0 0 := ⟨h, Nat.le_refl _, fun h => (by cases h), fun _ j m _ _ h => by omega⟩
theorem WI.add {t : Task} {s l : List Int} {p : Int} {m0 i k : Nat} {a : Bool} (h : WI t s p m0 a l i k) (hi : hasB l (i : Int) = true) (hk : k < t.ops.length) (hd : dueB t s i k = true) (hn : hasB l (k : Int) = false) : WI t s p m0 true (l ++ [(k : Int)]) i (k + 1) := by
  rw [hasB_t] at hi
  rw [hasB_f] at hn
  have hl := h.len
  refine ⟨⟨?_, fun x hx => ?_, fun x hx => ?_, fun j hj hs => List.mem_append.2 (.inl (h.b.seed j hj hs))⟩, by simp; omega, fun _ => (by simp; omega), fun h => (by cases h)⟩
  · rw [List.nodup_append]
    exact ⟨h.b.nd, by simp, fun x hx y hy => by simp at hy; subst hy; rintro rfl; exact hn hx⟩
  · rw [List.mem_append, List.mem_singleton] at hx
    rcases hx with hx | rfl
    · exact h.b.rg x hx
    · omega
  · rw [List.mem_append, List.mem_singleton] at hx
    rcases hx with hx | rfl
    · exact h.b.ins x hx
    · have := h.b.ins _ hi
      exact .step (i := i) (by simpa using this) (by simpa using hk) (by simpa using hd)
theorem WI.keep {t : Task} {s l : List Int} {p : Int} {m0 i k : Nat} {a : Bool} (h : WI t s p m0 a l i k) (hd : dueB t s i k = true → hasB l (k : Int) = true) : WI t s p m0 a l i (k + 1) :=
  ⟨h.b, h.len, h.up, fun ha j m hj hm hjm hdj => by
    by_cases e : j = i ∧ m = k
    · obtain ⟨rfl, rfl⟩ := e
      exact (hasB_t _ _).mp (hd hdj)
    · exact h.cl ha j m hj hm (by omega) hdj⟩
theorem WI.next {t : Task} {s l : List Int} {p : Int} {m0 i : Nat} {a : Bool} (h : WI t s p m0 a l i t.ops.length) : WI t s p m0 a l (i + 1) 0 :=
  ⟨h.b, h.len, h.up, fun ha j m hj hm hjm hdj => h.cl ha j m hj hm (by omega) hdj⟩
theorem WI.skip {t : Task} {s l : List Int} {p : Int} {m0 i : Nat} {a : Bool} (h : WI t s p m0 a l i 0) (hi : hasB l (i : Int) = false) : WI t s p m0 a l (i + 1) 0 :=
  ⟨h.b, h.len, h.up, fun ha j m hj hm hjm hdj => by
    by_cases e : j = i
    · subst e
      rw [hasB_f] at hi
      exact absurd hj hi
    · exact h.cl ha j m hj hm (by omega) hdj⟩
/-- Between the rounds. -/
structure WO (t : Task) (s : List Int) (p : Int) (a : Bool) (l : List Int) : Prop where
  b : WB t s p l
  cl : a = false → ∀ j m : Nat, (j : Int) ∈ l → m < t.ops.length → dueB t s j m = true → (m : Int) ∈ l
theorem WI.out {t : Task} {s l : List Int} {p : Int} {m0 : Nat} {a : Bool} (h : WI t s p m0 a l t.ops.length 0) : WO t s p a l :=
  ⟨h.b, fun ha j m hj hm hd => h.cl ha j m hj hm (.inl (by have := h.b.rg _ hj; omega)) hd⟩
theorem WO.done {t : Task} {s l : List Int} {p : Int} (h : WO t s p false l) (i : Nat) (hi : i < t.ops.length) : hasB l (i : Int) = true ↔ InS t s p i := by
  rw [hasB_t]
  constructor
  · intro hx
    have := h.b.ins _ hx
    simpa using this
  · intro hx
    induction hx with
    | seed hi' hs => exact h.b.seed _ hi' hs
    | @step i k h1 hk hd ih => exact h.cl rfl i k (ih h1.lt) hk hd
open Classical in
theorem stubT_ref {t : Task} {s l : List Int} (hn : ¬ missF s t.goal < 0) (h : WO t s (missF s t.goal) false l) : stubT t s = outK (fun i => hasB l (i : Int) && subB (t.ops[i]!).pre s) t.ops.length := by
  unfold stubT
  rw [if_neg hn]
  refine outK_congr (f := fun i => decide (InS t s (missF s t.goal) i) && subB (t.ops[i]!).pre s) (fun i hi => ?_)
  have := h.done i hi
  congr 1
  rw [Bool.eq_iff_iff, decide_eq_true_eq]
  exact this.symm
theorem bls_setF {l : List Int} {n k : Nat} (h : hasB l (k : Int) = false) : (bls l n).set k false = bls l n := by
  apply List.ext_getElem
  · simp [bls]
  · intro i h1 h2
    rw [List.getElem_set]
    split
    · rename_i e
      subst e
      rw [bls_get (by simpa using h2), h]
    · rfl
theorem outK_not {f : Nat → Bool} {k : Nat} : hasB (outK f k) (k : Int) = false := by
  rw [hasB_f]
  intro h
  have := upTo_mem.1 (List.mem_filter.1 h).1
  omega
theorem outK_start {t : Task} {s : List Int} {p : Int} : WB t s p (outK (fun i => hasB (t.ops[i]!).add p) t.ops.length) := by
  refine ⟨?_, fun x hx => upTo_mem.1 (List.mem_filter.1 hx).1, fun x hx => ?_, fun i hi h => List.mem_filter.2 ⟨upTo_mem.2 (by omega), by simpa using h⟩⟩
  · exact List.Pairwise.filter _ ((upTo_sorted _).imp fun h => by omega)
  · have h1 := upTo_mem.1 (List.mem_filter.1 hx).1
    exact .seed (by omega) (by simpa using (List.mem_filter.1 hx).2)
@[local go_sem] theorem cast_0U : ((0:Nat):Int) = 0 := rfl

theorem ref_pc (t : Task) (s : List Int) (hw : WfT t) : PCall Try.prog 15 [t.av, ints s] (fun r => r = ints (stubT t s)) := by
  have hmg := lacking_pc s t.goal
  have h40 := hw.n40
  by_cases hneg : missF s t.goal < 0
  · 
    have e : stubT t s = [] := by unfold stubT; rw [if_pos hneg]
    rw [e]
    (refine enterS Try.func15 Try.ntmps15 ?_)
    (repeat' (first | (refine hK _ ?_; clear hK K) | (refine aw_seq (fun K hK => ?_)) | (refine gR ?_; refine regS ?_) | (refine gC 37 ?_; refine callS (hmg) ?_) | (refine gE ?_; refine exN ?_) | (refine gQ ?_; refine condS (fun hc => ?_) (fun hc => ?_) <;> (try (first | contradiction | (exfalso; omega)))) | (refine gT ?_; refine retS ?_)))
    refine fin_weak (le_aleF 4 rfl (ALe.nil 1 8)) ?_
    (refine fin_le (Le.refl _) (rv_one (rv1_tmp (by rfl))) (by first | rfl | (simp only [go_sem, Nat.reduceAdd, Nat.reduceMul, reduceIte, Nat.reduceEqDiff, Nat.reduceLeDiff, Int.reduceToNat, Int.reducePow, Int.reduceBEq, Int.reduceBNe, Int.reduceLT, Int.reduceLE, decide_true, decide_false])) ?_)
    rfl
  · obtain ⟨p, hp⟩ : ∃ p, missF s t.goal = p := ⟨_, rfl⟩
    obtain ⟨n, hn⟩ : ∃ n, t.ops.length = n := ⟨_, rfl⟩
    have hst := fun l (h : WO t s p false l) => stubT_ref (t := t) (s := s) (l := l) hneg (by rw [hp]; exact h)
    have hs0 := outK_start (t := t) (s := s) (p := p)
    rw [hp] at hmg hneg
    rw [hn] at hs0
    
    
    (refine enterS Try.func15 Try.ntmps15 ?_)
    (repeat' (first | (refine hK _ ?_; clear hK K) | (refine aw_seq (fun K hK => ?_)) | (refine gR ?_; refine regS ?_) | (refine gC 37 ?_; refine callS (hmg) ?_) | (refine stk_op (fun K hK => ?_); refine aop_makeSlice (d := 24) (by rfl) (by rfl) (by omega) (by first | omega | (simp only [Int.toNat_natCast, List.length_map]; omega)) (by decide) (by rfl) 24 (by first | rfl | (simp only [go_sem, Nat.reduceAdd, Nat.reduceMul, reduceIte, Nat.reduceEqDiff, Nat.reduceLeDiff, Int.reduceToNat, Int.reducePow, Int.reduceBEq, Int.reduceBNe, Int.reduceLT, Int.reduceLE, decide_true, decide_false]; done) | (simp only [go_sem, Nat.reduceAdd, Nat.reduceMul, reduceIte, Nat.reduceEqDiff, Nat.reduceLeDiff, Int.reduceToNat, Int.reducePow, Int.reduceBEq, Int.reduceBNe, Int.reduceLT, Int.reduceLE, decide_true, decide_false]; rfl) | (simp [St.free, mentHp, AV.mentL, AV.ment])) ?_) | (refine gE ?_; refine exN ?_) | (refine gQ ?_; refine condS (fun hc => ?_) (fun hc => ?_) <;> (try (first | contradiction | (exfalso; omega)))) | (refine gW ?_; refine wopsS ?_) | (refine aw_block ?_) | (refine gS ?_; refine skipS ?_)))
    rw [hn, ← bls_nil, show bls [] n = bls (outK (fun i => hasB (t.ops[i]!).add p) 0) n by rw [outK_zero]]
    refine aw_loop_at [7, 25, 26, 27, 28, 29, 30, 31, 32, 33, 34, 35, 36, 37, 38, 39, 40, 41] (fun k : Nat => k ≤ n) (fun k => n - k) (fun k => [(7, .int k)])
      (fun k => [(2, ⟨25, t.cs, true⟩), (24, ⟨4, (bls (outK (fun i => hasB (t.ops[i]!).add p) k) n).map AV.bool, true⟩)]) 0 (by omega) ?_ ?_
    · (refine atS ?_)
      (exact weakS)
    · rintro k hk K hK
      (refine atS ?_)
      by_cases hlt : k < n
      · have hbl := bls_len (outK (fun i => hasB (t.ops[i]!).add p) k) n
        have hno := outK_not (f := fun i => hasB (t.ops[i]!).add p) (k := k)
        have hey := outK_yes (f := fun i => hasB (t.ops[i]!).add p) (k := k)
        have hen := outK_no (f := fun i => hasB (t.ops[i]!).add p) (k := k)
        rw [getBang (l := t.ops) (k := k) (by omega)] at hey hen
        have hhas := has_pc t.ops[k].add p
        generalize hasB t.ops[k].add p = b at *
        
        
        (repeat' (first | (refine hK _ ?_; clear hK K) | (refine aw_seq (fun K hK => ?_)) | (refine gR ?_; refine regS ?_) | (refine gC 38 ?_; refine callS (hhas) ?_) | (refine gE ?_; (first | (refine exN ?_) | (refine exS (fun _ => ?_)))) | (refine gQ ?_; refine condS (fun hc => ?_) (fun hc => ?_) <;> (try (first | contradiction | (exfalso; omega)))) | (refine aw_block ?_) | (refine gS ?_; refine skipS ?_)))
        refine ⟨k + 1, by omega, by omega, ?_⟩
        cases b
        · rw [hen rfl]
          (refine atS ?_)
          (refine le_weak (by (repeat (first | exact .nil | refine .drop ?_ | refine weak_keep ?_ (by first | rfl | (rw [← List.map_set, bls_setF hno]))))) (by (repeat refine hsub_hasE (by rfl) (by first | rfl | (rw [← List.map_set, bls_setF hno])) ?_); exact hsub_nil _))
        · rw [hey rfl]
          (refine atS ?_)
          (refine le_weak (by (repeat (first | exact .nil | refine .drop ?_ | refine weak_keep ?_ (by first | rfl | (rw [← List.map_set, bls_set]))))) (by (repeat refine hsub_hasE (by rfl) (by first | rfl | (rw [← List.map_set, bls_set])) ?_); exact hsub_nil _))
      · obtain rfl : n = k := by omega
        generalize outK (fun i => hasB (t.ops[i]!).add p) n = l0 at *
        (repeat' (first | (refine hK _ ?_; clear hK K) | (refine aw_seq (fun K hK => ?_)) | (refine gR ?_; refine regS ?_) | (refine gQ ?_; refine condS (fun hc => ?_) (fun hc => ?_) <;> (try (first | contradiction | (exfalso; omega)))) | (refine aw_block ?_) | (refine gX ?_; refine exitS ?_) | (apply_assumption (exfalso := false) (symm := false))))
        refine aw_loop_at [8, 9, 10, 11, 12, 42, 43, 44, 45, 46, 47, 48, 49, 50, 51, 52, 53, 54, 55, 56, 57, 58, 59, 60, 61, 62, 63, 64, 65, 66, 67, 68, 69, 70, 71, 72, 73, 74, 75, 76, 77, 78, 79, 80, 81, 82, 83, 84, 85, 86, 87, 88, 89, 90, 91, 92, 93, 94, 95, 96, 97, 98, 99, 100, 101, 102, 103, 104, 105, 106, 107, 108] (fun q : Bool × List Int => WO t s p q.1 q.2) (fun q => 2 * (n - q.2.length) + (if q.1 then 1 else 0)) (fun q => [(8, .bool q.1)])
          (fun q => [(2, ⟨25, t.cs, true⟩), (24, ⟨4, (bls q.2 n).map AV.bool, true⟩)]) (true, l0) ⟨hs0, fun h => by cases h⟩ ?_ ?_
        · (refine atS ?_)
          (exact weakS)
        · rintro ⟨a, l⟩ hq K hK
          (refine atS ?_)
          simp only at hq
          have hnl := nodup_len hq.b.nd hq.b.rg
          cases a
          · have hres := hst l hq
            rw [hn] at hres
            (repeat' (first | (refine hK _ ?_; clear hK K) | (refine aw_seq (fun K hK => ?_)) | (refine gRx 26 (by rfl) ?_; refine regS ?_) | (refine gQ ?_; refine condF ?_) | (refine aw_block ?_) | (refine gX ?_; refine exitS ?_) | (apply_assumption (exfalso := false) (symm := false))))
            (refine awVirt 13 300 1 8 3 ?_)
            have hbl := bls_len l n
            refine aw_loop_at [13, 14, 109, 110, 111, 112, 113, 114, 115, 116, 117, 118, 119, 120, 121, 122, 123, 124, 125, 126, 127, 128] (fun k : Nat => k ≤ n) (fun k => n - k) (fun k => [(14, .int k), (13, .sl 1 8 300 0 (outK (fun i => hasB l (i : Int) && subB (t.ops[i]!).pre s) k).length)])
              (fun k => [(2, ⟨25, t.cs, true⟩), (24, ⟨4, (bls l n).map AV.bool, true⟩), (300, ⟨3, (outK (fun i => hasB l (i : Int) && subB (t.ops[i]!).pre s) k).map AV.int, false⟩)]) 0 (by omega) ?_ ?_
            · rw [outK_zero]
              (refine atS ?_)
              (exact weakS)
            · rintro k hk K hK
              (refine atS ?_)
              have hol := outK_len (f := fun i => hasB l (i : Int) && subB (t.ops[i]!).pre s) (k := k)
              by_cases hlt : k < n
              · have hcan := applies_pc t s k (by omega) h40
                have hg := bls_get (l := l) (n := n) (k := k) (by omega)
                
                
                (repeat' (first | (refine hK _ ?_; clear hK K) | (refine aw_seq (fun K hK => ?_)) | (refine gR ?_; refine regS ?_) | (refine gC 39 ?_; refine callS (hcan) ?_) | (refine stk_op (fun K hK => ?_); refine appendS ?_) | (refine gE ?_; (first | (refine exN ?_) | (refine exS (fun _ => ?_)))) | (refine gG ?_; refine guardS (fun hc => ?_) (fun hc => ?_) <;> (try (first | contradiction | (exfalso; omega)))) | (refine gQ ?_; (first | (refine condF ?_) | (refine condS (fun hc => ?_) (fun hc => ?_) <;> (try (first | contradiction | (exfalso; omega)))))) | (refine gW ?_; refine wopsS ?_) | (refine aw_block ?_) | (refine gS ?_; refine skipS ?_)))
                all_goals refine ⟨k + 1, by omega, by omega, ?_⟩
                · rw [outK_yes (by rw [Bool.and_eq_true]; exact ⟨by rw [← hg]; assumption, by assumption⟩)]
                  (refine atS ?_)
                  (exact weakS)
                · rw [outK_no (by rw [show subB (t.ops[k]!).pre s = false by assumption, Bool.and_false])]
                  (refine atS ?_)
                  (exact weakS)
                · rw [outK_no (by rw [show hasB l (k : Int) = false by rw [← hg]; assumption, Bool.false_and])]
                  (refine atS ?_)
                  (exact weakS)
              · obtain rfl : n = k := by omega
                (repeat' (first | (refine hK _ ?_; clear hK K) | (refine aw_seq (fun K hK => ?_)) | (refine gR ?_; refine regS ?_) | (refine gQ ?_; refine condS (fun hc => ?_) (fun hc => ?_) <;> (try (first | contradiction | (exfalso; omega)))) | (refine gX ?_; refine exitS ?_) | (refine gT ?_; refine retS ?_) | (apply_assumption (exfalso := false) (symm := false))))
                refine fin_sl1 (f := AV.int) (outK (fun i => hasB l (i : Int) && subB (t.ops[i]!).pre s) n) rfl (by rfl) (by rfl) rfl (fun _ => rfl) (fun _ => rfl) (by rw [hres])
          · (repeat' (first | (refine hK _ ?_; clear hK K) | (refine aw_seq (fun K hK => ?_)) | (refine gRx 8 (by rfl) ?_; refine regS ?_) | (refine gQ ?_; refine condT ?_) | (refine aw_block ?_) | (refine gS ?_; refine skipS ?_)))
            obtain ⟨m0, hm0⟩ : ∃ m0, l.length = m0 := ⟨_, rfl⟩
            have hw0 := hq.b.start
            rw [hm0] at hw0
            refine aw_loop_at [8, 9, 10, 11, 12, 43, 44, 45, 46, 47, 48, 49, 50, 51, 52, 53, 54, 55, 56, 57, 58, 59, 60, 61, 62, 63, 64, 65, 66, 67, 68, 69, 70, 71, 72, 73, 74, 75, 76, 77, 78, 79, 80, 81, 82, 83, 84, 85, 86, 87, 88, 89, 90, 91, 92, 93, 94, 95, 96, 97, 98, 99, 100, 101, 102, 103, 104, 105, 106, 107, 108] (fun q : Bool × List Int × Nat => q.2.2 ≤ n ∧ WI t s p m0 q.1 q.2.1 q.2.2 0) (fun q => n - q.2.2) (fun q => [(8, .bool q.1), (9, .int q.2.2)])
              (fun q => [(2, ⟨25, t.cs, true⟩), (24, ⟨4, (bls q.2.1 n).map AV.bool, true⟩)]) (false, l, 0) ⟨by simp, hw0⟩ ?_ ?_
            · (refine atS ?_)
              (exact weakS)
            · rintro ⟨a, l, i⟩ ⟨hi, hq⟩ K hK
              (refine atS ?_)
              simp only at hq hi
              have hnl := nodup_len hq.b.nd hq.b.rg
              have hbl := bls_len l n
              by_cases hlt : i < n
              · cases hin : hasB l (i : Int)
                · have hg := bls_get (l := l) (n := n) (k := i) (by omega)
                  rw [hin] at hg
                  (repeat' (first | (refine hK _ ?_; clear hK K) | (refine aw_seq (fun K hK => ?_)) | (refine gR ?_; refine regS ?_) | (refine gE ?_; (first | (refine exN ?_) | (refine exS (fun _ => ?_)))) | (refine gQ ?_; refine condS (fun hc => ?_) (fun hc => ?_) <;> (try (first | contradiction | (exfalso; omega)))) | (refine aw_block ?_) | (refine gX ?_; refine exitS ?_) | (refine gS ?_; refine skipS ?_) | (apply_assumption (exfalso := false) (symm := false))))
                  · refine ⟨(a, l, i + 1), ⟨by simp only; omega, hq.skip hin⟩, by simp only; omega, ?_⟩
                    (refine atS ?_)
                    (exact weakS)
                  · rw [hg] at hc
                    cases hc
                · have hg := bls_get (l := l) (n := n) (k := i) (by omega)
                  rw [hin] at hg
                  have hla := lacking_pc s t.ops[i].pre
                  have hdu : ∀ k, dueB t s i k = if 0 ≤ missF s t.ops[i].pre then hasB (t.ops[k]!).add (missF s t.ops[i].pre) else !indB t.ops[i] t.ops[k]! := fun k => by unfold dueB; rw [getBang (l := t.ops) (k := i) (by omega)]
                  generalize missF s t.ops[i].pre = u at *
                  
                  
                  (repeat' (first | (refine hK _ ?_; clear hK K) | (refine aw_seq (fun K hK => ?_)) | (refine gR ?_; refine regS ?_) | (refine gC 37 ?_; refine callS (hla) ?_) | (refine gE ?_; (first | (refine exN ?_) | (refine exS (fun _ => ?_)))) | (refine gQ ?_; refine condS (fun hc => ?_) (fun hc => ?_) <;> (try (first | contradiction | (exfalso; omega)))) | (refine aw_block ?_) | (refine gX ?_; refine exitS ?_) | (refine gS ?_; refine skipS ?_) | (apply_assumption (exfalso := false) (symm := false))))
                  · rw [hg] at hc
                    cases hc
                  · clear hc
                    refine aw_loop_at [8, 11, 12, 62, 63, 64, 65, 66, 67, 68, 69, 70, 71, 72, 73, 74, 75, 76, 77, 78, 79, 80, 81, 82, 83, 84, 85, 86, 87, 88, 89, 90, 91, 92, 93, 94, 95, 96, 97, 98, 99, 100, 101, 102, 103, 104, 105, 106, 107, 108] (fun q : Bool × List Int × Nat => q.2.2 ≤ n ∧ hasB q.2.1 (i : Int) = true ∧ WI t s p m0 q.1 q.2.1 i q.2.2) (fun q => n - q.2.2) (fun q => [(8, .bool q.1), (11, .int q.2.2)])
                      (fun q => [(2, ⟨25, t.cs, true⟩), (24, ⟨4, (bls q.2.1 n).map AV.bool, true⟩)]) (a, l, 0) ⟨by simp, hin, hq⟩ ?_ ?_
                    · (refine atS ?_)
                      (exact weakS)
                    · clear hla hq hin hnl hg
                      rintro ⟨a, l, k⟩ ⟨hk, hin, hq⟩ K hK
                      (refine atS ?_)
                      simp only at hq hk hin
                      have hnl := nodup_len hq.b.nd hq.b.rg
                      have hbl := bls_len l n
                      by_cases hltk : k < n
                      · have hg := bls_get (l := l) (n := n) (k := k) (by omega)
                        have hduk := hdu k
                        rw [getBang (l := t.ops) (k := k) (by omega)] at hduk
                        by_cases hu : 0 ≤ u
                        · rw [if_pos hu] at hduk
                          have hhas := has_pc t.ops[k].add u
                          generalize hasB t.ops[k].add u = b at *
                          
                          
                          (repeat' (first | (refine hK _ ?_; clear hK K) | (refine aw_seq (fun K hK => ?_)) | (refine gR ?_; refine regS ?_) | (refine gD 20 ?_; refine drS (.it 0 0 (.it 1 0 (.it 2 0 (.it 3 0 (.it 4 0 (.it 5 0 (.it 6 0 (.it 7 0 (.it 8 0 (.it 9 0 (.it 10 0 (.it 11 0 (.it 12 0 (.it 13 2 (.it 14 0 (.it 15 0 (.it 16 0 (.it 17 0 (.it 18 0 (.it 19 0 (.it 20 0 (.it 21 0 (.it 22 0 (.it 23 0 (.it 24 0 (.it 25 0 (.it 26 0 (.it 27 2 (.it 28 0 (.it 29 0 (.it 30 0 .nil))))))))))))))))))))))))))))))) [0, 1, 2, 3, 4, 5, 6, 7, 8, 9, 10, 11, 12, 13, 14, 15, 16, 17, 18, 19, 20, 21, 22, 23, 24, 25, 26, 27, 28, 29, 30] ?_) | (refine gCd 38 ?_; refine callD (hhas) ?_) | (refine gE ?_; (first | (refine exN ?_) | (refine exS (fun _ => ?_)))) | (refine gG ?_; refine guardS (fun hc => ?_) (fun hc => ?_) <;> (try (first | contradiction | (exfalso; omega)))) | (refine gGd ?_; refine guardD (fun hc => ?_) (fun hc => ?_) <;> (try (first | contradiction | (exfalso; omega)))) | (refine gQ ?_; (first | (refine condF ?_) | (refine condS (fun hc => ?_) (fun hc => ?_) <;> (try (first | contradiction | (exfalso; omega)))))) | (refine aw_block ?_) | (refine gS ?_; refine skipS ?_)))
                          · refine ⟨(true, l ++ [(k : Int)], k + 1), ⟨by simp only; omega, by simp only; rw [hasB_t] at hin ⊢; exact List.mem_append.2 (.inl hin), hq.add hin (by omega) (by rw [hduk]; simp [*]) (by rw [← hg]; assumption)⟩, by simp only; omega, ?_⟩
                            (refine atS ?_)
                            (refine le_weak (by (repeat (first | exact .nil | refine .drop ?_ | refine weak_keep ?_ (by first | rfl | (rw [← List.map_set, bls_set]))))) (by (repeat refine hsub_hasE (by rfl) (by first | rfl | (rw [← List.map_set, bls_set])) ?_); exact hsub_nil _))
                          · refine ⟨(a, l, k + 1), ⟨by simp only; omega, hin, hq.keep fun _ => by rw [← hg]; assumption⟩, by simp only; omega, ?_⟩
                            (refine atS ?_)
                            (exact weakS)
                          · refine ⟨(a, l, k + 1), ⟨by simp only; omega, hin, hq.keep fun h => absurd h (by rw [hduk]; simp [*])⟩, by simp only; omega, ?_⟩
                            (refine atS ?_)
                            (exact weakS)
                        · rw [if_neg hu] at hduk
                          have hcm := commute_pc t.ops[i] t.ops[k]
                          generalize indB t.ops[i] t.ops[k] = b at *
                          
                          
                          (repeat' (first | (refine hK _ ?_; clear hK K) | (refine aw_seq (fun K hK => ?_)) | (refine gR ?_; refine regS ?_) | (refine gD 20 ?_; refine drS (.it 0 0 (.it 1 0 (.it 2 0 (.it 3 0 (.it 4 0 (.it 5 0 (.it 6 0 (.it 7 0 (.it 8 0 (.it 9 0 (.it 10 0 (.it 11 0 (.it 12 0 (.it 13 2 (.it 14 0 (.it 15 0 (.it 16 0 (.it 17 0 (.it 18 0 (.it 19 0 (.it 20 0 (.it 21 0 (.it 22 0 (.it 23 0 (.it 24 0 (.it 25 0 (.it 26 0 (.it 27 2 (.it 28 0 (.it 29 0 (.it 30 0 .nil))))))))))))))))))))))))))))))) [0, 1, 2, 3, 4, 5, 6, 7, 8, 9, 10, 11, 12, 13, 14, 15, 16, 17, 18, 19, 20, 21, 22, 23, 24, 25, 26, 27, 28, 29, 30] ?_) | (refine gCd 13 ?_; refine callD (hcm) ?_) | (refine gE ?_; (first | (refine exN ?_) | (refine exS (fun _ => ?_)))) | (refine gGd ?_; refine guardD (fun hc => ?_) (fun hc => ?_) <;> (try (first | contradiction | (exfalso; omega)))) | (refine gQ ?_; (first | (refine condF ?_) | (refine condS (fun hc => ?_) (fun hc => ?_) <;> (try (first | contradiction | (exfalso; omega)))))) | (refine aw_block ?_) | (refine gS ?_; refine skipS ?_)))
                          · refine ⟨(true, l ++ [(k : Int)], k + 1), ⟨by simp only; omega, by simp only; rw [hasB_t] at hin ⊢; exact List.mem_append.2 (.inl hin), hq.add hin (by omega) (by rw [hduk]; simp [*]) (by rw [← hg]; assumption)⟩, by simp only; omega, ?_⟩
                            (refine atS ?_)
                            (refine le_weak (by (repeat (first | exact .nil | refine .drop ?_ | refine weak_keep ?_ (by first | rfl | (rw [← List.map_set, bls_set]))))) (by (repeat refine hsub_hasE (by rfl) (by first | rfl | (rw [← List.map_set, bls_set])) ?_); exact hsub_nil _))
                          · refine ⟨(a, l, k + 1), ⟨by simp only; omega, hin, hq.keep fun _ => by rw [← hg]; assumption⟩, by simp only; omega, ?_⟩
                            (refine atS ?_)
                            (exact weakS)
                          · refine ⟨(a, l, k + 1), ⟨by simp only; omega, hin, hq.keep fun h => absurd h (by rw [hduk]; simp [*])⟩, by simp only; omega, ?_⟩
                            (refine atS ?_)
                            (exact weakS)
                      · obtain rfl : n = k := by omega
                        (repeat' (first | (refine hK _ ?_; clear hK K) | (refine aw_seq (fun K hK => ?_)) | (refine gR ?_; refine regS ?_) | (refine gE ?_; refine exN ?_) | (refine gQ ?_; refine condS (fun hc => ?_) (fun hc => ?_) <;> (try (first | contradiction | (exfalso; omega)))) | (refine gX ?_; refine exitS ?_) | (apply_assumption (exfalso := false) (symm := false))))
                        refine ⟨(a, l, i + 1), ⟨by simp only; omega, WI.next (by rw [hn]; exact hq)⟩, by simp only; omega, ?_⟩
                        (refine atS ?_)
                        (exact weakS)
              · obtain rfl : n = i := by omega
                (repeat' (first | (refine hK _ ?_; clear hK K) | (refine aw_seq (fun K hK => ?_)) | (refine gR ?_; refine regS ?_) | (refine gQ ?_; refine condS (fun hc => ?_) (fun hc => ?_) <;> (try (first | contradiction | (exfalso; omega)))) | (refine gX ?_; refine exitS ?_) | (apply_assumption (exfalso := false) (symm := false))))
                refine ⟨(a, l), WI.out (by rw [hn]; exact hq), ?_, ?_⟩
                · have h1 := hq.len
                  have h2 := hq.up
                  cases a
                  · simp only [Bool.false_eq_true, if_false, if_true]
                    omega
                  · have := h2 rfl
                    simp only [if_true]
                    omega
                · (refine atS ?_)
                  (exact weakS)
end Go.Proofs.Ythdlckclpmfidaa
