import Derived.Test.YtokmhfjledbglaaInw



namespace Go.Proofs.Ytokmhfjledbglaa
open Go.Ab
open Go
set_option linter.unusedSimpArgs false
set_option linter.unusedVariables false
set_option maxRecDepth 10000
attribute [local irreducible] PV AOp AOps AW PCall OCall MCall WCall Ab.Fin OFin OFin2 MFin RV RV1 Le AStk AGrd ADr ADx ADo AOpX AAny
set_option maxHeartbeats 4000000
/-! the reference's groups are the program's -/
theorem capB_nodup {a b : List Int} (h : a.Pairwise (· < ·)) : (capB a b).Pairwise (· < ·) := h.filter _
theorem canL_one {pre g : List Int} {x : Int} : canL pre g [x] = true ↔ ∀ y ∈ capB pre g, y = x := by
  unfold canL
  rw [List.all_eq_true]
  constructor
  · intro h y hy
    obtain ⟨h1, h2⟩ := mem_capB.1 hy
    have := h y h1
    simpa [hasB, h2] using this
  · intro h y hy
    by_cases hg : y ∈ g
    · have := h y (mem_capB.2 ⟨hy, hg⟩)
      simp [hasB, this]
    · simp [hasB, hg]
theorem canL_nil {pre g : List Int} : canL pre g [] = true ↔ capB pre g = [] := by
  unfold canL
  rw [List.all_eq_true]
  constructor
  · intro h
    rw [List.eq_nil_iff_forall_not_mem]
    intro y hy
    obtain ⟨h1, h2⟩ := mem_capB.1 hy
    have := h y h1
    simp [hasB, h2] at this
  · intro h y hy
    by_cases hg : y ∈ g
    · have : y ∈ capB pre g := mem_capB.2 ⟨hy, hg⟩
      rw [h] at this; cases this
    · simp [hasB, hg]
theorem presB_iff {o : Op} {g : List Int} : presB o g = true ↔ presAt o g (-1) = true ∧ ∀ i : Nat, i < g.length → presAt o g (i : Int) = true := by
  unfold presB; rw [Bool.and_eq_true, decide_eq_true_eq]
theorem presAt_neg {o : Op} {g : List Int} : presAt o g (-1) = true ↔ (capB o.pre g = [] → cntIn o.add g ≤ 1) := by
  unfold presAt
  rw [show oneS g (-1) = [] from rfl, Bool.not_eq_true', Bool.and_eq_false_iff, decide_eq_false_iff_not]
  have hn : presN o g (-1) = cntIn o.add g := by unfold presN; rw [if_neg (by omega)]; omega
  rw [hn]
  constructor
  · intro h hc
    rcases h with h | h
    · rw [canL_nil.2 hc] at h; cases h
    · omega
  · intro h
    cases hq : canL o.pre g [] with
    | false => exact .inl rfl
    | true => exact .inr (by have := h (canL_nil.1 hq); omega)
theorem presAt_at {o : Op} {g : List Int} {i : Nat} (hi : i < g.length) : presAt o g (i : Int) = true ↔ ((∀ y ∈ capB o.pre g, y = g[i]) → cntIn o.add g + (if ¬ g[i] ∈ o.add ∧ ¬ g[i] ∈ o.del then 1 else 0) ≤ 1) := by
  unfold presAt
  have hg : g[(i : Int).toNat]! = g[i] := by rw [Int.toNat_natCast]; exact getBang hi
  have hn : presN o g i = cntIn o.add g + (if ¬ g[i] ∈ o.add ∧ ¬ g[i] ∈ o.del then 1 else 0) := by
    unfold presN
    rw [hg]
    congr 1
    by_cases h : ¬ g[i] ∈ o.add ∧ ¬ g[i] ∈ o.del
    · rw [if_pos h, if_pos ⟨by omega, by rw [hasB_f]; exact h.1, by rw [hasB_f]; exact h.2⟩]
    · rw [if_neg h, if_neg]
      rw [hasB_f, hasB_f]
      exact fun hh => h hh.2
  rw [hn, show oneS g i = [g[i]] by rw [oneS, if_neg (by omega), hg], Bool.not_eq_true', Bool.and_eq_false_iff, decide_eq_false_iff_not]
  constructor
  · intro h hc
    rcases h with h | h
    · rw [canL_one.2 hc] at h; cases h
    · omega
  · intro h
    cases hq : canL o.pre g [g[i]] with
    | false => exact .inl rfl
    | true => exact .inr (by have := h (canL_one.1 hq); omega)
theorem keeps_eq {o : Op} {g : List Int} {n : Int} (ho : opOk o n = true) : keepsB o g = presB o g := by
  obtain ⟨p1, p2, p3, p4⟩ := opOk_sets ho
  have hps := capB_nodup (b := g) (isSet_iff.1 p1).2
  have has := capB_nodup (b := g) (isSet_iff.1 p2).2
  rw [Bool.eq_iff_iff, presB_iff, presAt_neg]
  have hrw : (∀ i : Nat, i < g.length → presAt o g (i : Int) = true) ↔ ∀ x ∈ g, ((∀ y ∈ capB o.pre g, y = x) → cntIn o.add g + (if ¬ x ∈ o.add ∧ ¬ x ∈ o.del then 1 else 0) ≤ 1) := by
    constructor
    · intro h x hx
      obtain ⟨i, hi, rfl⟩ := List.getElem_of_mem hx
      exact (presAt_at hi).1 (h i hi)
    · intro h i hi
      exact (presAt_at hi).2 (h _ (List.getElem_mem hi))
  rw [hrw]
  have hma : ∀ {x}, x ∈ g → (x ∈ capB o.add g ↔ x ∈ o.add) := fun hx => by rw [mem_capB]; simp [hx]
  have hmp : ∀ {x}, x ∈ capB o.pre g → x ∈ g := fun hx => (mem_capB.1 hx).2
  have hma2 : ∀ {x}, x ∈ capB o.add g → x ∈ g ∧ x ∈ o.add := fun hx => ⟨(mem_capB.1 hx).2, (mem_capB.1 hx).1⟩
  unfold keepsB keepsL cntIn
  generalize capB o.pre g = pre at *
  generalize capB o.add g = add at *
  have hif : ∀ x, (if ¬ x ∈ o.add ∧ ¬ x ∈ o.del then (1:Int) else 0) ≤ 1 ∧ 0 ≤ (if ¬ x ∈ o.add ∧ ¬ x ∈ o.del then (1:Int) else 0) := fun x => by split <;> omega
  match add, has with
  | [], _ =>
    rw [if_pos (.inr rfl)]
    simp only [true_iff, List.length_nil]
    exact ⟨fun _ => by omega, fun x hx _ => by have := hif x; omega⟩
  | a :: b :: r, _ =>
    match pre, hps with
    | [], _ =>
      rw [if_neg (by simp), if_pos (by simp)]
      simp only [Bool.false_eq_true, false_iff]
      rintro ⟨h, _⟩
      have := h trivial
      simp at this
      omega
    | [x], _ =>
      rw [if_neg (by simp), if_pos (by simp)]
      simp only [Bool.false_eq_true, false_iff]
      rintro ⟨_, h⟩
      have := h x (hmp (by simp)) (by simp)
      have := hif x
      simp at *
      omega
    | x :: y :: q, hp =>
      rw [if_pos (.inl (by simp))]
      simp only [true_iff]
      refine ⟨fun h => (by cases h), fun z hz hh => ?_⟩
      have h1 := hh x (by simp)
      have h2 := hh y (by simp)
      have h3 := List.rel_of_pairwise_cons hp (a' := y) (by simp)
      omega
  | [a], _ =>
    match pre, hps with
    | [], _ =>
      rw [if_neg (by simp), if_neg (by simp), if_neg (by simp), subB_iff]
      constructor
      · intro h
        refine ⟨fun _ => by simp, fun x hx _ => ?_⟩
        have := h x hx
        rw [updL_mem] at this
        have hxm : ¬ (¬ x ∈ o.add ∧ ¬ x ∈ o.del) := by
          rintro ⟨h1, h2⟩
          rcases this with ⟨h3, _⟩ | h3
          · exact h2 h3
          · exact h1 ((hma hx).1 h3)
        rw [if_neg hxm]; simp
      · rintro ⟨_, h⟩ x hx
        have := h x hx (by simp)
        rw [updL_mem]
        by_cases hd : x ∈ o.del
        · exact .inl ⟨hd, by simp⟩
        · by_cases ha : x ∈ o.add
          · exact .inr ((hma hx).2 ha)
          · rw [if_pos ⟨ha, hd⟩] at this; simp at this
    | [x], _ =>
      rw [if_neg (by simp), if_neg (by simp), if_pos (by simp)]
      have hxg : x ∈ g := hmp (by simp)
      simp only [List.getElem!_cons_zero, Bool.or_eq_true, decide_eq_true_eq, hasB_t]
      constructor
      · intro h
        refine ⟨fun h => (by cases h), fun z hz hh => ?_⟩
        obtain rfl := hh x (by simp)
        have hxm : ¬ (¬ x ∈ o.add ∧ ¬ x ∈ o.del) := by
          rintro ⟨h1, h2⟩
          rcases h with rfl | h3
          · exact h1 ((hma hxg).1 (by simp))
          · exact h2 h3
        rw [if_neg hxm]; simp
      · rintro ⟨_, h⟩
        have := h x hxg (by simp)
        by_cases hd : x ∈ o.del
        · exact .inr hd
        · by_cases ha : x ∈ o.add
          · left
            have := (hma hxg).2 ha
            simpa using this
          · rw [if_pos ⟨ha, hd⟩] at this; simp at this
    | x :: y :: q, hp =>
      rw [if_pos (.inl (by simp))]
      simp only [true_iff]
      refine ⟨fun h => (by cases h), fun z hz hh => ?_⟩
      have h1 := hh x (by simp)
      have h2 := hh y (by simp)
      have h3 := List.rel_of_pairwise_cons hp (a' := y) (by simp)
      omega
def groupB (t : Task) (g : List Int) : Bool := decide ((capB t.init g).length ≤ 1) && t.ops.all fun o => presB o g
theorem holds_eq {t : Task} (hw : WfT t) (g : List Int) : holdsB t g = groupB t g := by
  unfold holdsB groupB
  congr 1
  rw [Bool.eq_iff_iff, Bool.not_eq_true', List.any_eq_false, List.all_eq_true]
  constructor
  · intro h o ho
    have := h o ho
    rw [keeps_eq (hw.ops o ho).1] at this
    simpa using this
  · intro h o ho
    rw [keeps_eq (hw.ops o ho).1, h o ho]; simp
theorem holdsG_pc (t : Task) (g : List Int) (hw : WfT t) (hg : isSet g t.facts = true) : PCall Try.prog 26 [t.av, ints g] (fun r => r = .bool (groupB t g)) := by
  rw [← holds_eq hw]; exact holds_pc t g hw hg
theorem group_pc (t : Task) (g : List Int) (hw : WfT t) (hg : isSet g t.facts = true) : PCall Try.prog 12 [t.av, ints g] (fun r => r = .bool (groupB t g)) := by
  have h40 := hw.n40
  have hgl := set_len hg hw.f0 hw.f1
  (refine enterS Try.func12 Try.ntmps12 ?_)
  (repeat' (first | (refine hK _ ?_; clear hK K) | (refine aw_seq (fun K hK => ?_)) | (refine gR ?_; refine regS ?_) | (refine gC 21 ?_; refine callS (countIn_pc _ _) ?_) | (refine gC 28 ?_; refine callS (preserved_pc _ _ (by omega) (by omega)) ?_) | (refine stk_op (fun K hK => ?_); (first | (refine aop_pv (pv_fieldAddrF (by rfl) (by rfl) (by first | decide | (simp; done) | (simp; omega))) ?_) | (refine aop_pv (pv_fieldAddrIF (by rfl) (by rfl) (by first | decide | (simp; done) | (simp; omega))) ?_))) | (refine gE ?_; (first | (refine exN ?_) | (refine exS (fun _ => ?_)))) | (refine gQ ?_; (first | (refine condT ?_) | (refine condF ?_) | (refine condS (fun hc => ?_) (fun hc => ?_) <;> (try (first | contradiction | (exfalso; omega)))))) | (refine gW ?_; refine wopsS ?_) | (refine aw_block ?_) | (refine gX ?_; refine exitS ?_) | (refine gT ?_; refine retS ?_) | (refine gS ?_; refine skipS ?_) | (apply_assumption (exfalso := false) (symm := false))))
  · (refine fin_le (Le.refl _) (rv_one (rv1_tmp (by rfl))) (by first | rfl | (simp only [go_sem, Nat.reduceAdd, Nat.reduceMul, reduceIte, Nat.reduceEqDiff, Nat.reduceLeDiff, Int.reduceToNat, Int.reducePow, Int.reduceBEq, Int.reduceBNe, Int.reduceLT, Int.reduceLE, decide_true, decide_false])) ?_)
    have h1 : 1 < cntIn t.init g := by assumption
    unfold groupB cntIn at *
    rw [decide_eq_false (by omega)]; rfl
  refine aw_loop_at [4, 5, 11, 12, 13, 14, 15, 16, 17, 18, 19, 20, 21, 22, 23, 24, 25] (fun k : Nat => k ≤ t.ops.length ∧ ∀ i (hi : i < t.ops.length), i < k → presB t.ops[i] g = true) (fun k => t.ops.length - k) (fun k => [(5, .int k)]) (fun _ => [(2, ⟨25, t.cs, true⟩)]) 0 ⟨by omega, by omega⟩ ?_ ?_
  · (refine atS ?_)
    (exact weakS)
  · rintro k ⟨hk, hn⟩ K hK
    (refine atS ?_)
    by_cases hlt : k < t.ops.length
    · have hal := set_len (opOk_sets (hw.ops _ (List.getElem_mem hlt)).1).2.1 hw.f0 hw.f1
      (repeat' (first | (refine hK _ ?_; clear hK K) | (refine aw_seq (fun K hK => ?_)) | (refine gR ?_; refine regS ?_) | (refine gC 21 ?_; refine callS (countIn_pc _ _) ?_) | (refine gC 28 ?_; refine callS (preserved_pc _ _ (by omega) (by omega)) ?_) | (refine stk_op (fun K hK => ?_); (first | (refine aop_pv (pv_fieldAddrF (by rfl) (by rfl) (by first | decide | (simp; done) | (simp; omega))) ?_) | (refine aop_pv (pv_fieldAddrIF (by rfl) (by rfl) (by first | decide | (simp; done) | (simp; omega))) ?_))) | (refine gE ?_; (first | (refine exN ?_) | (refine exS (fun _ => ?_)))) | (refine gQ ?_; (first | (refine condT ?_) | (refine condF ?_) | (refine condS (fun hc => ?_) (fun hc => ?_) <;> (try (first | contradiction | (exfalso; omega)))))) | (refine gW ?_; refine wopsS ?_) | (refine aw_block ?_) | (refine gX ?_; refine exitS ?_) | (refine gT ?_; refine retS ?_) | (refine gS ?_; refine skipS ?_) | (apply_assumption (exfalso := false) (symm := false))))
      · (refine fin_le (Le.refl _) (rv_one (rv1_tmp (by rfl))) (by first | rfl | (simp only [go_sem, Nat.reduceAdd, Nat.reduceMul, reduceIte, Nat.reduceEqDiff, Nat.reduceLeDiff, Int.reduceToNat, Int.reducePow, Int.reduceBEq, Int.reduceBNe, Int.reduceLT, Int.reduceLE, decide_true, decide_false])) ?_)
        have hp : presB t.ops[k] g = false := by assumption
        unfold groupB
        rw [show (t.ops.all fun o => presB o g) = false from all_no hlt hp, Bool.and_false]
      · have hp : presB t.ops[k] g = true := by assumption
        (refine ⟨k + 1, ⟨by omega, upto_step hn fun _ => hp⟩, by omega, ?_⟩; (refine atS ?_); (exact weakS))
    · (repeat' (first | (refine hK _ ?_; clear hK K) | (refine aw_seq (fun K hK => ?_)) | (refine gR ?_; refine regS ?_) | (refine gC 21 ?_; refine callS (countIn_pc _ _) ?_) | (refine gC 28 ?_; refine callS (preserved_pc _ _ (by omega) (by omega)) ?_) | (refine stk_op (fun K hK => ?_); (first | (refine aop_pv (pv_fieldAddrF (by rfl) (by rfl) (by first | decide | (simp; done) | (simp; omega))) ?_) | (refine aop_pv (pv_fieldAddrIF (by rfl) (by rfl) (by first | decide | (simp; done) | (simp; omega))) ?_))) | (refine gE ?_; (first | (refine exN ?_) | (refine exS (fun _ => ?_)))) | (refine gQ ?_; (first | (refine condT ?_) | (refine condF ?_) | (refine condS (fun hc => ?_) (fun hc => ?_) <;> (try (first | contradiction | (exfalso; omega)))))) | (refine gW ?_; refine wopsS ?_) | (refine aw_block ?_) | (refine gX ?_; refine exitS ?_) | (refine gT ?_; refine retS ?_) | (refine gS ?_; refine skipS ?_) | (apply_assumption (exfalso := false) (symm := false))))
      (refine fin_le (Le.refl _) (rv_one (rv1_tmp (by rfl))) (by first | rfl | (simp only [go_sem, Nat.reduceAdd, Nat.reduceMul, reduceIte, Nat.reduceEqDiff, Nat.reduceLeDiff, Int.reduceToNat, Int.reducePow, Int.reduceBEq, Int.reduceBNe, Int.reduceLT, Int.reduceLE, decide_true, decide_false])) ?_)
      have h1 : cntIn t.init g ≤ 1 := by assumption
      unfold groupB cntIn at *
      rw [show (t.ops.all fun o => presB o g) = true from all_yes hn (by omega), decide_eq_true (by omega)]; rfl
abbrev rows (ls : List (List Int)) : AV := .isl 1 24 (ls.map ints)
def gAt (t : Task) (ls : List (List Int)) (i : Nat) : Option (Int × Int) := if isSet ls[i]! t.facts = false then some (5, -8) else if groupB t ls[i]! = false then some (16, -8) else none
def groupsFault (t : Task) (ls : List (List Int)) : Int × Int := if taskFault t ≠ (0, 0) then taskFault t else if 24 < ls.length then (2, -8) else (firstSome (gAt t ls) ls.length).getD (0, 0)
theorem gAt_eq {t : Task} {ls : List (List Int)} {k : Nat} (h : k < ls.length) : gAt t ls k = if isSet ls[k] t.facts = false then some (5, -8) else if groupB t ls[k] = false then some (16, -8) else none := by simp [gAt, h]
theorem gf_a {t : Task} {ls : List (List Int)} (h : taskFault t ≠ (0, 0)) : groupsFault t ls = taskFault t := by rw [groupsFault, if_pos h]
theorem gf_b {t : Task} {ls : List (List Int)} (h : taskFault t = (0, 0)) (h2 : 24 < ls.length) : groupsFault t ls = (2, -8) := by rw [groupsFault, if_neg (by simp [h]), if_pos h2]
theorem gf_c {t : Task} {ls : List (List Int)} (h : taskFault t = (0, 0)) (h2 : ¬ 24 < ls.length) : groupsFault t ls = (firstSome (gAt t ls) ls.length).getD (0, 0) := by rw [groupsFault, if_neg (by simp [h]), if_neg h2]




end Go.Proofs.Ytokmhfjledbglaa
