/- A cheapest plan either contains an operator or does not: no program in sight. -/
import Derived.Test.YthndlimdehfneaaBst
import Derived.Test.YthndlimdehfneaaCoq
namespace Go.Proofs.Ythndlimdehfneaa
open Go.Ab
open Go
set_option linter.unusedSimpArgs false
set_option linter.unusedVariables false
theorem isSet_mono {xs : List Int} {n m : Int} (h : isSet xs n = true) (hm : n ≤ m) : isSet xs m = true := by
  rw [isSet_iff] at h ⊢
  exact ⟨fun x hx => by have := h.1 x hx; omega, h.2⟩
theorem isSet_snoc {xs : List Int} {n : Int} (h : isSet xs n = true) (hn : 0 ≤ n) : isSet (xs ++ [n]) (n + 1) = true := by
  rw [isSet_iff] at h ⊢
  refine ⟨fun x hx => ?_, ?_⟩
  · rcases List.mem_append.1 hx with hx | hx
    · have := h.1 x hx; omega
    · rw [List.mem_singleton.1 hx]; omega
  · rw [List.pairwise_append]
    refine ⟨h.2, by simp, fun a ha b hb => ?_⟩
    rw [List.mem_singleton.1 hb]
    exact (h.1 a ha).2
theorem isSet_not {xs : List Int} {n : Int} (h : isSet xs n = true) : ¬ n ∈ xs := fun hm => by
  have := (isSet_iff.1 h).1 n hm; omega
/-! without an operator -/
def upI (i j : Nat) : Nat := if j < i then j else j + 1
def downI (i j : Nat) : Nat := if j < i then j else j - 1
theorem up_down {i j : Nat} (h : j ≠ i) : upI i (downI i j) = j := by
  unfold upI downI
  by_cases h1 : j < i
  · simp [h1]
  · rw [if_neg h1, if_neg (by omega)]; omega
theorem forb_get (t : Task) (i j : Nat) : (forbidT t i).ops[j]? = t.ops[upI i j]? := by
  simp only [forbidT, List.getElem?_eraseIdx, upI]
  split <;> rfl
theorem forb_ends (t : Task) (i : Nat) : ∀ (plan : List Nat) (s : List Int), endsT (forbidT t i) s plan = endsT t s (plan.map (upI i))
  | [], s => rfl
  | j :: r, s => by
    rw [List.map_cons, endsT, endsT, forb_get]
    cases t.ops[upI i j]? with
    | none => rfl
    | some o =>
      simp only
      rw [forb_ends t i r]
      rfl
theorem forb_cost (t : Task) (i : Nat) : ∀ (plan : List Nat), costT (forbidT t i) plan = costT t (plan.map (upI i))
  | [] => rfl
  | j :: r => by rw [List.map_cons, costT, costT, forb_get, forb_cost t i r]
theorem forb_works {t : Task} {i : Nat} {s : List Int} {plan : List Nat} : WorksT (forbidT t i) s plan ↔ WorksT t s (plan.map (upI i)) := by
  unfold WorksT; rw [forb_ends]; rfl
theorem up_plan {i : Nat} : ∀ {plan : List Nat}, ¬ i ∈ plan → (plan.map (downI i)).map (upI i) = plan
  | [], _ => rfl
  | j :: r, h => by
    rw [List.mem_cons, not_or] at h
    rw [List.map_cons, List.map_cons, up_down (Ne.symm h.1), up_plan h.2]
theorem forb_wf {t : Task} (hw : WfT t) (i : Nat) : WfT (forbidT t i) :=
  ⟨hw.f0, hw.f1, hw.init, hw.goal, by
    have := hw.n40
    have := List.length_eraseIdx_le t.ops i
    simp only [forbidT]; omega, fun o ho => hw.ops o (List.mem_of_mem_eraseIdx ho)⟩
/-! with an operator -/
def flg (n : Int) (f : Bool) : List Int := if f then [n] else []
theorem flg_mem {n p : Int} {f : Bool} : p ∈ flg n f ↔ f = true ∧ p = n := by
  unfold flg; split <;> simp_all
def addO (n : Int) (o : Op) : Op := { o with add := o.add ++ [n] }
theorem req_get {t : Task} {i : Nat} (hi : i < t.ops.length) (j : Nat) : (reqT t i).ops[j]? = t.ops[j]?.map fun o => if i = j then addO t.facts o else o := by
  simp only [reqT, setAdd, List.getElem?_modify]
  by_cases h : i = j
  · subst h
    simp only [if_true, List.getElem?_eq_getElem hi, Option.map_some, getBang hi]
    rfl
  · simp [h]
theorem sub_flg {a s : List Int} {n : Int} {f : Bool} (h : ¬ n ∈ a) : subB a (s ++ flg n f) = subB a s := by
  rw [Bool.eq_iff_iff, subB_iff, subB_iff]
  constructor
  · intro h1 x hx
    rcases List.mem_append.1 (h1 x hx) with h2 | h2
    · exact h2
    · rw [flg_mem] at h2
      rw [h2.2] at hx
      exact absurd hx h
  · exact fun h1 x hx => List.mem_append_left _ (h1 x hx)
theorem set_flg {s : List Int} {n : Int} {f : Bool} (h : isSet s n = true) (hn : 0 ≤ n) : isSet (s ++ flg n f) (n + 1) = true := by
  cases f
  · simp only [flg, Bool.false_eq_true, if_false, List.append_nil]; exact isSet_mono h (by omega)
  · exact isSet_snoc h hn
theorem req_aft {n : Int} {s : List Int} {o : Op} {f g : Bool} (hn : 0 ≤ n) (hs : isSet s n = true) (ha : ¬ n ∈ o.add) (hd : ¬ n ∈ o.del) :
    aft (n + 1) (s ++ flg n f) (if g then addO n o else o) = aft n s o ++ flg n (f || g) := by
  refine set_ext (aft_set (by omega) _ _) (set_flg (aft_set hn _ _) hn) fun p => ?_
  have hsn := (isSet_iff.1 hs).1
  have hns := isSet_not hs
  rw [List.mem_append, flg_mem, aft_mem, aft_mem, List.mem_append, flg_mem]
  have e1 : p ∈ (if g = true then addO n o else o).add ↔ p ∈ o.add ∨ g = true ∧ p = n := by
    cases g
    · simp
    · simp [addO]
  have e2 : (if g = true then addO n o else o).del = o.del := by cases g <;> rfl
  rw [e1, e2, Bool.or_eq_true]
  constructor
  · rintro ⟨hp, h⟩
    by_cases hpn : p = n
    · subst hpn
      refine .inr ⟨?_, rfl⟩
      rcases h with (h | h) | ⟨h | h, _⟩
      · exact absurd h ha
      · exact .inr h.1
      · exact absurd h hns
      · exact .inl h.1
    · refine .inl ⟨by omega, ?_⟩
      rcases h with (h | h) | ⟨h | h, h2⟩
      · exact .inl h
      · exact absurd h.2 hpn
      · exact .inr ⟨h, h2⟩
      · exact absurd h.2 hpn
  · rintro (⟨hp, h⟩ | ⟨h, rfl⟩)
    · refine ⟨by omega, ?_⟩
      rcases h with h | ⟨h, h2⟩
      · exact .inl (.inl h)
      · exact .inr ⟨.inl h, h2⟩
    · refine ⟨by omega, ?_⟩
      rcases h with h | h
      · exact .inr ⟨.inr ⟨h, rfl⟩, hd⟩
      · exact .inl (.inr ⟨h, rfl⟩)
theorem op_sets {t : Task} (hw : WfT t) {o : Op} (ho : o ∈ t.ops) : isSet o.pre t.facts = true ∧ isSet o.add t.facts = true ∧ isSet o.del t.facts = true ∧ disB o.add o.del = true := opOk_sets (hw.ops o ho).1
theorem req_ends {t : Task} (hw : WfT t) {i : Nat} (hi : i < t.ops.length) : ∀ (plan : List Nat) (s : List Int) (f : Bool), isSet s t.facts = true → ∀ e, endsT (reqT t i) (s ++ flg t.facts f) plan = some e ↔ ∃ d, endsT t s plan = some d ∧ e = d ++ flg t.facts (f || plan.contains i)
  | [], s, f, hs, e => by simp [endsT, eq_comm]
  | j :: r, s, f, hs, e => by
    rw [ends_cons]
    have hf : (reqT t i).facts = t.facts + 1 := rfl
    have hc : (List.contains (j :: r) i) = (decide (i = j) || r.contains i) := by
      rw [List.contains_cons]; rfl
    constructor
    · rintro ⟨o', h1, h2, h3⟩
      rw [req_get hi] at h1
      cases ho : t.ops[j]? with
      | none => rw [ho] at h1; cases h1
      | some o =>
        rw [ho, Option.map_some, Option.some.injEq] at h1
        obtain ⟨p1, p2, p3, _⟩ := op_sets hw (List.mem_of_getElem? ho)
        have e' : o' = if decide (i = j) = true then addO t.facts o else o := by rw [← h1]; by_cases h : i = j <;> simp [h]
        have hp : o'.pre = o.pre := by rw [← h1]; split <;> rfl
        rw [hp, sub_flg (isSet_not p1)] at h2
        rw [hf, e', req_aft hw.f0 hs (isSet_not p2) (isSet_not p3)] at h3
        obtain ⟨d, h4, h5⟩ := (req_ends hw hi r _ _ (aft_set hw.f0 _ _) e).1 h3
        exact ⟨d, ends_cons.2 ⟨o, ho, h2, h4⟩, by rw [h5, hc, Bool.or_assoc]⟩
    · rintro ⟨d, h1, h2⟩
      obtain ⟨o, ho, h3, h4⟩ := ends_cons.1 h1
      obtain ⟨p1, p2, p3, _⟩ := op_sets hw (List.mem_of_getElem? ho)
      refine ⟨if i = j then addO t.facts o else o, by rw [req_get hi, ho]; rfl, ?_, ?_⟩
      · have hp : (if i = j then addO t.facts o else o).pre = o.pre := by split <;> rfl
        rw [hp, sub_flg (isSet_not p1)]; exact h3
      · have e' : (if i = j then addO t.facts o else o) = if decide (i = j) = true then addO t.facts o else o := by by_cases h : i = j <;> simp [h]
        rw [hf, e', req_aft hw.f0 hs (isSet_not p2) (isSet_not p3)]
        refine (req_ends hw hi r _ _ (aft_set hw.f0 _ _) e).2 ⟨d, h4, ?_⟩
        rw [h2, hc, Bool.or_assoc]
theorem req_cost {t : Task} {i : Nat} (hi : i < t.ops.length) : ∀ (plan : List Nat), costT (reqT t i) plan = costT t plan
  | [] => rfl
  | j :: r => by
    rw [costT, costT, req_get hi, req_cost hi r]
    cases t.ops[j]? with
    | none => rfl
    | some o => simp only [Option.map_some]; split <;> rfl
theorem ends_set {t : Task} (h0 : 0 ≤ t.facts) : ∀ {plan : List Nat} {s e : List Int}, isSet s t.facts = true → endsT t s plan = some e → isSet e t.facts = true
  | [], s, e, hs, h => by simp only [endsT, Option.some.injEq] at h; rw [← h]; exact hs
  | j :: r, s, e, hs, h => by
    obtain ⟨o, _, _, h3⟩ := ends_cons.1 h
    exact ends_set h0 (aft_set h0 _ _) h3
theorem req_works {t : Task} (hw : WfT t) {i : Nat} (hi : i < t.ops.length) {s : List Int} (hs : isSet s t.facts = true) {plan : List Nat} : WorksT (reqT t i) s plan ↔ WorksT t s plan ∧ i ∈ plan := by
  have h := req_ends hw hi plan s false hs
  have hg := isSet_not hw.goal
  simp only [flg, Bool.false_eq_true, if_false, List.append_nil, Bool.false_or] at h
  have key : ∀ d, isSet d t.facts = true → (subB (t.goal ++ [t.facts]) (d ++ if (plan.contains i) = true then [t.facts] else []) = true ↔ subB t.goal d = true ∧ i ∈ plan) := by
    intro d hd
    have hdn := isSet_not hd
    rw [subB_iff, subB_iff]
    constructor
    · intro h1
      have h2 := h1 t.facts (by simp)
      refine ⟨fun x hx => ?_, ?_⟩
      · have h3 := h1 x (List.mem_append_left _ hx)
        rcases List.mem_append.1 h3 with h3 | h3
        · exact h3
        · split at h3
          · rw [List.mem_singleton.1 h3] at hx; exact absurd hx hg
          · simp at h3
      · rcases List.mem_append.1 h2 with h3 | h3
        · exact absurd h3 hdn
        · split at h3
          · rename_i h4; simpa using h4
          · simp at h3
    · rintro ⟨h1, h2⟩ x hx
      have h4 : plan.contains i = true := by simpa using h2
      rw [if_pos h4]
      rcases List.mem_append.1 hx with hx | hx
      · exact List.mem_append_left _ (h1 x hx)
      · exact List.mem_append_right _ hx
  constructor
  · rintro ⟨e, he, hge⟩
    obtain ⟨d, hd, rfl⟩ := (h e).1 he
    have := (key d (ends_set hw.f0 hs hd)).1 hge
    exact ⟨⟨d, hd, this.1⟩, this.2⟩
  · rintro ⟨⟨d, hd, hgd⟩, hi2⟩
    exact ⟨_, (h _).2 ⟨d, hd, rfl⟩, (key d (ends_set hw.f0 hs hd)).2 ⟨hgd, hi2⟩⟩
theorem req_wf {t : Task} (hw : WfT t) {i : Nat} (hi : i < t.ops.length) (h24 : t.facts ≠ 24) : WfT (reqT t i) := by
  have h0 := hw.f0
  have h1 := hw.f1
  refine ⟨by show 0 ≤ t.facts + 1; omega, by show t.facts + 1 ≤ 24; omega, isSet_mono hw.init (by show t.facts ≤ t.facts + 1; omega), isSet_snoc hw.goal h0, by have := hw.n40; simpa [reqT, setAdd] using this, fun o ho => ?_⟩
  obtain ⟨j, hj⟩ := List.mem_iff_getElem?.1 ho
  rw [req_get hi] at hj
  cases hq : t.ops[j]? with
  | none => rw [hq] at hj; cases hj
  | some q =>
    rw [hq, Option.map_some, Option.some.injEq] at hj
    have hqm := List.mem_of_getElem? hq
    have hc := (hw.ops q hqm).2
    obtain ⟨p1, p2, p3, p4⟩ := op_sets hw hqm
    have hle : t.facts ≤ (reqT t i).facts := by show t.facts ≤ t.facts + 1; omega
    subst hj
    split
    · refine ⟨?_, hc⟩
      have hd : disB (q.add ++ [t.facts]) q.del = true := by
        rw [disB_iff] at p4 ⊢
        intro x hx
        rcases List.mem_append.1 hx with hx | hx
        · exact p4 x hx
        · rw [List.mem_singleton.1 hx]; exact isSet_not p3
      simp only [opOk, addO, Bool.and_eq_true]
      exact ⟨⟨⟨isSet_mono p1 hle, isSet_snoc p2 h0⟩, isSet_mono p3 hle⟩, hd⟩
    · refine ⟨?_, hc⟩
      simp only [opOk, Bool.and_eq_true]
      exact ⟨⟨⟨isSet_mono p1 hle, isSet_mono p2 hle⟩, isSet_mono p3 hle⟩, p4⟩
theorem either_law {t : Task} (hw : WfT t) {i : Nat} (hi : i < t.ops.length) {x y z : Int} (hx : LeastC (reqT t i) t.init x) (hy : LeastC (forbidT t i) t.init y) (hz : LeastC t t.init z) :
    (z = x ∧ x ≤ y) ∨ (z = y ∧ y ≤ x) := by
  have x1 := hx.z1
  have y1 := hy.z1
  have z1 := hz.z1
  have hzx : z ≤ x := by
    by_cases h : x < Inf
    · obtain ⟨p, h1, h2⟩ := hx.has h
      have := hz.le p ((req_works hw hi hw.init).1 h1).1
      rw [req_cost hi] at h2; omega
    · omega
  have hzy : z ≤ y := by
    by_cases h : y < Inf
    · obtain ⟨p, h1, h2⟩ := hy.has h
      have := hz.le _ (forb_works.1 h1)
      rw [forb_cost] at h2; omega
    · omega
  by_cases h : z < Inf
  · obtain ⟨p, h1, h2⟩ := hz.has h
    by_cases hip : i ∈ p
    · have := hx.le p ((req_works hw hi hw.init).2 ⟨h1, hip⟩)
      rw [req_cost hi] at this
      exact .inl ⟨by omega, by omega⟩
    · have := hy.le (p.map (downI i)) (forb_works.2 (by rw [up_plan hip]; exact h1))
      rw [forb_cost, up_plan hip] at this
      exact .inr ⟨by omega, by omega⟩
  · exact .inl ⟨by omega, by omega⟩
end Go.Proofs.Ythndlimdehfneaa
