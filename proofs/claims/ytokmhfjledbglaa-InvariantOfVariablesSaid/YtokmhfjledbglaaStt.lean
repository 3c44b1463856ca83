import Derived.Test.YtokmhfjledbglaaMvl
import Derived.Test.YtokmhfjledbglaaKep


namespace Go.Proofs.Ytokmhfjledbglaa
open Go.Ab
open Go
set_option linter.unusedSimpArgs false
set_option linter.unusedVariables false
set_option maxRecDepth 10000
/-! the translation of a multi-valued task, plain -/
def baseK (sz : List Int) (k : Nat) : Int := (sz.take k).sum
def factM (sz : List Int) (a : Int × Int) : Int := baseK sz a.1.toNat + a.2
def factsM (sz : List Int) (l : List (Int × Int)) : List Int := l.map (factM sz)
def delA (sz : List Int) (a : Int × Int) : List Int := ((List.range sz[a.1.toNat]!.toNat).filter fun (x : Nat) => !decide ((x : Int) = a.2)).map fun (x : Nat) => baseK sz a.1.toNat + (x : Int)
def delM (sz : List Int) (l : List (Int × Int)) : List Int := l.flatMap (delA sz)
def opS (sz : List Int) (o : MOp) : Op := ⟨factsM sz o.pre, factsM sz o.post, delM sz o.post, o.cost⟩
def initS (sz s : List Int) : List Int := (List.range s.length).map fun (v : Nat) => baseK sz v + s[v]!
def stripsT (m : MTask) : Task := ⟨baseK m.sizes m.sizes.length, initS m.sizes m.init, factsM m.sizes m.goal, m.ops.map (opS m.sizes)⟩
def grpM (sz : List Int) (v : Nat) : List Int := (List.range sz[v]!.toNat).map fun (x : Nat) => baseK sz v + (x : Int)
theorem baseK_succ {sz : List Int} {k : Nat} (h : k < sz.length) : baseK sz (k + 1) = baseK sz k + sz[k]! := by
  unfold baseK
  rw [List.take_succ_eq_append_getElem h, List.sum_append, getElem!_pos sz k h]
  simp
theorem baseK_all {sz : List Int} {k : Nat} (h : sz.length ≤ k) : baseK sz k = baseK sz sz.length := by
  unfold baseK
  rw [List.take_of_length_le h, List.take_length]
section
variable {m : MTask} (hm : MValid m)
include hm
theorem sz_at {k : Nat} (h : k < m.sizes.length) : 1 ≤ m.sizes[k]! ∧ m.sizes[k]! ≤ 6 := by
  rw [getElem!_pos m.sizes k h]; exact hm.sz _ (List.getElem_mem h)
theorem base_mono {k : Nat} : ∀ (d : Nat), k + d ≤ m.sizes.length → baseK m.sizes k + d ≤ baseK m.sizes (k + d)
  | 0, _ => by simp
  | d + 1, h => by
    have := base_mono (k := k) d (by omega)
    have h1 := sz_at hm (k := k + d) (by omega)
    rw [show k + (d + 1) = (k + d) + 1 from rfl, baseK_succ (by omega)]
    omega
theorem base_le {k j : Nat} (h : k ≤ j) (hj : j ≤ m.sizes.length) : baseK m.sizes k ≤ baseK m.sizes j := by
  have := base_mono hm (k := k) (j - k) (by omega)
  rw [show k + (j - k) = j by omega] at this
  omega
theorem base_nn {k : Nat} (h : k ≤ m.sizes.length) : 0 ≤ baseK m.sizes k := by
  have := base_le hm (Nat.zero_le k) h
  simpa [baseK] using this
theorem base_lt {k j : Nat} (h : k < j) (hj : j ≤ m.sizes.length) : baseK m.sizes k + m.sizes[k]! ≤ baseK m.sizes j := by
  rw [← baseK_succ (by omega)]; exact base_le hm h hj
omit hm in
theorem mem_grp {v : Nat} {x : Int} (hv : 1 ≤ m.sizes[v]!) : x ∈ grpM m.sizes v ↔ baseK m.sizes v ≤ x ∧ x < baseK m.sizes v + m.sizes[v]! := by
  unfold grpM
  rw [List.mem_map]
  constructor
  · rintro ⟨i, hi, rfl⟩
    rw [List.mem_range] at hi
    omega
  · rintro ⟨h1, h2⟩
    exact ⟨(x - baseK m.sizes v).toNat, by rw [List.mem_range]; omega, by omega⟩
/-- An assignment in range. -/
def okA (m : MTask) (a : Int × Int) : Prop := 0 ≤ a.1 ∧ a.1 < m.sizes.length ∧ 0 ≤ a.2 ∧ a.2 < m.sizes[a.1.toNat]!
omit hm in
theorem as_ok {l : List (Int × Int)} (h : asB m l = true) : (∀ a ∈ l, okA m a) ∧ l.Pairwise (fun a b => a.1 < b.1) := by
  unfold asB at h
  rw [decide_eq_true_eq] at h
  constructor
  · intro a ha
    obtain ⟨i, hi, rfl⟩ := List.getElem_of_mem ha
    have := h i hi
    unfold asAt at this
    rw [getElem!_pos l i hi] at this
    exact ⟨this.1, this.2.1, this.2.2.1, this.2.2.2.1⟩
  · rw [List.pairwise_iff_getElem]
    intro i j hi hj hij
    have key : ∀ d (h2 : i + d + 1 < l.length), l[i].1 < l[i + d + 1].1 := by
      intro d
      induction d with
      | zero =>
        intro h2
        have := (h (i + 1) h2).2.2.2.2 (by omega)
        rw [show i + 1 - 1 = i by omega, getElem!_pos l i hi, getElem!_pos l (i + 1) h2] at this
        exact this
      | succ d ih =>
        intro h2
        have h3 := ih (by omega)
        have := (h (i + (d + 1) + 1) h2).2.2.2.2 (by omega)
        rw [show i + (d + 1) + 1 - 1 = i + d + 1 by omega, getElem!_pos l (i + d + 1) (by omega), getElem!_pos l _ h2] at this
        omega
    have := key (j - i - 1) (by omega)
    simpa [show i + (j - i - 1) + 1 = j by omega] using this
omit hm in
theorem fact_bd {a : Int × Int} (ha : okA m a) : baseK m.sizes a.1.toNat ≤ factM m.sizes a ∧ factM m.sizes a < baseK m.sizes a.1.toNat + m.sizes[a.1.toNat]! := by
  obtain ⟨h1, h2, h3, h4⟩ := ha
  unfold factM
  omega
theorem fact_in {a : Int × Int} (ha : okA m a) : 0 ≤ factM m.sizes a ∧ factM m.sizes a < baseK m.sizes m.sizes.length := by
  have h := fact_bd ha
  obtain ⟨h1, h2, h3, h4⟩ := ha
  have := base_nn hm (k := a.1.toNat) (by omega)
  have := base_lt hm (k := a.1.toNat) (j := m.sizes.length) (by omega) (Nat.le_refl _)
  omega
theorem fact_lt {a b : Int × Int} (ha : okA m a) (hb : okA m b) (h : a.1 < b.1) : baseK m.sizes a.1.toNat + m.sizes[a.1.toNat]! ≤ baseK m.sizes b.1.toNat := by
  obtain ⟨h1, h2, h3, h4⟩ := ha
  obtain ⟨k1, k2, k3, k4⟩ := hb
  exact base_lt hm (by omega) (by omega)
theorem fact_grp {a : Int × Int} (ha : okA m a) {v : Nat} (hv : v < m.sizes.length) : factM m.sizes a ∈ grpM m.sizes v ↔ a.1 = v := by
  rw [mem_grp (sz_at hm hv).1]
  have h := fact_bd ha
  obtain ⟨h1, h2, h3, h4⟩ := ha
  constructor
  · rintro ⟨k1, k2⟩
    rcases Nat.lt_trichotomy a.1.toNat v with h' | h' | h'
    · have := base_lt hm h' (by omega); omega
    · omega
    · have := base_lt hm h' (by omega); omega
  · intro he
    have : a.1.toNat = v := by omega
    rw [this] at h
    omega
theorem facts_set {l : List (Int × Int)} (h : asB m l = true) : isSet (factsM m.sizes l) (baseK m.sizes m.sizes.length) = true := by
  obtain ⟨h1, h2⟩ := as_ok h
  rw [isSet_iff]
  constructor
  · intro x hx
    obtain ⟨a, ha, rfl⟩ := List.mem_map.1 hx
    exact fact_in hm (h1 a ha)
  · unfold factsM
    rw [List.pairwise_map]
    refine h2.imp_of_mem fun {a b} ha hb hab => ?_
    have := fact_lt hm (h1 a ha) (h1 b hb) hab
    have := fact_bd (h1 a ha)
    have := fact_bd (h1 b hb)
    omega
theorem st_ok {v : Nat} (hv : v < m.init.length) : m.init.length = m.sizes.length ∧ 0 ≤ m.init[v]! ∧ m.init[v]! < m.sizes[v]! := by
  have h := hm.init
  unfold stB at h
  rw [decide_eq_true_eq] at h
  exact ⟨h.1, h.2 v hv⟩
theorem init_len : m.init.length = m.sizes.length := by
  have h := hm.init
  unfold stB at h
  rw [decide_eq_true_eq] at h
  exact h.1
theorem init_set : isSet (initS m.sizes m.init) (baseK m.sizes m.sizes.length) = true := by
  have hl := init_len hm
  rw [isSet_iff]
  constructor
  · intro x hx
    obtain ⟨v, hv, rfl⟩ := List.mem_map.1 hx
    rw [List.mem_range] at hv
    exact fact_in hm (a := ((v : Int), m.init[v]!)) ⟨by simp, by simp; omega, (st_ok hm hv).2.1, by simpa using (st_ok hm hv).2.2⟩
  · unfold initS
    rw [List.pairwise_map]
    refine List.pairwise_lt_range.imp_of_mem fun {a b} ha hb hab => ?_
    rw [List.mem_range] at ha hb
    have := st_ok hm ha
    have := st_ok hm hb
    have := base_lt hm hab (by omega)
    omega
omit hm in
theorem mem_delA {a : Int × Int} {x : Int} : x ∈ delA m.sizes a ↔ ∃ y : Nat, (y : Int) < m.sizes[a.1.toNat]! ∧ (y : Int) ≠ a.2 ∧ x = baseK m.sizes a.1.toNat + y := by
  unfold delA
  simp only [List.mem_map, List.mem_filter, List.mem_range, Bool.not_eq_true', decide_eq_false_iff_not]
  constructor
  · rintro ⟨y, ⟨h1, h2⟩, rfl⟩; exact ⟨y, by omega, h2, rfl⟩
  · rintro ⟨y, h1, h2, rfl⟩; exact ⟨y, ⟨by omega, h2⟩, rfl⟩
omit hm in
theorem delA_pw {a : Int × Int} : (delA m.sizes a).Pairwise (· < ·) := by
  unfold delA
  rw [List.pairwise_map]
  exact (List.Pairwise.filter _ List.pairwise_lt_range).imp fun h => by omega
theorem del_set {l : List (Int × Int)} (h : asB m l = true) : isSet (delM m.sizes l) (baseK m.sizes m.sizes.length) = true := by
  obtain ⟨h1, h2⟩ := as_ok h
  rw [isSet_iff]
  constructor
  · intro x hx
    obtain ⟨a, ha, hxa⟩ := List.mem_flatMap.1 hx
    obtain ⟨y, k1, k2, rfl⟩ := mem_delA.1 hxa
    obtain ⟨p1, p2, _, _⟩ := h1 a ha
    exact fact_in hm (a := (a.1, (y : Int))) ⟨p1, p2, by simp, k1⟩
  · unfold delM
    rw [List.pairwise_flatMap]
    refine ⟨fun a _ => delA_pw, h2.imp_of_mem fun {a b} ha hb hab x hx y hy => ?_⟩
    obtain ⟨i, k1, k2, rfl⟩ := mem_delA.1 hx
    obtain ⟨j, p1, p2, rfl⟩ := mem_delA.1 hy
    have := fact_lt hm (h1 a ha) (h1 b hb) hab
    omega
omit hm in
theorem same_var {l : List (Int × Int)} (h : l.Pairwise (fun a b => a.1 < b.1)) {a b : Int × Int} (ha : a ∈ l) (hb : b ∈ l) (he : a.1 = b.1) : a = b := by
  obtain ⟨i, hi, rfl⟩ := List.getElem_of_mem ha
  obtain ⟨j, hj, rfl⟩ := List.getElem_of_mem hb
  rw [List.pairwise_iff_getElem] at h
  rcases Nat.lt_trichotomy i j with h' | h' | h'
  · have := h i j hi hj h'; omega
  · subst h'; rfl
  · have := h j i hj hi h'; omega
theorem op_ok {o : MOp} (ho : o ∈ m.ops) : opOk (opS m.sizes o) (baseK m.sizes m.sizes.length) = true := by
  obtain ⟨h1, h2, h3, h4⟩ := hm.ops o ho
  obtain ⟨p1, p2⟩ := as_ok h2
  unfold opOk
  rw [Bool.and_eq_true, Bool.and_eq_true, Bool.and_eq_true]
  refine ⟨⟨⟨facts_set hm h1, facts_set hm h2⟩, del_set hm h2⟩, ?_⟩
  rw [disB_iff]
  intro x hx hxd
  obtain ⟨a, ha, rfl⟩ := List.mem_map.1 hx
  obtain ⟨b, hb, hbd⟩ := List.mem_flatMap.1 hxd
  obtain ⟨y, k1, k2, he⟩ := mem_delA.1 hbd
  have hy : okA m (b.1, (y : Int)) := ⟨(p1 b hb).1, (p1 b hb).2.1, by simp, k1⟩
  have ha1 := fact_bd (p1 a ha)
  have hab : a.1 = b.1 := by
    rcases Int.lt_trichotomy a.1 b.1 with h' | h' | h'
    · have := fact_lt hm (p1 a ha) hy h'
      simp only at this
      omega
    · exact h'
    · have := fact_lt hm hy (p1 a ha) h'
      simp only at this
      omega
  obtain rfl := same_var p2 ha hb hab
  unfold factM at he
  omega
theorem strips_wf (h24 : baseK m.sizes m.sizes.length ≤ 24) : WfT (stripsT m) where
  f0 := base_nn hm (Nat.le_refl _)
  f1 := h24
  init := init_set hm
  goal := facts_set hm hm.goal
  n40 := by simp only [stripsT, List.length_map]; exact hm.n40
  ops := fun o ho => by
    obtain ⟨p, hp, rfl⟩ := List.mem_map.1 ho
    exact ⟨op_ok hm hp, (hm.ops p hp).2.2⟩
theorem grp_set {v : Nat} (hv : v < m.sizes.length) : isSet (grpM m.sizes v) (baseK m.sizes m.sizes.length) = true := by
  rw [isSet_iff]
  constructor
  · intro x hx
    rw [mem_grp (sz_at hm hv).1] at hx
    have := base_nn hm (k := v) (by omega)
    have := base_lt hm hv (Nat.le_refl _)
    omega
  · unfold grpM
    rw [List.pairwise_map]
    exact List.pairwise_lt_range.imp fun h => by omega
theorem facts_one {l : List (Int × Int)} (h : asB m l = true) {v : Nat} (hv : v < m.sizes.length) : cntIn (factsM m.sizes l) (grpM m.sizes v) ≤ 1 := by
  obtain ⟨h1, h2⟩ := as_ok h
  rw [cnt_one (setNd (isSet_iff.1 (facts_set hm h)).2)]
  intro x hx hxg y hy hyg
  obtain ⟨a, ha, rfl⟩ := List.mem_map.1 hx
  obtain ⟨b, hb, rfl⟩ := List.mem_map.1 hy
  have e1 := (fact_grp hm (h1 a ha) hv).1 hxg
  have e2 := (fact_grp hm (h1 b hb) hv).1 hyg
  rw [same_var h2 ha hb (by omega)]
theorem group_var {v : Nat} (hv : v < m.sizes.length) : groupB (stripsT m) (grpM m.sizes v) = true := by
  unfold groupB
  rw [Bool.and_eq_true, decide_eq_true_eq, List.all_eq_true]
  constructor
  · have h1 : cntIn (initS m.sizes m.init) (grpM m.sizes v) ≤ 1 := by
      rw [cnt_one (setNd (isSet_iff.1 (init_set hm)).2)]
      intro x hx hxg y hy hyg
      have hl := init_len hm
      obtain ⟨i, hi, rfl⟩ := List.mem_map.1 hx
      obtain ⟨j, hj, rfl⟩ := List.mem_map.1 hy
      rw [List.mem_range] at hi hj
      have e1 := (fact_grp hm (a := ((i : Int), m.init[i]!)) ⟨by simp, by simp; omega, (st_ok hm hi).2.1, by simpa using (st_ok hm hi).2.2⟩ hv).1 (by simpa [factM] using hxg)
      have e2 := (fact_grp hm (a := ((j : Int), m.init[j]!)) ⟨by simp, by simp; omega, (st_ok hm hj).2.1, by simpa using (st_ok hm hj).2.2⟩ hv).1 (by simpa [factM] using hyg)
      simp only at e1 e2
      rw [show i = j by omega]
    unfold cntIn at h1
    show (capB (initS m.sizes m.init) (grpM m.sizes v)).length ≤ 1
    omega
  · intro o ho
    obtain ⟨p, hp, rfl⟩ := List.mem_map.1 ho
    obtain ⟨h1, h2, _⟩ := hm.ops p hp
    obtain ⟨q1, q2⟩ := as_ok h2
    have hone := facts_one hm h2 hv
    rw [presB_iff, presAt_neg]
    refine ⟨fun _ => hone, fun i hi => ?_⟩
    rw [presAt_at hi]
    intro _
    have hgm := List.getElem_mem hi
    generalize (grpM m.sizes v)[i] = x at *
    show cntIn (factsM m.sizes p.post) (grpM m.sizes v) + _ ≤ 1
    by_cases he : ∃ a ∈ p.post, a.1 = v
    · obtain ⟨a, ha, hav⟩ := he
      rw [if_neg]
      · omega
      · rintro ⟨n1, n2⟩
        rw [mem_grp (sz_at hm hv).1] at hgm
        have hn : a.1.toNat = v := by omega
        by_cases hx : x = factM m.sizes a
        · exact n1 (List.mem_map.2 ⟨a, ha, hx.symm⟩)
        · refine n2 (List.mem_flatMap.2 ⟨a, ha, mem_delA.2 ⟨(x - baseK m.sizes v).toNat, ?_, ?_, ?_⟩⟩)
          · rw [hn]; omega
          · intro h
            apply hx
            unfold factM
            rw [hn]
            omega
          · rw [hn]; omega
    · have h0 : cntIn (factsM m.sizes p.post) (grpM m.sizes v) = 0 := by
        unfold cntIn
        have : capB (factsM m.sizes p.post) (grpM m.sizes v) = [] := by
          rw [List.eq_nil_iff_forall_not_mem]
          intro y hy
          obtain ⟨hy1, hy2⟩ := mem_capB.1 hy
          obtain ⟨a, ha, rfl⟩ := List.mem_map.1 hy1
          exact he ⟨a, ha, (fact_grp hm (q1 a ha) hv).1 hy2⟩
        rw [this]; rfl
      rw [h0]
      split <;> omega
end
end Go.Proofs.Ytokmhfjledbglaa
