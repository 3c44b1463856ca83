/- Permutations, images of sets, and what a greedy matching finds: no program in sight. -/
import Derived.Test.YtbeceabheahpnaaSyo
import Derived.Test.YtbeceabheahpnaaUpl


namespace Go.Proofs.Ytbeceabheahpnaa
open Go.Ab
open Go
set_option linter.unusedSimpArgs false
set_option linter.unusedVariables false
set_option maxRecDepth 10000
/-! permutations -/
theorem le_perm {α : Type} [BEq α] [LawfulBEq α] : ∀ {a b : List α}, (∀ v, a.count v ≤ b.count v) → a.length = b.length → a.Perm b
  | [], b, _, hl => by
    have : b = [] := List.eq_nil_of_length_eq_zero hl.symm
    rw [this]
  | x :: a, b, h, hl => by
    have hx : x ∈ b := by
      have := h x
      rw [List.count_cons_self] at this
      exact List.count_pos_iff.1 (by omega)
    have hp := List.perm_cons_erase hx
    refine (List.Perm.cons x (le_perm (fun v => ?_) ?_)).trans hp.symm
    · have h1 := h v
      rw [hp.count_eq, List.count_cons, List.count_cons] at h1
      omega
    · have := hp.length_eq
      simp only [List.length_cons] at this hl
      omega
theorem count_le_one {α : Type} [BEq α] [LawfulBEq α] : ∀ {l : List α}, l.Nodup → ∀ v, l.count v ≤ 1
  | [], _, v => by simp
  | x :: l, h, v => by
    obtain ⟨h1, h2⟩ := List.nodup_cons.1 h
    rw [List.count_cons]
    have := count_le_one h2 v
    split
    · rename_i he
      obtain rfl : x = v := by simpa using he
      rw [List.count_eq_zero.2 h1]; omega
    · omega
theorem nodup_le {α : Type} [BEq α] [LawfulBEq α] {a b : List α} (h : a.Nodup) (hs : ∀ x ∈ a, x ∈ b) : ∀ v, a.count v ≤ b.count v := fun v => by
  have h1 := count_le_one h v
  by_cases hv : v ∈ a
  · have := List.count_pos_iff.2 (hs v hv)
    omega
  · rw [List.count_eq_zero.2 hv]; omega
def PermP (n : Nat) (l : List Int) : Prop := l.Perm (upTo n)
theorem upTo_nodup (n : Nat) : (upTo n).Nodup := (upTo_sorted n).imp fun h => by omega
theorem upTo_length (n : Nat) : (upTo n).length = n := by simp [upTo]
theorem PermP.len {n : Nat} {l : List Int} (h : PermP n l) : l.length = n := by rw [h.length_eq, upTo_length]
theorem PermP.mem {n : Nat} {l : List Int} (h : PermP n l) {p : Int} : p ∈ l ↔ 0 ≤ p ∧ p < n := by rw [h.mem_iff, upTo_mem]
theorem PermP.nodup {n : Nat} {l : List Int} (h : PermP n l) : l.Nodup := h.nodup_iff.2 (upTo_nodup n)
theorem PermP.of_all {n : Nat} {l : List Int} (h : ∀ p : Int, 0 ≤ p → p < n → p ∈ l) (hl : l.length = n) : PermP n l :=
  (le_perm (nodup_le (upTo_nodup n) fun x hx => h x (upTo_mem.1 hx).1 (upTo_mem.1 hx).2) (by rw [upTo_length, hl])).symm
theorem PermP.of_nodup {n : Nat} {l : List Int} (hd : l.Nodup) (h : ∀ x ∈ l, 0 ≤ x ∧ x < n) (hl : l.length = n) : PermP n l :=
  le_perm (nodup_le hd fun x hx => upTo_mem.2 (h x hx)) (by rw [upTo_length, hl])
theorem PermP.id (n : Nat) : PermP n (upTo n) := List.Perm.refl _
theorem PermP.at {n : Nat} {l : List Int} (h : PermP n l) {p : Nat} (hp : p < n) : 0 ≤ l[p]! ∧ l[p]! < n := by
  have hl := h.len
  rw [getBang (by omega)]
  exact h.mem.1 (List.getElem_mem _)
theorem PermP.inj {n : Nat} {l : List Int} (h : PermP n l) {i j : Nat} (hi : i < n) (hj : j < n) (he : l[i]! = l[j]!) : i = j := by
  have hl := h.len
  rw [getBang (by omega), getBang (by omega)] at he
  have hd := List.pairwise_iff_getElem.1 h.nodup
  rcases Nat.lt_trichotomy i j with h1 | h1 | h1
  · exact absurd he (hd i j (by omega) (by omega) h1)
  · exact h1
  · exact absurd he.symm (hd j i (by omega) (by omega) h1)
theorem PermP.onto {n : Nat} {l : List Int} (h : PermP n l) {q : Int} (h0 : 0 ≤ q) (hq : q < n) : ∃ p, p < n ∧ l[p]! = q := by
  obtain ⟨p, hp, he⟩ := List.getElem_of_mem (h.mem.2 ⟨h0, hq⟩)
  exact ⟨p, by rw [← h.len]; exact hp, by rw [getBang hp]; exact he⟩
theorem upTo_at {n k : Nat} (h : k < n) : (upTo n)[k]! = k := by
  rw [getBang (by rw [upTo_length]; exact h)]; simp [upTo]
def isPermB (n : Int) (l : List Int) : Bool := decide ((l.length : Int) = n) && isSet (sortI l) n
theorem sortI_perm (l : List Int) : (sortI l).Perm l := List.mergeSort_perm _ _
theorem isPermB_iff {n : Nat} {l : List Int} : isPermB n l = true ↔ PermP n l := by
  unfold isPermB
  rw [Bool.and_eq_true, decide_eq_true_eq]
  constructor
  · rintro ⟨hl, hs⟩
    obtain ⟨h1, h2⟩ := isSet_iff.1 hs
    have := PermP.of_nodup (n := n) (h2.imp fun h => by omega) h1 (by rw [(sortI_perm l).length_eq]; omega)
    exact (sortI_perm l).symm.trans this
  · intro h
    refine ⟨by rw [h.len], isSet_iff.2 ⟨fun x hx => h.mem.1 (sortI_mem.1 hx), ?_⟩⟩
    have hd : (sortI l).Nodup := (sortI_perm l).nodup_iff.2 h.nodup
    exact (sortI_sorted l).imp₂ (fun a b h1 h2 => by omega) hd
/-! images -/
theorem imgF_mem {perm s : List Int} {q : Int} : q ∈ imgF perm s ↔ ∃ p ∈ s, perm[p.toNat]! = q := by
  unfold imgF imgM
  rw [sortI_mem, List.mem_map]
theorem imgF_at {n : Nat} {perm s : List Int} (hp : PermP n perm) (hs : isSet s n = true) {p : Int} (h0 : 0 ≤ p) (hn : p < n) : perm[p.toNat]! ∈ imgF perm s ↔ p ∈ s := by
  rw [imgF_mem]
  constructor
  · rintro ⟨q, hq, he⟩
    have := (isSet_iff.1 hs).1 q hq
    have h2 := hp.inj (by omega) (by omega) he
    rw [show p = q by omega]; exact hq
  · exact fun h => ⟨p, h, rfl⟩
theorem imgF_set {n : Nat} {perm s : List Int} (hp : PermP n perm) (hs : isSet s n = true) : isSet (imgF perm s) n = true := by
  obtain ⟨h1, h2⟩ := isSet_iff.1 hs
  refine isSet_iff.2 ⟨fun q hq => ?_, ?_⟩
  · obtain ⟨p, hm, rfl⟩ := imgF_mem.1 hq
    have := h1 p hm
    exact hp.at (by omega)
  · have hd : (imgF perm s).Nodup := by
      refine (sortI_perm _).nodup_iff.2 ?_
      unfold imgM
      rw [List.Nodup, List.pairwise_map]
      refine h2.imp_of_mem fun {a b} ha hb hab he => ?_
      have := h1 a ha; have := h1 b hb
      have := hp.inj (by omega) (by omega) he
      omega
    exact (sortI_sorted _).imp₂ (fun a b h1 h2 => by omega) hd
theorem imgF_ext {n : Nat} {perm s u : List Int} (hp : PermP n perm) (hs : isSet s n = true) (hu : isSet u n = true) (h : ∀ p : Nat, p < n → (perm[p]! ∈ u ↔ (p : Int) ∈ s)) : imgF perm s = u := by
  refine set_ext (imgF_set hp hs) hu fun q => ?_
  by_cases hq : 0 ≤ q ∧ q < n
  · obtain ⟨p, hpn, rfl⟩ := hp.onto hq.1 hq.2
    rw [h p hpn]
    exact imgF_at hp hs (p := p) (by omega) (by omega)
  · exact ⟨fun hm => absurd ((isSet_iff.1 (imgF_set hp hs)).1 q hm) hq, fun hm => absurd ((isSet_iff.1 hu).1 q hm) hq⟩
theorem imgF_id {n : Nat} {s : List Int} (hs : isSet s n = true) : imgF (upTo n) s = s :=
  imgF_ext (PermP.id n) hs hs fun p hp => by rw [upTo_at hp]
def compP (a b : List Int) : List Int := b.map fun p => a[p.toNat]!
theorem compP_at {n : Nat} {a b : List Int} (hb : PermP n b) {p : Nat} (hp : p < n) : (compP a b)[p]! = a[(b[p]!).toNat]! := by
  have hl := hb.len
  rw [getBang (l := compP a b) (by simp [compP]; omega), getBang (l := b) (by omega)]; simp [compP]
theorem compP_perm {n : Nat} {a b : List Int} (ha : PermP n a) (hb : PermP n b) : PermP n (compP a b) := by
  refine PermP.of_all (fun q h0 hq => ?_) (by rw [compP, List.length_map, hb.len])
  obtain ⟨r, hr, rfl⟩ := ha.onto h0 hq
  obtain ⟨p, hp, he⟩ := hb.onto (q := r) (by omega) (by omega)
  have := compP_at (a := a) hb hp
  rw [he, Int.toNat_natCast] at this
  rw [← this, getBang (by simp [compP, hb.len]; exact hp)]
  exact List.getElem_mem _
theorem imgF_comp {n : Nat} {a b s : List Int} (ha : PermP n a) (hb : PermP n b) (hs : isSet s n = true) : imgF (compP a b) s = imgF a (imgF b s) := by
  have hbs := imgF_set hb hs
  refine imgF_ext (compP_perm ha hb) hs (imgF_set ha hbs) fun p hp => ?_
  have h1 := hb.at hp
  rw [compP_at hb hp, imgF_at ha hbs h1.1 h1.2]
  exact imgF_at hb hs (p := p) (by omega) (by omega)
theorem imgF_sub {n : Nat} {perm a b : List Int} (hp : PermP n perm) (ha : isSet a n = true) (hb : isSet b n = true) : subB (imgF perm a) (imgF perm b) = subB a b := by
  rw [Bool.eq_iff_iff, subB_iff, subB_iff]
  constructor
  · intro h x hx
    have := (isSet_iff.1 ha).1 x hx
    exact (imgF_at hp hb this.1 this.2).1 (h _ ((imgF_at hp ha this.1 this.2).2 hx))
  · intro h x hx
    obtain ⟨p, hm, rfl⟩ := imgF_mem.1 hx
    exact imgF_mem.2 ⟨p, h p hm, rfl⟩
/-! the inverse -/
def invK (l : List Int) (n : Nat) : Nat → List Int
  | 0 => List.replicate n 0
  | k + 1 => (invK l n k).set (l[k]!).toNat k
theorem invK_len (l : List Int) (n : Nat) : ∀ k, (invK l n k).length = n
  | 0 => by simp [invK]
  | k + 1 => by rw [invK, List.length_set, invK_len l n k]
theorem invK_at {n : Nat} {l : List Int} (h : PermP n l) : ∀ {k : Nat}, k ≤ n → ∀ {p : Nat}, p < k → (invK l n k)[(l[p]!).toNat]! = (p : Int)
  | k + 1, hk, p, hp => by
    have h1 := h.at (p := p) (by omega)
    have h2 := h.at (p := k) (by omega)
    rw [invK, getBang (by rw [List.length_set, invK_len]; omega), List.getElem_set]
    split
    · rename_i he
      have := h.inj (i := k) (j := p) (by omega) (by omega) (by omega)
      rw [this]
    · rename_i he
      have hlt : p < k := by
        rcases Nat.lt_or_ge p k with h3 | h3
        · exact h3
        · obtain rfl : p = k := by omega
          exact absurd rfl he
      have := invK_at h (k := k) (by omega) hlt
      rw [getBang (by rw [invK_len]; omega)] at this
      exact this
def invP (n : Nat) (l : List Int) : List Int := invK l n n
theorem invP_at {n : Nat} {l : List Int} (h : PermP n l) {p : Nat} (hp : p < n) : (invP n l)[(l[p]!).toNat]! = (p : Int) := invK_at h (Nat.le_refl _) hp
theorem invP_perm {n : Nat} {l : List Int} (h : PermP n l) : PermP n (invP n l) := by
  refine PermP.of_all (fun q h0 hq => ?_) (invK_len _ _ _)
  have h1 := invP_at h (p := q.toNat) (by omega)
  have h2 := h.at (p := q.toNat) (by omega)
  rw [getBang (by rw [show (invP n l).length = n from invK_len _ _ _]; omega)] at h1
  have : ((q.toNat : Nat) : Int) = q := by omega
  rw [← this, ← h1]
  exact List.getElem_mem _
theorem imgF_inv {n : Nat} {l s : List Int} (h : PermP n l) (hs : isSet s n = true) : imgF (invP n l) (imgF l s) = s := by
  refine imgF_ext (invP_perm h) (imgF_set h hs) hs fun q hq => ?_
  obtain ⟨p, hp, he⟩ := h.onto (q := q) (by omega) (by omega)
  have h1 := invP_at h hp
  rw [he, Int.toNat_natCast] at h1
  rw [h1, ← he]
  exact (imgF_at h hs (p := p) (by omega) (by omega)).symm
/-! operators -/
theorem imgOp_ok {n : Nat} {perm : List Int} {o : Op} (hp : PermP n perm) (ho : opOk o n = true) : opOk (imgOp perm o) n = true := by
  obtain ⟨h1, h2, h3, h4⟩ := opOk_sets ho
  unfold opOk
  rw [show isSet (imgOp perm o).pre n = true from imgF_set hp h1, show isSet (imgOp perm o).add n = true from imgF_set hp h2, show isSet (imgOp perm o).del n = true from imgF_set hp h3]
  show (disB (imgF perm o.add) (imgF perm o.del)) = true
  rw [disB_iff] at h4 ⊢
  intro x hx hd
  obtain ⟨p, hm, rfl⟩ := imgF_mem.1 hx
  have := (isSet_iff.1 h2).1 p hm
  exact h4 p hm ((imgF_at hp h3 this.1 this.2).1 hd)
theorem imgOp_comp {n : Nat} {a b : List Int} {o : Op} (ha : PermP n a) (hb : PermP n b) (ho : opOk o n = true) : imgOp (compP a b) o = imgOp a (imgOp b o) := by
  obtain ⟨h1, h2, h3, h4⟩ := opOk_sets ho
  unfold imgOp
  simp only [imgF_comp ha hb h1, imgF_comp ha hb h2, imgF_comp ha hb h3]
theorem imgOp_inv {n : Nat} {l : List Int} {o : Op} (h : PermP n l) (ho : opOk o n = true) : imgOp (invP n l) (imgOp l o) = o := by
  obtain ⟨h1, h2, h3, h4⟩ := opOk_sets ho
  unfold imgOp
  simp only [imgF_inv h h1, imgF_inv h h2, imgF_inv h h3]
theorem imgOp_id {n : Nat} {o : Op} (ho : opOk o n = true) : imgOp (upTo n) o = o := by
  obtain ⟨h1, h2, h3, h4⟩ := opOk_sets ho
  unfold imgOp
  simp only [imgF_id h1, imgF_id h2, imgF_id h3]
/-! the greedy matching -/
theorem fndI_no {p : Nat → Bool} : ∀ {k : Nat}, fndI p k < 0 → ∀ i, i < k → p i = false
  | k + 1, h, i, hi => by
    rw [fndI] at h
    split at h
    · omega
    · split at h
      · omega
      · rename_i h1 h2
        rcases Nat.lt_or_ge i k with h3 | h3
        · exact fndI_no (by omega) i h3
        · obtain rfl : i = k := by omega
          simpa using h2
theorem fndI_yes {p : Nat → Bool} : ∀ {k : Nat}, 0 ≤ fndI p k → (fndI p k).toNat < k ∧ p (fndI p k).toNat = true
  | k + 1, h => by
    rw [fndI] at h ⊢
    split
    · rename_i h1
      have := fndI_yes h1
      exact ⟨by omega, this.2⟩
    · rename_i h1
      rw [if_neg h1] at h
      split
      · rename_i h2
        rw [Int.toNat_natCast]
        exact ⟨by omega, h2⟩
      · rename_i h2; rw [if_neg h2] at h; omega
  | 0, h => by simp [fndI] at h
/-- The operators that are not used, as a list. -/
def unuL (ops : List Op) (used : List Nat) : List Op := ((List.range ops.length).filter fun i => !used.contains i).map fun i => ops[i]!
theorem unuL_nil (ops : List Op) : unuL ops [] = ops := by
  unfold unuL
  rw [List.filter_eq_self.2 (by simp)]
  apply List.ext_getElem
  · simp
  · intro i h1 h2
    rw [List.getElem_map, List.getElem_range, getBang h2]
theorem count_unu {ops : List Op} {used : List Nat} {j : Nat} (hj : j < ops.length) (hu : used.contains j = false) (v : Op) : (unuL ops used).count v = (unuL ops (used ++ [j])).count v + if ops[j]! = v then 1 else 0 := by
  unfold unuL
  have : ∀ m, m ≤ ops.length → (((List.range m).filter fun i => !used.contains i).map fun i => ops[i]!).count v = (((List.range m).filter fun i => !(used ++ [j]).contains i).map fun i => ops[i]!).count v + if j < m ∧ ops[j]! = v then 1 else 0 := by
    intro m
    induction m with
    | zero => intro _; simp
    | succ m ih =>
      intro hm
      have h1 := ih (by omega)
      rw [List.range_succ, List.filter_append, List.filter_append, List.map_append, List.map_append, List.count_append, List.count_append, h1]
      by_cases e : m = j
      · subst e
        have h2 : (used ++ [m]).contains m = true := by simp
        simp only [List.filter_cons, List.filter_nil, hu, h2, Bool.not_false, Bool.not_true, if_true, List.map_cons, List.map_nil, List.count_nil]
        rw [List.count_cons, List.count_nil]
        by_cases e2 : ops[m]! = v
        · simp [e2]
        · simp [e2]
      · have h2 : (used ++ [j]).contains m = used.contains m := by simp [e]
        simp only [List.filter_cons, List.filter_nil, h2]
        have h3 : (j < m + 1 ∧ ops[j]! = v) ↔ (j < m ∧ ops[j]! = v) := by constructor <;> rintro ⟨h4, h5⟩ <;> exact ⟨by omega, h5⟩
        simp only [h3]
        omega
  have h := this ops.length (Nat.le_refl _)
  simp only [hj, true_and] at h
  exact h
theorem grd_iff {perm : List Int} {ops : List Op} : ∀ (r : List Op) (used : List Nat), (grd perm ops r used).isSome = true ↔ ∀ v, (r.map (imgOp perm)).count v ≤ (unuL ops used).count v
  | [], used => by simp [grd]
  | o :: r, used => by
    rw [grd]
    split
    · rename_i h
      refine ⟨fun h2 => by simp at h2, fun h2 => ?_⟩
      exfalso
      have h3 := h2 (imgOp perm o)
      rw [List.map_cons, List.count_cons_self] at h3
      have h4 : imgOp perm o ∈ unuL ops used := List.count_pos_iff.1 (by omega)
      unfold unuL at h4
      obtain ⟨i, hi, he⟩ := List.mem_map.1 h4
      obtain ⟨h5, h6⟩ := List.mem_filter.1 hi
      have := fndI_no h i (List.mem_range.1 h5)
      unfold okG at this
      rw [h6, he] at this
      simp at this
    · rename_i h
      obtain ⟨h1, h2⟩ := fndI_yes (p := okG perm ops used o) (k := ops.length) (by omega)
      have h3 : used.contains (fndI (okG perm ops used o) ops.length).toNat = false ∧ ops[(fndI (okG perm ops used o) ops.length).toNat]! = imgOp perm o := by
        have h2' : (!used.contains (fndI (okG perm ops used o) ops.length).toNat && decide (ops[(fndI (okG perm ops used o) ops.length).toNat]! = imgOp perm o)) = true := h2
        rw [Bool.and_eq_true, decide_eq_true_eq, Bool.not_eq_true'] at h2'
        exact h2'
      rw [grd_iff r]
      have hc := count_unu h1 h3.1
      rw [h3.2] at hc
      constructor
      · intro hv v
        have := hv v
        rw [hc v, List.map_cons, List.count_cons]
        simp only [beq_iff_eq]
        omega
      · intro hv v
        have := hv v
        rw [hc v, List.map_cons, List.count_cons] at this
        simp only [beq_iff_eq] at this
        omega
theorem grd_ops {perm : List Int} {ops : List Op} : ∀ (r : List Op) (used : List Nat) (l : List Nat), grd perm ops r used = some l → ∃ m, l = used ++ m ∧ m.length = r.length ∧ ∀ i, i < r.length → m[i]! < ops.length ∧ ops[m[i]!]! = imgOp perm r[i]!
  | [], used, l, h => by
    rw [grd] at h
    obtain rfl := Option.some.inj h
    exact ⟨[], by simp, rfl, fun i hi => by simp at hi⟩
  | o :: r, used, l, h => by
    rw [grd] at h
    split at h
    · simp at h
    · rename_i hn
      obtain ⟨h1, h2⟩ := fndI_yes (p := okG perm ops used o) (k := ops.length) (by omega)
      obtain ⟨m, rfl, h3, h4⟩ := grd_ops r _ l h
      refine ⟨(fndI (okG perm ops used o) ops.length).toNat :: m, by simp, by simp [h3], fun i hi => ?_⟩
      cases i with
      | zero =>
        have h2' : (!used.contains (fndI (okG perm ops used o) ops.length).toNat && decide (ops[(fndI (okG perm ops used o) ops.length).toNat]! = imgOp perm o)) = true := h2
        rw [Bool.and_eq_true, decide_eq_true_eq] at h2'
        exact ⟨h1, h2'.2⟩
      | succ i => exact h4 i (by simpa using hi)
/-- A permutation of the facts that is one of the task. -/
structure SymP (t : Task) (w : List Int) : Prop where
  perm : PermP t.facts.toNat w
  goal : imgF w t.goal = t.goal
  ops : (t.ops.map (imgOp w)).Perm t.ops
theorem extG_iff {t : Task} {perm : List Int} (hp : PermP t.facts.toNat perm) : (extG t perm).isSome = true ↔ SymP t perm := by
  unfold extG
  split
  · rename_i hg
    rw [grd_iff, unuL_nil]
    exact ⟨fun h => ⟨hp, hg, le_perm h (by simp)⟩, fun h v => Nat.le_of_eq (h.ops.count_eq v)⟩
  · rename_i hg
    exact ⟨fun h => by simp at h, fun h => absurd h.goal hg⟩
theorem extG_map {t : Task} {perm : List Int} {l : List Nat} (h : extG t perm = some l) : l.length = t.ops.length ∧ ∀ i, i < t.ops.length → l[i]! < t.ops.length ∧ t.ops[l[i]!]! = imgOp perm t.ops[i]! := by
  unfold extG at h
  split at h
  · obtain ⟨m, rfl, h1, h2⟩ := grd_ops _ _ _ h
    exact ⟨h1, h2⟩
  · simp at h
theorem wf_nat {t : Task} (hw : WfT t) : ((t.facts.toNat : Nat) : Int) = t.facts := Int.toNat_of_nonneg hw.f0
theorem wf_goal {t : Task} (hw : WfT t) : isSet t.goal (t.facts.toNat : Nat) = true := by rw [wf_nat hw]; exact hw.goal
theorem wf_op {t : Task} (hw : WfT t) {o : Op} (ho : o ∈ t.ops) : opOk o (t.facts.toNat : Nat) = true := by rw [wf_nat hw]; exact (hw.ops o ho).1
theorem SymP.id {t : Task} (hw : WfT t) : SymP t (upTo t.facts.toNat) := by
  refine ⟨PermP.id _, imgF_id (wf_goal hw), ?_⟩
  rw [show t.ops.map (imgOp (upTo t.facts.toNat)) = t.ops by
    conv => rhs; rw [← List.map_id t.ops]
    exact List.map_congr_left fun o ho => imgOp_id (wf_op hw ho)]
theorem SymP.comp {t : Task} (hw : WfT t) {a b : List Int} (ha : SymP t a) (hb : SymP t b) : SymP t (compP a b) := by
  refine ⟨compP_perm ha.perm hb.perm, by rw [imgF_comp ha.perm hb.perm (wf_goal hw), hb.goal, ha.goal], ?_⟩
  rw [show t.ops.map (imgOp (compP a b)) = (t.ops.map (imgOp b)).map (imgOp a) by
    rw [List.map_map]
    exact List.map_congr_left fun o ho => imgOp_comp ha.perm hb.perm (wf_op hw ho)]
  exact (hb.ops.map _).trans ha.ops
theorem SymP.inv {t : Task} (hw : WfT t) {l : List Int} (h : SymP t l) : SymP t (invP t.facts.toNat l) := by
  have hi := invP_perm h.perm
  refine ⟨hi, by have := imgF_inv h.perm (wf_goal hw); rw [h.goal] at this; exact this, ?_⟩
  have h1 := h.ops.map (imgOp (invP t.facts.toNat l))
  rw [List.map_map, show t.ops.map (imgOp (invP t.facts.toNat l) ∘ imgOp l) = t.ops by
    conv => rhs; rw [← List.map_id t.ops]
    exact List.map_congr_left fun o ho => imgOp_inv h.perm (wf_op hw ho)] at h1
  exact h1.symm
end Go.Proofs.Ytbeceabheahpnaa
