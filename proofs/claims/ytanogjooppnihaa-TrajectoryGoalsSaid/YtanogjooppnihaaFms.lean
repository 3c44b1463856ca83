import Derived.Test.YtanogjooppnihaaFmv

namespace Go.Proofs.Ytanogjooppnihaa
open Go.Ab
open Go
set_option linter.unusedSimpArgs false
set_option linter.unusedVariables false
set_option maxRecDepth 10000
/-! formulas as trees, and when they are true -/
inductive Fm where
  | leaf (k f : Int)
  | un (k f : Int) (a : Fm)
  | bin (k f : Int) (a b : Fm)
  deriving Inhabited
/-- Node i of the list is this formula. -/
def Dec (l : List FNode) : Fm → Nat → Prop
  | .leaf k f, i => i < l.length ∧ l[i]! = ⟨k, [], f⟩ ∧ (k = 1 ∨ k = 2)
  | .un k f a, i => i < l.length ∧ (k = 3 ∨ k = 6 ∨ k = 8 ∨ k = 9) ∧ ∃ c : Nat, l[i]! = ⟨k, [(c : Int)], f⟩ ∧ c < i ∧ Dec l a c
  | .bin k f a b, i => i < l.length ∧ (k = 4 ∨ k = 5 ∨ k = 7) ∧ ∃ c d : Nat, l[i]! = ⟨k, [(c : Int), (d : Int)], f⟩ ∧ c < i ∧ d < i ∧ Dec l a c ∧ Dec l b d
def okF (facts : Int) : Fm → Prop
  | .leaf k f => k = 2 → 0 ≤ f ∧ f < facts
  | .un _ _ a => okF facts a
  | .bin _ _ a b => okF facts a ∧ okF facts b
theorem runF_dec {facts : Int} {l : List FNode} {fs : List Int} (h : runF facts l l.length = .inr fs) : ∀ i : Nat, i < l.length → ∃ t, Dec l t i ∧ okF facts t := by
  intro i
  induction i using Nat.strongRecOn with
  | _ i ih =>
    intro hi
    obtain ⟨⟨k1, k2⟩, har, hfa, _⟩ := nodeE_inr (runF_node h hi)
    obtain ⟨hk, _⟩ := runF_kids h hi
    generalize hn : l[i]! = n at *
    obtain ⟨k, kids, f⟩ := n
    simp only at *
    unfold arityZ at har
    match kids, har, hk with
    | [], har, _ =>
      have : k = 1 ∨ k = 2 := by
        simp only [List.length_nil] at har
        split at har
        · assumption
        · split at har <;> simp at har
      exact ⟨.leaf k f, ⟨hi, hn, this⟩, fun e => hfa e⟩
    | [c], har, hk =>
      have : k = 3 ∨ k = 6 ∨ k = 8 ∨ k = 9 := by
        simp only [List.length_cons, List.length_nil] at har
        split at har
        · simp at har
        · split at har
          · simp at har
          · omega
      have hc := hk c (by simp)
      obtain ⟨a, ha, hao⟩ := ih c.toNat (by omega) (by omega)
      exact ⟨.un k f a, ⟨hi, this, c.toNat, by rw [hn, Int.toNat_of_nonneg hc.1], by omega, ha⟩, hao⟩
    | [c, d], har, hk =>
      have : k = 4 ∨ k = 5 ∨ k = 7 := by
        simp only [List.length_cons, List.length_nil] at har
        split at har
        · simp at har
        · split at har
          · assumption
          · simp at har
      have hc := hk c (by simp)
      have hd := hk d (by simp)
      obtain ⟨a, ha, hao⟩ := ih c.toNat (by omega) (by omega)
      obtain ⟨b, hb, hbo⟩ := ih d.toNat (by omega) (by omega)
      exact ⟨.bin k f a b, ⟨hi, this, c.toNat, d.toNat, by rw [hn, Int.toNat_of_nonneg hc.1, Int.toNat_of_nonneg hd.1], by omega, by omega, ha, hb⟩, hao, hbo⟩
    | c :: d :: e :: r, har, _ =>
      exfalso
      simp only [List.length_cons] at har
      split at har
      · omega
      · split at har <;> omega
theorem dec_inj {l : List FNode} : ∀ {a b : Fm} {i : Nat}, Dec l a i → Dec l b i → a = b
  | .leaf k f, .leaf k' f', i, ⟨_, h, _⟩, ⟨_, h', _⟩ => by
    rw [h] at h'; injection h' with h1 h2 h3; subst h1 h3; rfl
  | .leaf k f, .un k' f' a, i, ⟨_, h, _⟩, ⟨_, _, c, h', _⟩ => by rw [h] at h'; injection h' with h1 h2 h3; cases h2
  | .leaf k f, .bin k' f' a b, i, ⟨_, h, _⟩, ⟨_, _, c, d, h', _⟩ => by rw [h] at h'; injection h' with h1 h2 h3; cases h2
  | .un k' f' a, .leaf k f, i, ⟨_, _, c, h', _⟩, ⟨_, h, _⟩ => by rw [h] at h'; injection h' with h1 h2 h3; cases h2
  | .bin k' f' a b, .leaf k f, i, ⟨_, _, c, d, h', _⟩, ⟨_, h, _⟩ => by rw [h] at h'; injection h' with h1 h2 h3; cases h2
  | .un k f a, .bin k' f' a' b', i, ⟨_, _, c, h, _⟩, ⟨_, _, d, e, h', _⟩ => by rw [h] at h'; injection h' with h1 h2 h3; simp at h2
  | .bin k f a b, .un k' f' a', i, ⟨_, _, c, d, h, _⟩, ⟨_, _, e, h', _⟩ => by rw [h] at h'; injection h' with h1 h2 h3; simp at h2
  | .un k f a, .un k' f' a', i, ⟨_, _, c, h, _, ha⟩, ⟨_, _, d, h', _, ha'⟩ => by
    rw [h] at h'; injection h' with h1 h2 h3; simp at h2
    have : c = d := by omega
    subst this h1 h3
    rw [dec_inj ha ha']
  | .bin k f a b, .bin k' f' a' b', i, ⟨_, _, c, d, h, _, _, ha, hb⟩, ⟨_, _, c', d', h', _, _, ha', hb'⟩ => by
    rw [h] at h'; injection h' with h1 h2 h3; simp at h2
    obtain ⟨e1, e2⟩ := h2
    have e1 : c = c' := by omega
    have e2 : d = d' := by omega
    subst e1 e2 h1 h3
    rw [dec_inj ha ha', dec_inj hb hb']
/-! suffixes -/
def sfx : List (List Int) → List (List (List Int))
  | [] => []
  | x :: r => (x :: r) :: sfx r
theorem sfx_len : ∀ ss, (sfx ss).length = ss.length
  | [] => rfl
  | x :: r => by simp [sfx, sfx_len r]
theorem sfx_get : ∀ {ss : List (List Int)} {i : Nat} (h : i < (sfx ss).length), (sfx ss)[i] = ss.drop i
  | x :: r, 0, _ => rfl
  | x :: r, i + 1, h => by simpa [sfx] using sfx_get (ss := r) (i := i) (by simpa [sfx] using h)
def allS (p : List (List Int) → Bool) : List (List Int) → Bool
  | [] => true
  | x :: r => p (x :: r) && allS p r
def anyS (p : List (List Int) → Bool) : List (List Int) → Bool
  | [] => false
  | x :: r => p (x :: r) || anyS p r
def untS (p q : List (List Int) → Bool) : List (List Int) → Bool
  | [] => false
  | x :: r => q (x :: r) || (p (x :: r) && untS p q r)
def nextS (p : List (List Int) → Bool) : List (List Int) → Bool
  | _ :: y :: r => p (y :: r)
  | _ => false
/-- Whether a formula is true for a list of states. -/
def sat : Fm → List (List Int) → Bool
  | .leaf k f, ss => if k = 1 then true else hasB (ss.headD []) f
  | .un k _ a, ss => if k = 3 then !sat a ss else if k = 6 then nextS (sat a) ss else if k = 8 then allS (sat a) ss else anyS (sat a) ss
  | .bin k _ a b, ss => if k = 4 then sat a ss && sat b ss else if k = 5 then sat a ss || sat b ss else untS (sat a) (sat b) ss
/-- The values of a formula from each state on. -/
def satR (t : Fm) (ss : List (List Int)) : List Bool := (sfx ss).map (sat t)
theorem satR_len (t : Fm) (ss : List (List Int)) : (satR t ss).length = ss.length := by rw [satR, List.length_map, sfx_len]
theorem satR_get {t : Fm} {ss : List (List Int)} {i : Nat} (h : i < (satR t ss).length) : (satR t ss)[i] = sat t (ss.drop i) := by
  have h2 : i < (sfx ss).length := by rw [satR_len] at h; rw [sfx_len]; exact h
  rw [← sfx_get h2]; simp [satR]
theorem satR_drop {t : Fm} {ss : List (List Int)} {i : Nat} (h : i < ss.length) : satR t (ss.drop i) = sat t (ss.drop i) :: satR t (ss.drop (i + 1)) := by
  rw [List.drop_eq_getElem_cons h]; rfl
/-- The value of a row at its next place. -/
def laterB (t : Fm) (ss : List (List Int)) : Bool := match ss with | [] => false | x :: r => sat t (x :: r)
theorem sat_un_next {f : Int} {a : Fm} {ss : List (List Int)} {i : Nat} (h : i < ss.length) : sat (.un 6 f a) (ss.drop i) = (decide (i + 1 < ss.length) && sat a (ss.drop (i + 1))) := by
  rw [List.drop_eq_getElem_cons h]
  by_cases h2 : i + 1 < ss.length
  · rw [List.drop_eq_getElem_cons h2]
    simp [sat, nextS, h2]
  · rw [List.drop_eq_nil_of_le (show ss.length ≤ i + 1 by omega)]
    simp [sat, nextS, h2]
theorem sat_all {f : Int} {a : Fm} {ss : List (List Int)} {i : Nat} (h : i < ss.length) : sat (.un 8 f a) (ss.drop i) = (sat a (ss.drop i) && (decide (i + 1 = ss.length) || laterB (.un 8 f a) (ss.drop (i + 1)))) := by
  rw [List.drop_eq_getElem_cons h]
  by_cases h2 : i + 1 < ss.length
  · rw [List.drop_eq_getElem_cons h2]
    simp [sat, allS, laterB, show ¬ i + 1 = ss.length by omega]
  · rw [List.drop_eq_nil_of_le (show ss.length ≤ i + 1 by omega)]
    simp [sat, allS, laterB, show i + 1 = ss.length by omega]
theorem sat_any {f : Int} {a : Fm} {ss : List (List Int)} {i : Nat} (h : i < ss.length) : sat (.un 9 f a) (ss.drop i) = (sat a (ss.drop i) || laterB (.un 9 f a) (ss.drop (i + 1))) := by
  rw [List.drop_eq_getElem_cons h]
  by_cases h2 : i + 1 < ss.length
  · rw [List.drop_eq_getElem_cons h2]
    simp [sat, anyS, laterB]
  · rw [List.drop_eq_nil_of_le (show ss.length ≤ i + 1 by omega)]
    simp [sat, anyS, laterB]
theorem sat_unt {f : Int} {a b : Fm} {ss : List (List Int)} {i : Nat} (h : i < ss.length) : sat (.bin 7 f a b) (ss.drop i) = (sat b (ss.drop i) || (sat a (ss.drop i) && laterB (.bin 7 f a b) (ss.drop (i + 1)))) := by
  rw [List.drop_eq_getElem_cons h]
  by_cases h2 : i + 1 < ss.length
  · rw [List.drop_eq_getElem_cons h2]
    simp [sat, untS, laterB]
  · rw [List.drop_eq_nil_of_le (show ss.length ≤ i + 1 by omega)]
    simp [sat, untS, laterB]
end Go.Proofs.Ytanogjooppnihaa
