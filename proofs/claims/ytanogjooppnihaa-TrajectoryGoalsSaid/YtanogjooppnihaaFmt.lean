import Derived.Test.YtanogjooppnihaaFms

namespace Go.Proofs.Ytanogjooppnihaa
open Go.Ab
open Go
set_option linter.unusedSimpArgs false
set_option linter.unusedVariables false
set_option maxRecDepth 10000
/-! what remains of a formula after a first state (plain) -/
def alwaysT : Fm := .leaf 1 0
def neverT : Fm := .un 3 0 alwaysT
def kindOK : Fm → Prop
  | .leaf k _ => k = 1 ∨ k = 2
  | .un k _ a => (k = 3 ∨ k = 6 ∨ k = 8 ∨ k = 9) ∧ kindOK a
  | .bin k _ a b => (k = 4 ∨ k = 5 ∨ k = 7) ∧ kindOK a ∧ kindOK b
def isTrueF : Fm → Bool
  | .leaf k _ => k == 1
  | _ => false
def isFalseF : Fm → Bool
  | .un k _ a => k == 3 && isTrueF a
  | _ => false
def negF (t : Fm) : Fm := match t with
  | .un k f a => if k = 3 then a else .un 3 0 (.un k f a)
  | t => .un 3 0 t
def notF (t : Fm) : Fm := if isTrueF t then neverT else negF t
def andF (a b : Fm) : Fm := if isFalseF a || isTrueF b then a else if isFalseF b || isTrueF a then b else .bin 4 0 a b
def orF (a b : Fm) : Fm := notF (andF (notF a) (notF b))
def truthF (b : Bool) : Fm := if b then alwaysT else neverT
def afterF (s : List Int) : Fm → Fm
  | .leaf k f => if k = 2 then truthF (hasB s f) else alwaysT
  | .un k f a => if k = 3 then notF (afterF s a) else if k = 6 then a else if k = 8 then andF (afterF s a) (.un k f a) else orF (afterF s a) (.un k f a)
  | .bin k f a b => if k = 4 then andF (afterF s a) (afterF s b) else if k = 5 then orF (afterF s a) (afterF s b) else orF (afterF s b) (andF (afterF s a) (.bin k f a b))
def sz : Fm → Nat
  | .leaf _ _ => 1
  | .un _ _ a => sz a + 1
  | .bin _ _ a b => sz a + sz b + 1
theorem sz_pos : ∀ t, 0 < sz t
  | .leaf _ _ => Nat.one_pos
  | .un _ _ a => Nat.succ_pos _
  | .bin _ _ a b => Nat.succ_pos _
theorem dec_kind {l : List FNode} : ∀ {t : Fm} {i : Nat}, Dec l t i → kindOK t
  | .leaf k f, i, ⟨_, _, h⟩ => h
  | .un k f a, i, ⟨_, h, c, _, _, ha⟩ => ⟨h, dec_kind ha⟩
  | .bin k f a b, i, ⟨_, h, c, d, _, _, _, ha, hb⟩ => ⟨h, dec_kind ha, dec_kind hb⟩
theorem dec_sz {facts : Int} {l : List FNode} {k : Nat} {fs : List Int} (h : runF facts l k = .inr fs) : ∀ {t : Fm} {i : Nat}, i < k → Dec l t i → (sz t : Int) = i - fs[i]! + 1
  | .leaf _ f, i, hi, ⟨_, hn, _⟩ => by
    obtain ⟨_, h2⟩ := runF_kids h hi
    rw [hn] at h2
    simp only [sumS, List.map_nil, List.sum_nil] at h2
    simp only [sz]; omega
  | .un _ f a, i, hi, ⟨_, _, c, hn, hc, ha⟩ => by
    obtain ⟨_, h2⟩ := runF_kids h hi
    rw [hn] at h2
    simp only [sumS, List.map_cons, List.map_nil, List.sum_cons, List.sum_nil, Int.toNat_natCast] at h2
    have := dec_sz h (by omega) ha
    simp only [sz]; omega
  | .bin _ f a b, i, hi, ⟨_, _, c, d, hn, hc, hd, ha, hb⟩ => by
    obtain ⟨_, h2⟩ := runF_kids h hi
    rw [hn] at h2
    simp only [sumS, List.map_cons, List.map_nil, List.sum_cons, List.sum_nil, Int.toNat_natCast] at h2
    have h3 := dec_sz h (by omega) ha
    have h4 := dec_sz h (by omega) hb
    simp only [sz]; omega
theorem neg_ok {t : Fm} (h : kindOK t) : kindOK (negF t) := by
  cases t with
  | leaf k f => exact ⟨.inl rfl, h⟩
  | bin k f a b => exact ⟨.inl rfl, h⟩
  | un k f a =>
    show kindOK (if k = 3 then a else .un 3 0 (.un k f a))
    split
    · exact h.2
    · exact ⟨.inl rfl, h⟩
theorem not_ok {t : Fm} (h : kindOK t) : kindOK (notF t) := by
  unfold notF
  split
  · exact ⟨.inl rfl, .inl rfl⟩
  · exact neg_ok h
theorem and_ok {a b : Fm} (h : kindOK a) (h2 : kindOK b) : kindOK (andF a b) := by
  unfold andF
  split
  · exact h
  · split
    · exact h2
    · exact ⟨.inl rfl, h, h2⟩
theorem or_ok {a b : Fm} (h : kindOK a) (h2 : kindOK b) : kindOK (orF a b) := not_ok (and_ok (not_ok h) (not_ok h2))
theorem truth_ok (b : Bool) : kindOK (truthF b) := by
  unfold truthF
  split
  · exact .inl rfl
  · exact ⟨.inl rfl, .inl rfl⟩
theorem after_ok {s : List Int} : ∀ {t : Fm}, kindOK t → kindOK (afterF s t)
  | .leaf k f, _ => by
    simp only [afterF]
    split
    · exact truth_ok _
    · exact .inl rfl
  | .un k f a, h => by
    have ha := after_ok (s := s) h.2
    simp only [afterF]
    split
    · exact not_ok ha
    · split
      · exact h.2
      · split
        · exact and_ok ha h
        · exact or_ok ha h
  | .bin k f a b, h => by
    have ha := after_ok (s := s) h.2.1
    have hb := after_ok (s := s) h.2.2
    simp only [afterF]
    split
    · exact and_ok ha hb
    · split
      · exact or_ok ha hb
      · exact or_ok hb (and_ok ha h)
/-! the facts stay in their range -/
theorem neg_okF {n : Int} {t : Fm} (h : okF n t) : okF n (negF t) := by
  cases t with
  | leaf k f => exact h
  | bin k f a b => exact h
  | un k f a =>
    show okF n (if k = 3 then a else .un 3 0 (.un k f a))
    split
    · exact h
    · exact h
theorem never_okF (n : Int) : okF n neverT := fun e => absurd e (by decide)
theorem not_okF {n : Int} {t : Fm} (h : okF n t) : okF n (notF t) := by
  unfold notF
  split
  · exact never_okF n
  · exact neg_okF h
theorem and_okF {n : Int} {a b : Fm} (h : okF n a) (h2 : okF n b) : okF n (andF a b) := by
  unfold andF
  split
  · exact h
  · split
    · exact h2
    · exact ⟨h, h2⟩
theorem or_okF {n : Int} {a b : Fm} (h : okF n a) (h2 : okF n b) : okF n (orF a b) := not_okF (and_okF (not_okF h) (not_okF h2))
theorem truth_okF (n : Int) (b : Bool) : okF n (truthF b) := by
  unfold truthF
  split
  · exact fun e => absurd e (by decide)
  · exact never_okF n
theorem after_okF {n : Int} {s : List Int} : ∀ {t : Fm}, okF n t → okF n (afterF s t)
  | .leaf k f, _ => by
    simp only [afterF]
    split
    · exact truth_okF _ _
    · exact fun e => absurd e (by decide)
  | .un k f a, h => by
    have ha := after_okF (s := s) (t := a) h
    simp only [afterF]
    split
    · exact not_okF ha
    · split
      · exact h
      · split
        · exact and_okF ha h
        · exact or_okF ha h
  | .bin k f a b, h => by
    have ha := after_okF (s := s) h.1
    have hb := after_okF (s := s) h.2
    simp only [afterF]
    split
    · exact and_okF ha hb
    · split
      · exact or_okF ha hb
      · exact or_okF hb (and_okF ha h)
/-! sizes -/
theorem neg_sz (t : Fm) : sz (negF t) ≤ sz t + 1 := by
  cases t with
  | leaf k f => exact Nat.le_refl _
  | bin k f a b => exact Nat.le_refl _
  | un k f a =>
    show sz (if k = 3 then a else .un 3 0 (.un k f a)) ≤ _
    split
    · simp only [sz]; omega
    · exact Nat.le_refl _
theorem not_sz (t : Fm) : sz (notF t) ≤ sz t + 1 := by
  unfold notF
  split
  · have := sz_pos t; simp only [neverT, alwaysT, sz]; omega
  · exact neg_sz t
theorem and_sz (a b : Fm) : sz (andF a b) ≤ sz a + sz b + 1 := by
  unfold andF
  split
  · omega
  · split
    · omega
    · exact Nat.le_refl _
theorem or_sz (a b : Fm) : sz (orF a b) ≤ sz a + sz b + 4 := by
  have h1 := not_sz a
  have h2 := not_sz b
  have h3 := and_sz (notF a) (notF b)
  have h4 := not_sz (andF (notF a) (notF b))
  unfold orF
  omega
theorem after_sz {s : List Int} : ∀ {t : Fm}, sz t ≤ 60 → sz (afterF s t) ≤ 66 * sz t
  | .leaf k f, _ => by
    simp only [afterF, sz]
    split
    · unfold truthF; split <;> simp [alwaysT, neverT, sz]
    · simp [alwaysT, sz]
  | .un k f a, h => by
    simp only [sz] at h ⊢
    have ha := after_sz (s := s) (t := a) (by omega)
    have h1 := not_sz (afterF s a)
    have h2 := and_sz (afterF s a) (.un k f a)
    have h3 := or_sz (afterF s a) (.un k f a)
    simp only [sz] at h2 h3
    simp only [afterF]
    split
    · omega
    · split
      · omega
      · split <;> omega
  | .bin k f a b, h => by
    simp only [sz] at h ⊢
    have ha := after_sz (s := s) (t := a) (by omega)
    have hb := after_sz (s := s) (t := b) (by omega)
    have h1 := and_sz (afterF s a) (afterF s b)
    have h2 := or_sz (afterF s a) (afterF s b)
    have h3 := and_sz (afterF s a) (.bin k f a b)
    have h4 := or_sz (afterF s b) (andF (afterF s a) (.bin k f a b))
    simp only [sz] at h3 h4
    simp only [afterF]
    split
    · omega
    · split <;> omega
/-! truth -/
theorem sat_true {t : Fm} (h : isTrueF t = true) (ss : List (List Int)) : sat t ss = true := by
  cases t with
  | leaf k f => simp only [isTrueF, beq_iff_eq] at h; subst h; rfl
  | un k f a => cases h
  | bin k f a b => cases h
theorem sat_false {t : Fm} (h : isFalseF t = true) (ss : List (List Int)) : sat t ss = false := by
  cases t with
  | un k f a =>
    simp only [isFalseF, Bool.and_eq_true, beq_iff_eq] at h
    obtain ⟨rfl, h⟩ := h
    show (!sat a ss) = false
    rw [sat_true h]; rfl
  | leaf k f => cases h
  | bin k f a b => cases h
theorem sat_neg (t : Fm) (ss : List (List Int)) : sat (negF t) ss = !sat t ss := by
  cases t with
  | leaf k f => rfl
  | bin k f a b => rfl
  | un k f a =>
    by_cases hk : k = 3
    · subst hk; show sat a ss = !!sat a ss; rw [Bool.not_not]
    · have : negF (.un k f a) = .un 3 0 (.un k f a) := by simp [negF, hk]
      rw [this]; rfl
theorem sat_not (t : Fm) (ss : List (List Int)) : sat (notF t) ss = !sat t ss := by
  unfold notF
  split
  · rename_i h; rw [sat_true h]; rfl
  · exact sat_neg t ss
theorem sat_and (a b : Fm) (ss : List (List Int)) : sat (andF a b) ss = (sat a ss && sat b ss) := by
  unfold andF
  split
  · rename_i h
    rw [Bool.or_eq_true] at h; rcases h with h | h
    · rw [sat_false h]; rfl
    · rw [sat_true h, Bool.and_true]
  · split
    · rename_i h
      rw [Bool.or_eq_true] at h; rcases h with h | h
      · rw [sat_false h, Bool.and_false]
      · rw [sat_true h, Bool.true_and]
    · rfl
theorem sat_or (a b : Fm) (ss : List (List Int)) : sat (orF a b) ss = (sat a ss || sat b ss) := by
  unfold orF
  rw [sat_not, sat_and, sat_not, sat_not]
  cases sat a ss <;> cases sat b ss <;> rfl
theorem sat_truth (b : Bool) (ss : List (List Int)) : sat (truthF b) ss = b := by cases b <;> rfl
theorem sat_after {s : List Int} {x : List Int} {ss : List (List Int)} : ∀ {t : Fm}, kindOK t → sat (afterF s t) (x :: ss) = sat t (s :: x :: ss)
  | .leaf k f, h => by
    simp only [afterF]
    rcases h with rfl | rfl
    · rfl
    · rw [if_pos rfl, sat_truth]; rfl
  | .un k f a, h => by
    have ha := sat_after (s := s) (x := x) (ss := ss) h.2
    simp only [afterF]
    rcases h.1 with rfl | rfl | rfl | rfl
    · rw [if_pos rfl, sat_not, ha]; rfl
    · rfl
    · rw [if_neg (by decide), if_neg (by decide), if_pos rfl, sat_and, ha]; rfl
    · rw [if_neg (by decide), if_neg (by decide), if_neg (by decide), sat_or, ha]; rfl
  | .bin k f a b, h => by
    have ha := sat_after (s := s) (x := x) (ss := ss) h.2.1
    have hb := sat_after (s := s) (x := x) (ss := ss) h.2.2
    simp only [afterF]
    rcases h.1 with rfl | rfl | rfl
    · rw [if_pos rfl, sat_and, ha, hb]; rfl
    · rw [if_neg (by decide), if_pos rfl, sat_or, ha, hb]; rfl
    · rw [if_neg (by decide), if_neg (by decide), sat_or, sat_and, ha, hb]; rfl
/-! a tree's nodes in a list -/
def kidsF : Fm → List Fm
  | .leaf _ _ => []
  | .un _ _ a => [a]
  | .bin _ _ a b => [a, b]
def kdF : Fm → Int
  | .leaf k _ => k
  | .un k _ _ => k
  | .bin k _ _ _ => k
def ftF : Fm → Int
  | .leaf _ f => f
  | .un _ f _ => f
  | .bin _ f _ _ => f
def flatT (n : Nat) : Fm → List FNode
  | .leaf k f => [⟨k, [], f⟩]
  | .un k f a => flatT n a ++ [⟨k, [(n : Int) + sz a - 1], f⟩]
  | .bin k f a b => flatT n a ++ (flatT (n + sz a) b ++ [⟨k, [(n : Int) + sz a - 1, (n : Int) + sz a + sz b - 1], f⟩])
def flatL (n : Nat) : List Fm → List FNode
  | [] => []
  | a :: r => flatT n a ++ flatL (n + sz a) r
def idxL (n : Nat) : List Fm → List Int
  | [] => []
  | a :: r => ((n : Int) + sz a - 1) :: idxL (n + sz a) r
def szL : List Fm → Nat
  | [] => 0
  | a :: r => sz a + szL r
theorem flatT_len : ∀ (t : Fm) (n : Nat), (flatT n t).length = sz t
  | .leaf _ _, n => rfl
  | .un _ _ a, n => by simp [flatT, flatT_len a, sz]
  | .bin _ _ a b, n => by simp [flatT, flatT_len a, flatT_len b, sz]; omega
theorem flatL_len : ∀ (ks : List Fm) (n : Nat), (flatL n ks).length = szL ks
  | [], n => rfl
  | a :: r, n => by simp [flatL, flatT_len, flatL_len r, szL]
theorem idxL_len : ∀ (ks : List Fm) (n : Nat), (idxL n ks).length = ks.length
  | [], n => rfl
  | a :: r, n => by simp [idxL, idxL_len r]
theorem flatT_eq (n : Nat) (t : Fm) : flatT n t = flatL n (kidsF t) ++ [⟨kdF t, idxL n (kidsF t), ftF t⟩] := by
  cases t with
  | leaf k f => rfl
  | un k f a => simp [flatT, flatL, idxL, kidsF, kdF, ftF]
  | bin k f a b => simp [flatT, flatL, idxL, kidsF, kdF, ftF]
theorem flatL_snoc : ∀ (ks : List Fm) (a : Fm) (n : Nat), flatL n (ks ++ [a]) = flatL n ks ++ flatT (n + szL ks) a
  | [], a, n => by simp [flatL, szL]
  | b :: r, a, n => by
    rw [List.cons_append, flatL, flatL_snoc r a, flatL, szL, List.append_assoc, Nat.add_assoc]
theorem idxL_snoc : ∀ (ks : List Fm) (a : Fm) (n : Nat), idxL n (ks ++ [a]) = idxL n ks ++ [((n + szL ks : Nat) : Int) + sz a - 1]
  | [], a, n => by simp [idxL, szL]
  | b :: r, a, n => by
    rw [List.cons_append, idxL, idxL_snoc r a, idxL, szL, Nat.add_assoc]; rfl
theorem szL_snoc : ∀ (ks : List Fm) (a : Fm), szL (ks ++ [a]) = szL ks + sz a
  | [], a => by simp [szL]
  | b :: r, a => by rw [List.cons_append, szL, szL_snoc r a, szL]; omega
theorem szL_take : ∀ (ks : List Fm) (j : Nat), szL (ks.take j) ≤ szL ks
  | [], j => by simp
  | b :: r, 0 => by simp [szL]
  | b :: r, j + 1 => by have := szL_take r j; simp only [List.take_succ_cons, szL]; omega
theorem sz_kids (t : Fm) : sz t = szL (kidsF t) + 1 := by
  cases t <;> simp [sz, szL, kidsF]
theorem kid_sz {t a : Fm} (h : a ∈ kidsF t) : sz a < sz t := by
  cases t with
  | leaf k f => simp [kidsF] at h
  | un k f b => simp [kidsF] at h; subst h; simp [sz]
  | bin k f b c =>
    simp [kidsF] at h
    rcases h with rfl | rfl <;> simp only [sz] <;> omega
theorem kids_ok {t : Fm} (h : kindOK t) : ∀ a ∈ kidsF t, kindOK a := by
  intro a ha
  cases t with
  | leaf k f => simp [kidsF] at ha
  | un k f b => simp [kidsF] at ha; subst ha; exact h.2
  | bin k f b c =>
    simp [kidsF] at ha
    rcases ha with rfl | rfl
    · exact h.2.1
    · exact h.2.2
/-! the list is a valid formula, and its tree is the tree -/
theorem mid_get {pre l post : List FNode} {i : Nat} (h : i < l.length) : (pre ++ (l ++ post))[pre.length + i]! = l[i]! := by
  rw [List.getElem!_eq_getElem?_getD, List.getElem!_eq_getElem?_getD, List.getElem?_append_right (by omega), Nat.add_sub_cancel_left, List.getElem?_append_left h]
theorem dec_flat : ∀ {t : Fm} (pre post : List FNode) (_ : kindOK t), Dec (pre ++ (flatT pre.length t ++ post)) t (pre.length + sz t - 1)
  | .leaf k f, pre, post, h => by
    refine ⟨by simp [flatT, sz], ?_, h⟩
    show (pre ++ ([⟨k, [], f⟩] ++ post))[pre.length + 1 - 1]! = _
    exact mid_get (i := 0) (by simp)
  | .un k f a, pre, post, h => by
    have ha := dec_flat pre ([⟨k, [(pre.length : Int) + sz a - 1], f⟩] ++ post) h.2
    have hp := sz_pos a
    have hl := flatT_len a pre.length
    refine ⟨by simp [flatT, sz, hl], h.1, pre.length + sz a - 1, ?_, by simp only [sz]; omega, ?_⟩
    · have := mid_get (pre := pre) (l := flatT pre.length (.un k f a)) (post := post) (i := sz a) (by simp [flatT, hl])
      rw [show pre.length + sz (.un k f a) - 1 = pre.length + sz a by simp only [sz]; omega, this]
      simp only [flatT]
      rw [List.getElem!_eq_getElem?_getD, List.getElem?_append_right (by omega), hl, Nat.sub_self]
      simp only [List.getElem?_cons_zero, Option.getD_some]
      congr 2
      omega
    · rw [flatT, List.append_assoc]; exact ha
  | .bin k f a b, pre, post, h => by
    have hla := flatT_len a pre.length
    have hlb := flatT_len b (pre.length + sz a)
    have hpa := sz_pos a
    have hpb := sz_pos b
    have ha := dec_flat pre (flatT (pre.length + sz a) b ++ ([⟨k, [(pre.length : Int) + sz a - 1, (pre.length : Int) + sz a + sz b - 1], f⟩] ++ post)) h.2.1
    have hb := dec_flat (pre ++ flatT pre.length a) ([⟨k, [(pre.length : Int) + sz a - 1, (pre.length : Int) + sz a + sz b - 1], f⟩] ++ post) h.2.2
    rw [List.length_append, hla] at hb
    refine ⟨by simp [flatT, sz, hla, hlb], h.1, pre.length + sz a - 1, pre.length + sz a + sz b - 1, ?_, by simp only [sz]; omega, by simp only [sz]; omega, ?_, ?_⟩
    · have := mid_get (pre := pre) (l := flatT pre.length (.bin k f a b)) (post := post) (i := sz a + sz b) (by simp [flatT, hla, hlb])
      rw [show pre.length + sz (.bin k f a b) - 1 = pre.length + (sz a + sz b) by simp only [sz]; omega, this]
      simp only [flatT]
      rw [List.getElem!_eq_getElem?_getD, List.getElem?_append_right (by omega), List.getElem?_append_right (by omega), hla, hlb, show sz a + sz b - sz a - sz b = 0 by omega]
      simp only [List.getElem?_cons_zero, Option.getD_some]
      congr 2
      · omega
      · congr 1; omega
    · rw [flatT, List.append_assoc, List.append_assoc]; exact ha
    · rw [flatT, List.append_assoc, List.append_assoc]; rw [List.append_assoc] at hb; exact hb
theorem node_step {facts : Int} {l : List FNode} {k : Nat} {fs : List Int} {a : Int} (h : runF facts l k = .inr fs) (hn : nodeE facts l[k]! fs = .inr a) : runF facts l (k + 1) = .inr (fs ++ [a]) := by
  rw [runF, h]
  simp only []
  rw [hn]
theorem last_get {fs : List Int} {a : Int} {n : Nat} (h : fs.length = n) : (fs ++ [a])[n]! = a := by
  rw [List.getElem!_eq_getElem?_getD, List.getElem?_append_right (by omega), h, Nat.sub_self]; rfl
theorem front_get {fs : List Int} {r : List Int} {n : Nat} (h : n < fs.length) : (fs ++ r)[n]! = fs[n]! := by
  rw [List.getElem!_eq_getElem?_getD, List.getElem!_eq_getElem?_getD, List.getElem?_append_left h]
theorem run_flat {facts : Int} : ∀ {t : Fm} (pre post : List FNode) (fs0 : List Int), kindOK t → okF facts t → runF facts (pre ++ (flatT pre.length t ++ post)) pre.length = .inr fs0 →
    ∃ fs, runF facts (pre ++ (flatT pre.length t ++ post)) (pre.length + sz t) = .inr fs ∧ fs.length = pre.length + sz t ∧ fs[pre.length + sz t - 1]! = (pre.length : Int)
  | .leaf k f, pre, post, fs0, hk, ho, h => by
    have hl := runF_len h
    have hg : (pre ++ (flatT pre.length (.leaf k f) ++ post))[pre.length]! = ⟨k, [], f⟩ := mid_get (pre := pre) (l := [⟨k, [], f⟩]) (post := post) (i := 0) (by simp)
    refine ⟨fs0 ++ [(pre.length : Int)], node_step h ?_, by simp [hl, sz], last_get hl⟩
    rw [hg]
    unfold nodeE
    have hk : k = 1 ∨ k = 2 := hk
    have h1 : arityZ k = 0 := by unfold arityZ; rw [if_pos hk]
    have h2 : k = 2 → 0 ≤ f ∧ f < facts := ho
    rw [if_neg (by simp only; omega), if_neg (by simp [h1]), if_neg (by simp only; omega)]
    simp [chainK, hl]
  | .un k f a, pre, post, fs0, hk, ho, h => by
    have hla := flatT_len a pre.length
    have hpa := sz_pos a
    have e : pre ++ (flatT pre.length (.un k f a) ++ post) = pre ++ (flatT pre.length a ++ ([⟨k, [(pre.length : Int) + sz a - 1], f⟩] ++ post)) := by rw [flatT, List.append_assoc]
    have hg : (pre ++ (flatT pre.length (.un k f a) ++ post))[pre.length + sz a]! = ⟨k, [(pre.length : Int) + sz a - 1], f⟩ := by
      rw [mid_get (by simp [flatT, hla])]
      simp only [flatT]
      rw [List.getElem!_eq_getElem?_getD, List.getElem?_append_right (by omega), hla, Nat.sub_self]; rfl
    rw [e] at h hg ⊢
    obtain ⟨fs1, h1, h2, h3⟩ := run_flat pre ([⟨k, [(pre.length : Int) + sz a - 1], f⟩] ++ post) fs0 hk.2 ho h
    refine ⟨fs1 ++ [(pre.length : Int)], ?_, by simp [h2, sz]; omega, ?_⟩
    · have : pre.length + sz (.un k f a) = pre.length + sz a + 1 := by simp only [sz]; omega
      rw [this]
      refine node_step h1 ?_
      rw [hg]
      unfold nodeE
      have hk2 := hk.1
      have ha : arityZ k = 1 := by unfold arityZ; rw [if_neg (by omega), if_neg (by omega)]
      rw [if_neg (by simp only; omega), if_neg (by simp [ha]), if_neg (by simp only; omega)]
      simp only [List.reverse_cons, List.reverse_nil, List.nil_append, chainK]
      rw [if_neg (by omega), show ((pre.length : Int) + sz a - 1).toNat = pre.length + sz a - 1 by omega, h3]
    · rw [show pre.length + sz (.un k f a) - 1 = pre.length + sz a by simp only [sz]; omega]
      exact last_get h2
  | .bin k f a b, pre, post, fs0, hk, ho, h => by
    have hla := flatT_len a pre.length
    have hlb := flatT_len b (pre.length + sz a)
    have hpa := sz_pos a
    have hpb := sz_pos b
    have e : pre ++ (flatT pre.length (.bin k f a b) ++ post) = pre ++ (flatT pre.length a ++ (flatT (pre.length + sz a) b ++ ([⟨k, [(pre.length : Int) + sz a - 1, (pre.length : Int) + sz a + sz b - 1], f⟩] ++ post))) := by rw [flatT, List.append_assoc, List.append_assoc]
    have hg : (pre ++ (flatT pre.length (.bin k f a b) ++ post))[pre.length + (sz a + sz b)]! = ⟨k, [(pre.length : Int) + sz a - 1, (pre.length : Int) + sz a + sz b - 1], f⟩ := by
      rw [mid_get (by simp [flatT, hla, hlb])]
      simp only [flatT]
      rw [List.getElem!_eq_getElem?_getD, List.getElem?_append_right (by omega), List.getElem?_append_right (by omega), hla, hlb, show sz a + sz b - sz a - sz b = 0 by omega]; rfl
    rw [e] at h hg ⊢
    obtain ⟨fs1, h1, h2, h3⟩ := run_flat pre (flatT (pre.length + sz a) b ++ ([⟨k, [(pre.length : Int) + sz a - 1, (pre.length : Int) + sz a + sz b - 1], f⟩] ++ post)) fs0 hk.2.1 ho.1 h
    have hpl : (pre ++ flatT pre.length a).length = pre.length + sz a := by rw [List.length_append, hla]
    have := run_flat (pre ++ flatT pre.length a) ([⟨k, [(pre.length : Int) + sz a - 1, (pre.length : Int) + sz a + sz b - 1], f⟩] ++ post) fs1 hk.2.2 ho.2 (by rw [hpl, List.append_assoc]; exact h1)
    rw [hpl, List.append_assoc] at this
    obtain ⟨fs2, i1, i2, i3⟩ := this
    have h4 : fs2[pre.length + sz a - 1]! = (pre.length : Int) := by
      have := runF_le i1 (pre.length + sz a) (by omega)
      rw [h1] at this
      injection this with this
      rw [this, take_bang (by omega)] at h3
      exact h3
    refine ⟨fs2 ++ [(pre.length : Int)], ?_, by simp [i2, sz]; omega, ?_⟩
    · have : pre.length + sz (.bin k f a b) = pre.length + sz a + sz b + 1 := by simp only [sz]; omega
      rw [this]
      refine node_step i1 ?_
      rw [Nat.add_assoc, hg]
      unfold nodeE
      have hk2 := hk.1
      have ha : arityZ k = 2 := by unfold arityZ; rw [if_neg (by omega), if_pos (by omega)]
      rw [if_neg (by simp only; omega), if_neg (by simp [ha]), if_neg (by simp only; omega)]
      simp only [List.reverse_cons, List.reverse_nil, List.nil_append, List.cons_append, chainK]
      rw [if_neg (by omega), show ((pre.length : Int) + sz a + sz b - 1).toNat = pre.length + sz a + sz b - 1 by omega, i3, if_neg (by omega), show ((pre.length : Int) + sz a - 1).toNat = pre.length + sz a - 1 by omega, h4]
    · rw [show pre.length + sz (.bin k f a b) - 1 = pre.length + sz a + sz b by simp only [sz]; omega]
      exact last_get i2
theorem flat_valid {facts : Int} {t : Fm} (hk : kindOK t) (ho : okF facts t) (h0 : 0 ≤ facts ∧ facts ≤ 24) (h6 : sz t ≤ 60) : formFault facts (flatT 0 t) = (0, 0) := by
  have hp := sz_pos t
  have hl := flatT_len t 0
  obtain ⟨fs, h1, h2, h3⟩ := run_flat (facts := facts) (t := t) [] [] [] hk ho rfl
  simp only [List.nil_append, List.append_nil, List.length_nil, Nat.zero_add] at h1 h2 h3
  unfold formFault
  rw [if_neg (by omega), if_neg (by omega), hl, h1]
  simp only
  rw [if_neg (by rw [h3]; simp)]
theorem flat_dec {t : Fm} (hk : kindOK t) : Dec (flatT 0 t) t (sz t - 1) := by
  have := dec_flat [] [] hk
  simpa using this
end Go.Proofs.Ytanogjooppnihaa
