/- All permutations, the least image of a state, and images of plans: no program in sight. -/
import Derived.Test.YtbeceabheahpnaaSyt


namespace Go.Proofs.Ytbeceabheahpnaa
open Go.Ab
open Go
set_option linter.unusedSimpArgs false
set_option linter.unusedVariables false
set_option maxRecDepth 10000
/-! all permutations -/
theorem ends_set {t : Task} (h0 : 0 ≤ t.facts) : ∀ {plan : List Nat} {s e : List Int}, isSet s t.facts = true → endsT t s plan = some e → isSet e t.facts = true
  | [], s, e, hs, h => by simp only [endsT, Option.some.injEq] at h; rw [← h]; exact hs
  | j :: r, s, e, hs, h => by
    obtain ⟨o, _, _, h3⟩ := ends_cons.1 h
    exact ends_set h0 (aft_set h0 _ _) h3
def permsF (n : Nat) : Nat → List Int → List (List Int)
  | 0, h => [h]
  | m + 1, h => (upTo n).flatMap fun p => if hasB h p then [] else permsF n m (h ++ [p])
def permsK (n m : Nat) (h : List Int) (k : Nat) : List (List Int) := (upTo k).flatMap fun p => if hasB h p then [] else permsF n m (h ++ [p])
theorem permsF_succ (n m : Nat) (h : List Int) : permsF n (m + 1) h = permsK n m h n := rfl
theorem permsK_zero (n m : Nat) (h : List Int) : permsK n m h 0 = [] := rfl
theorem permsK_no {n m : Nat} {h : List Int} {k : Nat} (hb : hasB h (k : Int) = true) : permsK n m h (k + 1) = permsK n m h k := by
  unfold permsK
  rw [upTo_succ, List.flatMap_append]
  simp [hb]
theorem permsK_yes {n m : Nat} {h : List Int} {k : Nat} (hb : hasB h (k : Int) = false) : permsK n m h (k + 1) = permsK n m h k ++ permsF n m (h ++ [(k : Int)]) := by
  unfold permsK
  rw [upTo_succ, List.flatMap_append]
  simp [hb]
theorem flatMap_le {f : Int → List (List Int)} {b : Nat} (h : ∀ p, (f p).length ≤ b) : ∀ l : List Int, (l.flatMap f).length ≤ l.length * b
  | [] => by simp
  | x :: l => by
    have := flatMap_le h l
    have := h x
    rw [List.flatMap_cons, List.length_append, List.length_cons, Nat.succ_mul]
    omega
theorem permsF_len (n : Nat) : ∀ (m : Nat) (h : List Int), (permsF n m h).length ≤ n ^ m
  | 0, h => by simp [permsF]
  | m + 1, h => by
    have := flatMap_le (f := fun p => if hasB h p then [] else permsF n m (h ++ [p])) (b := n ^ m) (fun p => by
      split
      · simp
      · exact permsF_len n m _) (upTo n)
    rw [upTo_length] at this
    rw [permsF, Nat.pow_succ, Nat.mul_comm]
    exact this
theorem permsK_len (n m : Nat) (h : List Int) (k : Nat) : (permsK n m h k).length ≤ k * n ^ m := by
  have := flatMap_le (f := fun p => if hasB h p then [] else permsF n m (h ++ [p])) (b := n ^ m) (fun p => by
    split
    · simp
    · exact permsF_len n m _) (upTo k)
  rw [upTo_length] at this
  exact this
theorem pow_six {n m : Nat} (hn : n ≤ 6) (hm : m ≤ 6) : n ^ m ≤ 46656 :=
  Nat.le_trans (Nat.pow_le_pow_left hn m) (Nat.pow_le_pow_right (by omega) hm)
theorem permsF_each (n : Nat) : ∀ (m : Nat) (h : List Int), ∀ l ∈ permsF n m h, l.length = h.length + m
  | 0, h, l, hl => by rw [permsF, List.mem_singleton] at hl; rw [hl]; rfl
  | m + 1, h, l, hl => by
    rw [permsF, List.mem_flatMap] at hl
    obtain ⟨p, _, hl⟩ := hl
    split at hl
    · simp at hl
    · have := permsF_each n m _ l hl
      rw [List.length_append, List.length_singleton] at this
      omega
theorem permsF_mem {n : Nat} : ∀ (m : Nat) (h : List Int), h.length + m = n → h.Nodup → (∀ x ∈ h, 0 ≤ x ∧ x < n) → ∀ l, l ∈ permsF n m h ↔ PermP n l ∧ h <+: l
  | 0, h, hl, hd, hr, l => by
    rw [permsF, List.mem_singleton]
    constructor
    · rintro rfl
      exact ⟨PermP.of_nodup hd hr (by omega), List.prefix_refl _⟩
    · rintro ⟨h1, h2⟩
      exact (h2.eq_of_length (by rw [h1.len]; omega)).symm
  | m + 1, h, hl, hd, hr, l => by
    have ih : ∀ p, (0 ≤ p ∧ p < (n : Int)) → ¬ p ∈ h → (l ∈ permsF n m (h ++ [p]) ↔ PermP n l ∧ h ++ [p] <+: l) := fun p hp hn => permsF_mem m (h ++ [p]) (by rw [List.length_append, List.length_singleton, Nat.add_assoc, Nat.add_comm 1 m]; exact hl) (by
      rw [List.nodup_append]
      exact ⟨hd, by simp, fun a ha b hb => by rw [List.mem_singleton] at hb; subst hb; rintro rfl; exact hn ha⟩) (by
      intro x hx
      rcases List.mem_append.1 hx with hx | hx
      · exact hr x hx
      · rw [List.mem_singleton] at hx; subst hx; exact hp) l
    rw [permsF, List.mem_flatMap]
    constructor
    · rintro ⟨p, hp, hm⟩
      split at hm
      · simp at hm
      · rename_i hn
        have := (ih p (upTo_mem.1 hp) (by simpa [hasB] using hn)).1 hm
        exact ⟨this.1, (List.prefix_append _ _).trans this.2⟩
    · rintro ⟨h1, r, rfl⟩
      have hlen := h1.len
      rw [List.length_append] at hlen
      match r, h1, hlen with
      | [], h1, hlen => simp at hlen; omega
      | p :: r, h1, hlen =>
        have hp := h1.mem.1 (show p ∈ h ++ p :: r by simp)
        have hn : ¬ p ∈ h := fun hm => (List.nodup_append.1 h1.nodup).2.2 p hm p (by simp) rfl
        refine ⟨p, upTo_mem.2 hp, ?_⟩
        rw [if_neg (by simpa [hasB] using hn)]
        exact (ih p hp hn).2 ⟨h1, r, by simp⟩
theorem upTo_split (k : Nat) : ∀ j, ∃ r, upTo (k + 1 + j) = upTo k ++ (k : Int) :: r
  | 0 => ⟨[], upTo_succ k⟩
  | j + 1 => by
    obtain ⟨r, h⟩ := upTo_split k j
    exact ⟨r ++ [((k + 1 + j : Nat) : Int)], by rw [show k + 1 + (j + 1) = (k + 1 + j) + 1 from rfl, upTo_succ, h]; simp⟩
theorem permsF_first {n : Nat} : ∀ (m k : Nat), k + m = n → ∃ r, permsF n m (upTo k) = upTo n :: r
  | 0, k, h => by subst h; exact ⟨[], rfl⟩
  | m + 1, k, h => by
    obtain ⟨r, hr⟩ := permsF_first (n := n) m (k + 1) (by omega)
    obtain ⟨q, hq⟩ := upTo_split k m
    rw [show k + 1 + m = n by omega] at hq
    have h0 : (upTo k).flatMap (fun p => if hasB (upTo k) p then [] else permsF n m (upTo k ++ [p])) = [] := by
      rw [List.flatMap_eq_nil_iff]
      intro p hp
      rw [if_pos (by simpa [hasB] using hp)]
    have h1 : hasB (upTo k) (k : Int) = false := by
      rw [hasB, decide_eq_false]
      intro hm
      have := (upTo_mem.1 hm).2
      omega
    rw [permsF]
    conv => enter [1, r, 1, 2]; rw [hq]
    rw [List.flatMap_append, h0, List.nil_append, List.flatMap_cons, h1]
    rw [if_neg (by simp), ← upTo_succ, hr]
    exact ⟨_, rfl⟩
def symB (t : Task) (l : List Int) : Bool := (extG t l).isSome
def symL (t : Task) : List (List Int) := (permsF t.facts.toNat t.facts.toNat []).filter (symB t)
theorem symL_mem {t : Task} {l : List Int} : l ∈ symL t ↔ SymP t l := by
  unfold symL
  rw [List.mem_filter, permsF_mem _ _ (by simp) (by simp) (by simp)]
  constructor
  · rintro ⟨⟨h1, _⟩, h2⟩; exact (extG_iff h1).1 h2
  · intro h; exact ⟨⟨h.perm, List.nil_prefix⟩, (extG_iff h.perm).2 h⟩
theorem symL_first {t : Task} (hw : WfT t) : ∃ r, symL t = upTo t.facts.toNat :: r := by
  obtain ⟨r, hr⟩ := permsF_first (n := t.facts.toNat) t.facts.toNat 0 (by omega)
  unfold symL
  rw [show ([] : List Int) = upTo 0 from rfl, hr, List.filter_cons_of_pos (show symB t _ = true from (extG_iff (PermP.id _)).2 (SymP.id hw))]
  exact ⟨_, rfl⟩
theorem symL_len {t : Task} (h6 : t.facts ≤ 6) : (symL t).length ≤ 46656 := by
  unfold symL
  refine Nat.le_trans (List.length_filter_le _ _) (Nat.le_trans (permsF_len _ _ _) (pow_six (by omega) (by omega)))
/-! the least image -/
def lessB : List Int → List Int → Bool
  | [], [] => false
  | [], _ :: _ => true
  | _ :: _, [] => false
  | a :: x, b :: y => if a = b then lessB x y else decide (a < b)
theorem lessB_irr : ∀ a : List Int, lessB a a = false
  | [] => rfl
  | a :: x => by rw [lessB, if_pos rfl]; exact lessB_irr x
theorem lessB_tri : ∀ {a b : List Int}, lessB a b = false → lessB b a = false → a = b
  | [], [], _, _ => rfl
  | [], _ :: _, h, _ => by simp [lessB] at h
  | _ :: _, [], _, h => by simp [lessB] at h
  | a :: x, b :: y, h1, h2 => by
    rw [lessB] at h1 h2
    by_cases e : a = b
    · subst e
      rw [if_pos rfl] at h1 h2
      rw [lessB_tri h1 h2]
    · rw [if_neg e] at h1
      rw [if_neg (Ne.symm e)] at h2
      simp only [decide_eq_false_iff_not] at h1 h2
      omega
theorem lessB_trans : ∀ {a b c : List Int}, lessB a b = true → lessB b c = true → lessB a c = true
  | [], [], _, h, _ => by simp [lessB] at h
  | _ :: _, [], _, h, _ => by simp [lessB] at h
  | [], _ :: _, [], _, h => by simp [lessB] at h
  | [], _ :: _, _ :: _, _, _ => rfl
  | _ :: _, _ :: _, [], _, h => by simp [lessB] at h
  | a :: x, b :: y, c :: z, h1, h2 => by
    rw [lessB] at h1 h2 ⊢
    by_cases e1 : a = b
    · subst e1
      rw [if_pos rfl] at h1
      by_cases e2 : a = c
      · subst e2
        rw [if_pos rfl] at h2 ⊢
        exact lessB_trans h1 h2
      · rw [if_neg e2] at h2 ⊢; exact h2
    · rw [if_neg e1] at h1
      by_cases e2 : b = c
      · subst e2
        rw [if_neg e1]; exact h1
      · rw [if_neg e2] at h2
        simp only [decide_eq_true_eq] at h1 h2
        rw [if_neg (by omega)]
        simp only [decide_eq_true_eq]
        omega
def canS (s b p : List Int) : List Int := if lessB (imgF p s) b then imgF p s else b
def canK (s : List Int) (L : List (List Int)) (b : List Int) : List Int := L.foldl (canS s) b
theorem canK_take {s b : List Int} {L : List (List Int)} {k : Nat} (h : k < L.length) : canK s (L.take (k + 1)) b = canS s (canK s (L.take k) b) L[k] := by
  unfold canK
  rw [List.take_succ_eq_append_getElem h, List.foldl_append]; rfl
theorem canK_spec {s : List Int} : ∀ (L : List (List Int)) (b : List Int), (canK s L b = b ∨ ∃ p ∈ L, canK s L b = imgF p s) ∧ lessB b (canK s L b) = false ∧ ∀ p ∈ L, lessB (imgF p s) (canK s L b) = false
  | [], b => ⟨.inl rfl, lessB_irr b, fun p hp => by simp at hp⟩
  | x :: L, b => by
    have he : canK s (x :: L) b = canK s L (canS s b x) := rfl
    obtain ⟨h1, h2, h3⟩ := canK_spec L (canS s b x)
    rw [he]
    generalize canK s L (canS s b x) = c at h1 h2 h3 ⊢
    have key : lessB b c = false ∧ lessB (imgF x s) c = false := by
      unfold canS at h2
      split at h2
      · rename_i hl
        refine ⟨?_, h2⟩
        cases hb : lessB b c
        · rfl
        · rw [lessB_trans hl hb] at h2; exact h2
      · rename_i hl
        refine ⟨h2, ?_⟩
        cases hb : lessB (imgF x s) c
        · rfl
        · exfalso
          cases hc : lessB c b
          · rw [lessB_tri h2 hc] at hl; exact hl hb
          · exact hl (lessB_trans hb hc)
    refine ⟨?_, key.1, fun p hp => ?_⟩
    · rcases h1 with h1 | ⟨p, hp, h1⟩
      · unfold canS at h1
        split at h1
        · exact .inr ⟨x, by simp, h1⟩
        · exact .inl h1
      · exact .inr ⟨p, by simp [hp], h1⟩
    · rcases List.mem_cons.1 hp with rfl | hp
      · exact key.2
      · exact h3 p hp
def canonF (t : Task) (s : List Int) : List Int := canK s (symL t) s
theorem canonF_img {t : Task} (hw : WfT t) {s : List Int} (hs : isSet s t.facts = true) : ∃ p, SymP t p ∧ canonF t s = imgF p s := by
  rcases (canK_spec (s := s) (symL t) s).1 with h | ⟨p, hp, h⟩
  · exact ⟨_, SymP.id hw, by rw [imgF_id (by rw [wf_nat hw]; exact hs)]; exact h⟩
  · exact ⟨p, symL_mem.1 hp, h⟩
theorem canonF_le {t : Task} {s p : List Int} (hp : SymP t p) : lessB (imgF p s) (canonF t s) = false := (canK_spec (s := s) (symL t) s).2.2 p (symL_mem.2 hp)
theorem canonF_set {t : Task} (hw : WfT t) {s : List Int} (hs : isSet s t.facts = true) : isSet (canonF t s) t.facts = true := by
  obtain ⟨p, hp, he⟩ := canonF_img hw hs
  have hs' : isSet s (t.facts.toNat : Nat) = true := by rw [wf_nat hw]; exact hs
  have := imgF_set hp.perm hs'
  rw [wf_nat hw] at this
  rw [he]; exact this
theorem canonF_sym {t : Task} (hw : WfT t) {s p : List Int} (hs : isSet s t.facts = true) (hp : SymP t p) : canonF t (imgF p s) = canonF t s := by
  have hs' : isSet s (t.facts.toNat : Nat) = true := by rw [wf_nat hw]; exact hs
  have hps' := imgF_set hp.perm hs'
  have hps : isSet (imgF p s) t.facts = true := by rw [← wf_nat hw]; exact hps'
  obtain ⟨a, ha, h1⟩ := canonF_img hw hs
  obtain ⟨b, hb, h2⟩ := canonF_img hw hps
  refine lessB_tri ?_ ?_
  · rw [h2, ← imgF_comp hb.perm hp.perm hs']
    exact canonF_le (hb.comp hw hp)
  · have h3 : imgF a s = imgF (compP a (invP t.facts.toNat p)) (imgF p s) := by
      rw [imgF_comp ha.perm (invP_perm hp.perm) hps', imgF_inv hp.perm hs']
    rw [h1, h3]
    exact canonF_le (ha.comp hw (hp.inv hw))
theorem canonF_idem {t : Task} (hw : WfT t) {s : List Int} (hs : isSet s t.facts = true) : canonF t (canonF t s) = canonF t s := by
  obtain ⟨p, hp, he⟩ := canonF_img hw hs
  have := canonF_sym hw hs hp
  rw [← he] at this
  exact this
/-! images of plans -/
theorem img_aft {n : Nat} {perm s : List Int} {o : Op} (hp : PermP n perm) (hs : isSet s n = true) (ho : opOk o n = true) : imgF perm (aft n s o) = aft n (imgF perm s) (imgOp perm o) := by
  obtain ⟨h1, h2, h3, h4⟩ := opOk_sets ho
  refine imgF_ext hp (aft_set (by omega) _ _) (aft_set (by omega) _ _) fun p hpn => ?_
  have hb := hp.at hpn
  have e1 : perm[p]! ∈ (imgOp perm o).add ↔ (p : Int) ∈ o.add := imgF_at hp h2 (p := p) (by omega) (by omega)
  have e2 : perm[p]! ∈ (imgOp perm o).del ↔ (p : Int) ∈ o.del := imgF_at hp h3 (p := p) (by omega) (by omega)
  have e3 : perm[p]! ∈ imgF perm s ↔ (p : Int) ∈ s := imgF_at hp hs (p := p) (by omega) (by omega)
  rw [aft_mem, aft_mem, e1, e2, e3]
  exact ⟨fun h => ⟨by omega, h.2⟩, fun h => ⟨hb, h.2⟩⟩
theorem img_ends {t : Task} (hw : WfT t) {perm : List Int} {l : List Nat} (hx : extG t perm = some l) (hp : PermP t.facts.toNat perm) : ∀ (plan : List Nat) (s e : List Int), isSet s t.facts = true → endsT t s plan = some e → endsT t (imgF perm s) (plan.map fun i => l[i]!) = some (imgF perm e) ∧ costT t (plan.map fun i => l[i]!) = costT t plan
  | [], s, e, hs, h => by
    rw [endsT, Option.some.injEq] at h
    subst h
    exact ⟨rfl, rfl⟩
  | i :: r, s, e, hs, h => by
    obtain ⟨o, h1, h2, h3⟩ := ends_cons.1 h
    obtain ⟨hi, rfl⟩ := List.getElem?_eq_some_iff.1 h1
    obtain ⟨h4, h5⟩ := (extG_map hx).2 i hi
    rw [getBang hi, getBang h4] at h5
    have ho := wf_op hw (List.getElem_mem hi)
    have hs' : isSet s (t.facts.toNat : Nat) = true := by rw [wf_nat hw]; exact hs
    have ih := img_ends hw hx hp r _ e (aft_set hw.f0 _ _) h3
    have ha := img_aft hp hs' ho
    rw [wf_nat hw] at ha
    rw [ha] at ih
    rw [List.map_cons]
    refine ⟨ends_cons.2 ⟨_, List.getElem?_eq_getElem h4, ?_, ?_⟩, ?_⟩
    · rw [h5]
      show subB (imgF perm t.ops[i].pre) (imgF perm s) = true
      rw [imgF_sub hp (opOk_sets ho).1 hs']
      exact h2
    · rw [h5]; exact ih.1
    · rw [costT, costT, ih.2, List.getElem?_eq_getElem h4, List.getElem?_eq_getElem hi]
      simp only [h5]
      rfl
theorem img_least {t : Task} (hw : WfT t) {perm s : List Int} (hp : SymP t perm) (hs : isSet s t.facts = true) {z : Int} (h : LeastC t s z) : LeastC t (imgF perm s) z := by
  have key : ∀ {q u : List Int}, SymP t q → isSet u t.facts = true → ∀ {plan : List Nat}, WorksT t u plan → ∃ plan', WorksT t (imgF q u) plan' ∧ costT t plan' = costT t plan := by
    intro q u hq hu plan ⟨e, he, hg⟩
    obtain ⟨l, hl⟩ := Option.isSome_iff_exists.1 ((extG_iff hq.perm).2 hq)
    obtain ⟨h1, h2⟩ := img_ends hw hl hq.perm plan u e hu he
    refine ⟨_, ⟨_, h1, ?_⟩, h2⟩
    have hes := ends_set hw.f0 hu he
    rw [← hq.goal, imgF_sub hq.perm (wf_goal hw) (by rw [wf_nat hw]; exact hes)]
    exact hg
  have hs' : isSet s (t.facts.toNat : Nat) = true := by rw [wf_nat hw]; exact hs
  have hps : isSet (imgF perm s) t.facts = true := by rw [← wf_nat hw]; exact imgF_set hp.perm hs'
  refine ⟨h.z0, h.z1, fun plan hpl => ?_, fun hz => ?_⟩
  · obtain ⟨p2, h1, h2⟩ := key (hp.inv hw) hps hpl
    rw [imgF_inv hp.perm hs'] at h1
    rw [← h2]
    exact h.le p2 h1
  · obtain ⟨plan, h1, h2⟩ := h.has hz
    obtain ⟨p2, h3, h4⟩ := key hp hs h1
    exact ⟨p2, h3, by rw [h4, h2]⟩
/-! few states -/
theorem pigeon : ∀ (M : Nat) (f : Nat → Nat), (∀ i, i ≤ M → f i < M) → ∃ i j, i < j ∧ j ≤ M ∧ f i = f j
  | 0, f, h => absurd (h 0 (Nat.le_refl _)) (Nat.not_lt_zero _)
  | M+1, f, h => by
    by_cases hd : ∃ i, i ≤ M ∧ f i = f (M + 1)
    · obtain ⟨i, hi, he⟩ := hd
      exact ⟨i, M + 1, by omega, Nat.le_refl _, he⟩
    · have hd' : ∀ i, i ≤ M → f i ≠ f (M + 1) := fun i hi he => hd ⟨i, hi, he⟩
      obtain ⟨i, j, hij, hj, he⟩ := pigeon M (fun i => if f i = M then f (M + 1) else f i) (fun i hi => by
        have h1 := h i (by omega)
        have h2 := h (M + 1) (Nat.le_refl _)
        have h3 := hd' i hi
        split <;> omega)
      have h1 := hd' i (by omega)
      have h2 := hd' j hj
      refine ⟨i, j, hij, by omega, ?_⟩
      split at he <;> split at he <;> omega
/-- Sets of few facts: there are not many of them. -/
theorem few_sets {n : Int} {k : Nat} {l : List (List Int)} (hn : n ≤ k) (h : ∀ x ∈ l, isSet x n = true) (hd : l.Nodup) : l.length ≤ 2 ^ k := by
  apply Decidable.byContradiction
  intro hl
  obtain ⟨i, j, hij, hj, he⟩ := pigeon (2 ^ k) (fun i => wsum l[i]!) (fun i hi => by
    have hil : i < l.length := by omega
    rw [getBang hil]
    have hs := isSet_iff.1 (h _ (List.getElem_mem hil))
    exact wsum_lt hs.2 fun x hx => by have := hs.1 x hx; omega)
  have hil : i < l.length := by omega
  have hjl : j < l.length := by omega
  rw [getBang hil, getBang hjl] at he
  have := set_inj (h _ (List.getElem_mem hil)) (h _ (List.getElem_mem hjl)) he
  have h2 := List.pairwise_iff_getElem.1 hd i j hil hjl hij
  exact h2 this
theorem not_many {t : Task} {s : List Int} (h0 : 0 ≤ t.facts) (h9 : t.facts ≤ 10) (hs : isSet s t.facts = true) : ¬ ManyT t s := by
  rintro ⟨l, hd, hl, hr⟩
  have := few_sets (k := 10) (by omega) (fun x hx => by obtain ⟨p, hp⟩ := hr x hx; exact ends_set h0 hs hp) hd
  omega
end Go.Proofs.Ytbeceabheahpnaa
