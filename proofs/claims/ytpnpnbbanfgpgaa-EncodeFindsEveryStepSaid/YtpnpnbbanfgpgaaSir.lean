import Derived.Test.YtpnpnbbanfgpgaaSip
import Derived.Test.YtpnpnbbanfgpgaaKep




namespace Go.Proofs.Ytpnpnbbanfgpgaa
open Go.Ab
open Go
set_option linter.unusedSimpArgs false
set_option linter.unusedVariables false
set_option maxRecDepth 10000
/-! exactly one operator of the multi-valued task does what an operator does in a state -/
def gm (σ : List Int) (v : Nat) (x : Int) : Bool := decide (x < 0) || decide (σ[v]! = x)
abbrev hM (σ : List Int) (p : MOp) : Bool := holdsM σ p.pre
theorem holds_stepM {σ : List Int} {v : Nat} {y : Int → Int} {p : MOp} {x : Int} : hM σ (stepM v y p x) = (hM σ p && gm σ v x) := by
  unfold hM stepM holdsM gm
  rw [List.all_append]
  by_cases h0 : 0 ≤ x
  · have h1 : decide (x < 0) = false := decide_eq_false (by omega)
    simp [h0, h1]
  · have h1 : decide (x < 0) = true := decide_eq_true (by omega)
    simp [h0, h1]
theorem next_count {σ vs y v} (h : vs.countP (gm σ v) = 1) : ∀ out : List MOp, (nextM vs y v out).countP (hM σ) = out.countP (hM σ)
  | [] => rfl
  | p :: r => by
    have ih := next_count (y := y) h r
    unfold nextM at ih ⊢
    rw [List.flatMap_cons, List.countP_append, ih, List.countP_map, List.countP_cons]
    have e : vs.countP (hM σ ∘ stepM v y p) = if hM σ p = true then 1 else 0 := by
      have e2 : (hM σ ∘ stepM v y p) = fun x => (hM σ p && gm σ v x) := by funext x; exact holds_stepM
      rw [e2]
      cases hp : hM σ p with
      | false => simp
      | true => simp only [Bool.true_and, if_true]; exact h
    rw [e]; omega
theorem full_count {vs y} {σ : List Int} : ∀ {cs : List (List Int)} {v : Nat} {out : List MOp}, (∀ i (hi : i < cs.length), (vs cs[i]).countP (gm σ (v + i)) = 1) → (fullM vs y cs v out).countP (hM σ) = out.countP (hM σ)
  | [], _, _, _ => rfl
  | c :: r, v, out, h => by
    rw [fullM, full_count (fun i hi => by
      have := h (i + 1) (by simpa using hi)
      rw [show v + (i + 1) = v + 1 + i by omega] at this
      simpa using this), next_count (by have := h 0 (by simp); simpa using this)]
theorem range_one (k : Nat) : ∀ n, (List.range n).countP (fun (i : Nat) => decide ((k : Int) = (i : Int))) = if k < n then 1 else 0
  | 0 => by simp
  | n + 1 => by
    rw [List.range_succ, List.countP_append, range_one k n, List.countP_cons, List.countP_nil]
    by_cases h : k < n
    · have h2 : ¬ (k : Int) = (n : Int) := by omega
      have h3 : ¬ k = n := by omega
      simp [h, h2, h3, show k < n + 1 by omega]
    · by_cases h2 : k = n
      · subst h2; simp
      · have h3 : ¬ (k : Int) = (n : Int) := by omega
        simp [h, h2, h3, show ¬ k < n + 1 by omega]
theorem guess_one {c s : List Int} {o : Op} {σ : List Int} {v : Nat} (hc : c.Nodup) (h1 : cntIn c s ≤ 1) (hp : cntIn c o.pre ≤ 1) (hpre : ∀ q ∈ o.pre, q ∈ s) (hσ : σ[v]! = (valF c s : Int)) : (guesses o c).countP (gm σ v) = 1 := by
  unfold guesses
  split
  · rename_i hpos
    obtain ⟨q, hq, hqp⟩ := cnt_pos.1 hpos
    obtain ⟨i, hi, rfl⟩ := List.getElem_of_mem hq
    have e1 := valF_of hc hp hi hqp
    have e2 := valF_of hc h1 hi (hpre _ hqp)
    have e3 : gm σ v (valF c o.pre : Int) = true := by unfold gm; rw [hσ, e1, e2]; simp
    rw [List.countP_cons, e3]; simp
  · split
    · have e3 : gm σ v (-1) = true := by unfold gm; simp
      rw [List.countP_cons, e3]; simp
    · unfold rangeL
      rw [List.countP_map]
      have e3 : (gm σ v ∘ fun (i : Nat) => (i : Int)) = fun (i : Nat) => decide ((valF c s : Int) = (i : Int)) := by
        funext i
        simp only [Function.comp]
        unfold gm
        rw [hσ, show decide ((i : Int) < 0) = false from decide_eq_false (by omega), Bool.false_or]
      rw [e3, range_one, if_pos (by have := valF_le c s; omega)]
theorem pairs_count {t : Task} {cs : List (List Int)} {σ : List Int} {i : Nat} (hok : opsOk cs t.ops[i]! = true) (hone : (verF t.ops[i]! cs).countP (hM σ) = 1) : ∀ n, (pairsK t cs n).countP (fun pr => hM σ pr.1 && decide (pr.2 = (i : Int))) = if i < n then 1 else 0
  | 0 => by simp [pairsK]
  | n + 1 => by
    rw [pairsK, List.countP_append, pairs_count hok hone n]
    by_cases h : i = n
    · subst h
      rw [if_pos hok, if_neg (by omega), if_pos (by omega), List.countP_map]
      have e : ((fun pr : MOp × Int => hM σ pr.1 && decide (pr.2 = (i : Int))) ∘ fun p => (p, (i : Int))) = hM σ := by funext p; simp
      rw [e, hone]
    · have e : List.countP (fun pr : MOp × Int => hM σ pr.1 && decide (pr.2 = (i : Int))) (if opsOk cs t.ops[n]! = true then (verF t.ops[n]! cs).map fun p => (p, (n : Int)) else []) = 0 := by
        rw [List.countP_eq_zero]
        intro pr hpr
        split at hpr
        · rw [List.mem_map] at hpr
          obtain ⟨p, _, rfl⟩ := hpr
          simp; intro _; omega
        · cases hpr
      rw [e]
      by_cases h2 : i < n
      · rw [if_pos h2, if_pos (by omega)]
      · rw [if_neg h2, if_neg (by omega)]
theorem appl_count {ps : List (MOp × Int)} {m : MTask} {f σ : List Int} {i : Int} (hm : m.ops = ps.map Prod.fst) (hf : f = ps.map Prod.snd) : ∀ k, k ≤ ps.length → (applL m σ k).countP (fun x => decide (f[x.toNat]! = i)) = (ps.take k).countP (fun pr => hM σ pr.1 && decide (pr.2 = i))
  | 0, _ => by simp [applL]
  | k + 1, hk => by
    have hlt : k < ps.length := by omega
    have e1 : m.ops[k]! = ps[k].1 := by rw [hm, getElem!_pos _ k (by simpa using hlt), List.getElem_map]
    have e2 : f[k]! = ps[k].2 := by rw [hf, getElem!_pos _ k (by simpa using hlt), List.getElem_map]
    rw [applL, List.countP_append, appl_count hm hf k (by omega), List.take_succ_eq_append_getElem hlt, List.countP_append, e1]
    congr 1
    cases hh : holdsM σ ps[k].1.pre with
    | false => simp [hM, hh]
    | true => 
      rw [if_pos rfl, List.countP_cons, List.countP_cons, List.countP_nil, Int.toNat_natCast, e2]
      simp [hM, hh]
theorem appl_mem {m : MTask} {σ : List Int} : ∀ {k : Nat} {x : Int}, x ∈ applL m σ k → 0 ≤ x ∧ x < k ∧ holdsM σ m.ops[x.toNat]!.pre = true
  | 0, x, h => by simp [applL] at h
  | k + 1, x, h => by
    rw [applL, List.mem_append] at h
    rcases h with h | h
    · obtain ⟨h1, h2, h3⟩ := appl_mem h
      exact ⟨h1, by omega, h3⟩
    · split at h
      · rename_i hh
        rw [List.mem_singleton] at h
        subst h
        exact ⟨by omega, by omega, hh⟩
      · cases h
theorem cnt_sub {c a b : List Int} (hc : c.Nodup) (h : ∀ q ∈ a, q ∈ b) (h1 : cntIn c b ≤ 1) : cntIn c a ≤ 1 := by
  rw [cnt_one hc] at h1 ⊢
  exact fun x hx hxa y hy hya => h1 x hx (h x hxa) y hy (h y hya)
/-- What the law asks of a step. -/
theorem one_step {t : Task} {ls : List (List Int)} {s : List Int} {i : Nat} (h : groupsFault t ls = (0, 0)) (h40 : (pairsK t (coverT t.facts.toNat ls) t.ops.length).length ≤ 40) (hi : i < t.ops.length) (hv : InvG t ls s) (hpre : ∀ q ∈ t.ops[i].pre, q ∈ s) :
    (applL (taskM t (coverT t.facts.toNat ls)) (valsF (coverT t.facts.toNat ls) s) (taskM t (coverT t.facts.toNat ls)).ops.length).countP (fun x => decide ((fromL t (coverT t.facts.toNat ls))[x.toNat]! = (i : Int))) = 1
    ∧ ∀ x : Int, 0 ≤ x → x < (taskM t (coverT t.facts.toNat ls)).ops.length → holdsM (valsF (coverT t.facts.toNat ls) s) (opM (taskM t (coverT t.facts.toNat ls)) x).pre = true → (fromL t (coverT t.facts.toNat ls))[x.toNat]! = (i : Int) →
      applyM (valsF (coverT t.facts.toNat ls) s) (opM (taskM t (coverT t.facts.toNat ls)) x).post = valsF (coverT t.facts.toNat ls) (aft t.facts s t.ops[i]) := by
  obtain ⟨hw, _, _⟩ := gf_ok h
  have hset := fun c hc => cover_isSet h (c := c) hc
  have ho := List.getElem_mem hi
  have hfree := inv_free hv
  have hnext := inv_free (inv_next h ho hv hpre)
  have hstep := fun xs hok hc hh => op_step (xs := xs) h ho hv hok hc hh
  obtain ⟨s1, s2, s3, _⟩ := opOk_sets (hw.ops _ ho).1
  have h0 := hw.f0
  constructor
  · have hok : opsOk (coverT t.facts.toNat ls) t.ops[i] = true := by
      unfold opsOk
      rw [Bool.and_eq_true, Bool.not_eq_true', Bool.not_eq_true', crowd_f, crowd_f]
      constructor
      · intro c hc
        exact cnt_sub (setNd (isSet_iff.1 (hset c hc)).2) hpre (crowd_f.1 hfree c hc)
      · intro c hc
        refine cnt_sub (setNd (isSet_iff.1 (hset c hc)).2) (fun q hq => ?_) (crowd_f.1 hnext c hc)
        have := (isSet_iff.1 s2).1 q hq
        exact (mem_aft this.1 this.2).2 (.inl hq)
    have hg : t.ops[i]! = t.ops[i] := getElem!_pos t.ops i hi
    have hlen : (verF t.ops[i] (coverT t.facts.toNat ls)).length ≤ 40 := by
      have := pairsK_mono (t := t) (cs := coverT t.facts.toNat ls) (a := i + 1) (t.ops.length - (i + 1))
      rw [show i + 1 + (t.ops.length - (i + 1)) = t.ops.length by omega] at this
      rw [pairsK, hg, if_pos hok, List.length_append, List.length_map] at this
      omega
    have hone : (verF t.ops[i] (coverT t.facts.toNat ls)).countP (hM (valsF (coverT t.facts.toNat ls) s)) = 1 := by
      unfold verF at hlen ⊢
      rw [verM_full hlen, full_count (fun j hj => ?_)]
      · rfl
      · have hcm := List.getElem_mem hj
        have hn := setNd (isSet_iff.1 (hset _ hcm)).2
        refine guess_one hn (crowd_f.1 hfree _ hcm) (cnt_sub hn hpre (crowd_f.1 hfree _ hcm)) hpre ?_
        rw [Nat.zero_add, valsF_get hj]
    have e := appl_count (ps := pairsK t (coverT t.facts.toNat ls) t.ops.length) (m := taskM t (coverT t.facts.toNat ls)) (f := fromL t (coverT t.facts.toNat ls)) (σ := valsF (coverT t.facts.toNat ls) s) (i := (i : Int)) rfl rfl _ (Nat.le_refl _)
    have hl : (taskM t (coverT t.facts.toNat ls)).ops.length = (pairsK t (coverT t.facts.toNat ls) t.ops.length).length := by unfold taskM; simp
    rw [hl, e, List.take_length, pairs_count (by rw [hg]; exact hok) (by rw [hg]; exact hone), if_pos hi]
  · intro x hx0 hx1 hh hf
    obtain ⟨i', hi', h2, h3, xs, h4, h5⟩ := op_spec h40 hx0 hx1
    rw [h2] at hf
    have : i' = i := by omega
    subst this
    rw [h5] at hh ⊢
    exact (hstep xs h3 h4 hh).2
theorem st_vals {t : Task} {cs : List (List Int)} {s : List Int} : stB (taskM t cs) (valsF cs s) = true := by
  rw [stB_iff]
  refine ⟨by unfold taskM; rw [valsF_len, sizesM_len], fun i hi => ?_⟩
  have hl : i < cs.length := by rw [valsF_len] at hi; exact hi
  rw [valsF_get hl]
  have e : (taskM t cs).sizes[i]! = (cs[i].length : Int) + 1 := by
    show (sizesM cs)[i]! = _
    rw [getElem!_pos _ i (by rw [sizesM_len]; exact hl)]
    unfold sizesM
    rw [List.getElem_map]
  rw [e]
  have := valF_le cs[i] s
  omega
/-- The states of a plan that can be carried out. -/
theorem run_steps {t : Task} {ls : List (List Int)} (h : groupsFault t ls = (0, 0)) : ∀ (plan s : List Int), InOps t plan → InvG t ls s → (runL t s plan).length = plan.length + 1 →
    ∀ k (hk : k < plan.length), InvG t ls (runL t s plan)[k]! ∧ (∀ q ∈ (t.ops[plan[k].toNat]!).pre, q ∈ (runL t s plan)[k]!) ∧ (runL t s plan)[k + 1]! = aft t.facts (runL t s plan)[k]! t.ops[plan[k].toNat]! ∧ InvG t ls (runL t s plan)[k + 1]!
  | [], s, _, _, _, k, hk => by simp at hk
  | x :: r, s, hin, hv, hl, k, hk => by
    have hx := hin x (by simp)
    have hlt : x.toNat < t.ops.length := by omega
    have hg : t.ops[x.toNat]! = t.ops[x.toNat] := getBang hlt
    cases hs : subB (t.ops[x.toNat]!).pre s with
    | false =>
      rw [runL_stop hs] at hl
      simp at hl
    | true =>
      have hpre : ∀ q ∈ (t.ops[x.toNat]!).pre, q ∈ s := subB_iff.1 hs
      have hn : InvG t ls (aft t.facts s t.ops[x.toNat]!) := inv_next h (by rw [hg]; exact List.getElem_mem hlt) hv hpre
      rw [runL_go hs] at hl ⊢
      have hl2 : (runL t (aft t.facts s t.ops[x.toNat]!) r).length = r.length + 1 := by rw [List.length_cons, List.length_cons] at hl; omega
      have h0 : (runL t (aft t.facts s t.ops[x.toNat]!) r)[0]! = aft t.facts s t.ops[x.toNat]! := by
        cases r with
        | nil => rfl
        | cons y r' => rw [runL]; split <;> rfl
      cases k with
      | zero =>
        refine ⟨by simpa using hv, by simpa using hpre, ?_, ?_⟩
        · rw [Nat.zero_add, List.getElem!_cons_succ, h0]; rfl
        · rw [Nat.zero_add, List.getElem!_cons_succ, h0]; exact hn
      | succ k =>
        have ih := run_steps h r _ (fun y hy => hin y (by simp [hy])) hn hl2 k (by simpa using hk)
        rw [List.getElem!_cons_succ, List.getElem!_cons_succ, List.getElem_cons_succ]
        exact ih
end Go.Proofs.Ytpnpnbbanfgpgaa
