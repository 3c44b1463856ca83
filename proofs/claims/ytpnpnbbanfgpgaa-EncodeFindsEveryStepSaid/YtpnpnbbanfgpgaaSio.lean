import Derived.Test.YtpnpnbbanfgpgaaSin



namespace Go.Proofs.Ytpnpnbbanfgpgaa
open Go.Ab
open Go
set_option linter.unusedSimpArgs false
set_option linter.unusedVariables false
set_option maxRecDepth 10000
/-! the operators of the multi-valued task, and plans -/
abbrev verX (o : Op) (cs : List (List Int)) (xs : List Int) : MOp := stepsM (postF o) cs 0 xs ⟨[], [], o.cost⟩
theorem pair_spec {t : Task} {cs : List (List Int)} : ∀ {n : Nat}, (pairsK t cs n).length ≤ 40 → ∀ pr ∈ pairsK t cs n, ∃ i, i < n ∧ pr.2 = (i : Int) ∧ opsOk cs t.ops[i]! = true ∧ ∃ xs, Choice (guesses t.ops[i]!) cs xs ∧ pr.1 = verX t.ops[i]! cs xs
  | 0, _, pr, hm => by simp [pairsK] at hm
  | n + 1, h, pr, hm => by
    rw [pairsK, List.length_append] at h
    rw [pairsK, List.mem_append] at hm
    rcases hm with hm | hm
    · obtain ⟨i, hi, h1⟩ := pair_spec (n := n) (by omega) pr hm
      exact ⟨i, by omega, h1⟩
    · by_cases ho : opsOk cs t.ops[n]! = true
      · rw [if_pos ho] at h hm
        rw [List.length_map] at h
        rw [List.mem_map] at hm
        obtain ⟨p, hp, rfl⟩ := hm
        refine ⟨n, by omega, rfl, ho, ?_⟩
        unfold verF at hp h
        rw [verM_full (by omega), mem_full] at hp
        obtain ⟨p0, hp0, xs, hc, rfl⟩ := hp
        unfold startM at hp0
        simp only [List.mem_singleton] at hp0
        subst hp0
        exact ⟨xs, hc, rfl⟩
      · rw [if_neg ho] at hm
        cases hm
theorem holds_goal {cs : List (List Int)} {g σ : List Int} : ∀ {k : Nat}, holdsM σ (goalK cs g k) = true ↔ ∀ v, v < k → 0 < cntIn cs[v]! g → σ[v]! = (valF cs[v]! g : Int)
  | 0 => by simp [goalK, holdsM]
  | k + 1 => by
    have ih := holds_goal (cs := cs) (g := g) (σ := σ) (k := k)
    have hs : holdsM σ (goalK cs g (k + 1)) = true ↔ holdsM σ (goalK cs g k) = true ∧ (0 < cntIn cs[k]! g → σ[k]! = (valF cs[k]! g : Int)) := by
      rw [goalK]
      unfold holdsM
      rw [List.all_append, Bool.and_eq_true]
      by_cases h : 0 < cntIn cs[k]! g
      · rw [if_pos h, List.all_cons, List.all_nil, Bool.and_true, decide_eq_true_eq]
        dsimp only
        rw [Int.toNat_natCast]
        exact ⟨fun ⟨a, b⟩ => ⟨a, fun _ => b⟩, fun ⟨a, b⟩ => ⟨a, b h⟩⟩
      · rw [if_neg h]
        exact ⟨fun ⟨a, _⟩ => ⟨a, fun hc => absurd hc h⟩, fun ⟨a, _⟩ => ⟨a, rfl⟩⟩
    rw [hs, ih]
    constructor
    · rintro ⟨h1, h2⟩ v hv
      rcases Nat.lt_or_ge v k with h | h
      · exact h1 v h
      · obtain rfl : v = k := by omega
        exact h2
    · intro h
      exact ⟨fun v hv => h v (by omega), h k (by omega)⟩
theorem goal_sub {t : Task} {ls : List (List Int)} {e : List Int} (h : groupsFault t ls = (0, 0)) (hi : InvG t ls e) (hng : crowdB (coverT t.facts.toNat ls) t.goal = false) :
    holdsM (valsF (coverT t.facts.toNat ls) e) (goalK (coverT t.facts.toNat ls) t.goal (coverT t.facts.toNat ls).length) = true ↔ subB t.goal e = true := by
  obtain ⟨hw, _, _⟩ := gf_ok h
  have hset := fun c hc => cover_isSet h (c := c) hc
  have hall := fun q h0 h1 => cover_all (n := t.facts.toNat) (ls := ls) (q := q) h0 h1
  have hfree := inv_free hi
  have h0 := hw.f0
  generalize coverT t.facts.toNat ls = cs at *
  rw [holds_goal, subB_iff]
  constructor
  · intro hh q hq
    obtain ⟨q0, q1⟩ := (isSet_iff.1 hw.goal).1 q hq
    obtain ⟨c, hcm, hqc⟩ := hall q q0 (by omega)
    obtain ⟨i, hil, rfl⟩ := List.getElem_of_mem hcm
    obtain ⟨j, hj, rfl⟩ := List.getElem_of_mem hqc
    have hcn := set_nodup (isSet_iff.1 (hset _ hcm)).2
    have e1 := hh i hil (by rw [getElem!_pos cs i hil]; exact cnt_pos.2 ⟨_, hqc, hq⟩)
    rw [valsF_get hil, getElem!_pos cs i hil, valF_of hcn (crowd_f.1 hng _ hcm) hj hq] at e1
    have e2 : valF cs[i] e = j := by omega
    have hlt : valF cs[i] e < cs[i].length := by omega
    have := valF_at hlt
    simp only [e2] at this
    exact this
  · intro hh v hv hpos
    rw [getElem!_pos cs v hv] at hpos ⊢
    rw [valsF_get hv]
    obtain ⟨q, hqc, hqg⟩ := cnt_pos.1 hpos
    obtain ⟨j, hj, rfl⟩ := List.getElem_of_mem hqc
    have hcm := List.getElem_mem hv
    have hcn := set_nodup (isSet_iff.1 (hset _ hcm)).2
    rw [valF_of hcn (crowd_f.1 hng _ hcm) hj hqg, valF_of hcn (crowd_f.1 hfree _ hcm) hj (hh _ hqg)]
def fromL (t : Task) (cs : List (List Int)) : List Int := (pairsK t cs t.ops.length).map Prod.snd
def taskM (t : Task) (cs : List (List Int)) : MTask := ⟨sizesM cs, valsF cs t.init, goalK cs t.goal cs.length, (pairsK t cs t.ops.length).map Prod.fst⟩
def stepsL (t : Task) (cs : List (List Int)) (plan : List Int) : List Int := plan.map fun x => (fromL t cs)[x.toNat]!
theorem op_spec {t : Task} {cs : List (List Int)} {x : Int} (h40 : (pairsK t cs t.ops.length).length ≤ 40) (h0 : 0 ≤ x) (h1 : x < (taskM t cs).ops.length) : ∃ i, ∃ hi : i < t.ops.length, (fromL t cs)[x.toNat]! = (i : Int) ∧ opsOk cs t.ops[i] = true ∧ ∃ xs, Choice (guesses t.ops[i]) cs xs ∧ opM (taskM t cs) x = verX t.ops[i] cs xs := by
  have hl : x.toNat < (pairsK t cs t.ops.length).length := by unfold taskM at h1; simp at h1; omega
  obtain ⟨i, hi, h2, h3, xs, h4, h5⟩ := pair_spec h40 _ (List.getElem_mem hl)
  rw [getElem!_pos t.ops i hi] at h3 h4 h5
  refine ⟨i, hi, ?_, h3, xs, h4, ?_⟩
  · unfold fromL
    rw [getElem!_pos _ _ (by simpa using hl), List.getElem_map, h2]
  · unfold opM taskM
    rw [getElem!_pos _ _ (by simpa using hl)]
    simp only [List.getElem_map]
    exact h5
theorem run_sim {t : Task} {ls : List (List Int)} (h : groupsFault t ls = (0, 0)) (h40 : (pairsK t (coverT t.facts.toNat ls) t.ops.length).length ≤ 40) : ∀ (plan : List Int) (s σ : List Int), InvG t ls s → InOpsM (taskM t (coverT t.facts.toNat ls)) plan → runM (taskM t (coverT t.facts.toNat ls)) (valsF (coverT t.facts.toNat ls) s) plan = some σ →
    ∃ e, endsT t s (natP (stepsL t (coverT t.facts.toNat ls) plan)) = some e ∧ InvG t ls e ∧ σ = valsF (coverT t.facts.toNat ls) e
  | [], s, σ, hi, _, hr => by
    rw [runM] at hr
    cases hr
    exact ⟨s, rfl, hi, rfl⟩
  | x :: r, s, σ, hi, hp, hr => by
    rw [runM] at hr
    obtain ⟨hx0, hx1⟩ := hp x (by simp)
    obtain ⟨i, hil, h2, h3, xs, h4, h5⟩ := op_spec h40 hx0 hx1
    rw [h5] at hr
    split at hr
    · rename_i hh
      have ho := List.getElem_mem hil
      obtain ⟨hpre, happ⟩ := op_step h ho hi h3 h4 hh
      rw [happ] at hr
      obtain ⟨e, h6, h7, h8⟩ := run_sim h h40 r _ σ (inv_next h ho hi hpre) (fun y hy => hp y (by simp [hy])) hr
      refine ⟨e, ?_, h7, h8⟩
      have : natP (stepsL t (coverT t.facts.toNat ls) (x :: r)) = i :: natP (stepsL t (coverT t.facts.toNat ls) r) := by
        unfold natP stepsL
        simp only [List.map_cons, h2, Int.toNat_natCast]
      rw [this]
      exact ends_cons.2 ⟨t.ops[i], List.getElem?_eq_getElem hil, subB_iff.2 hpre, h6⟩
    · cases hr
theorem solves_sim {t : Task} {ls : List (List Int)} {plan : List Int} (h : groupsFault t ls = (0, 0)) (h40 : (pairsK t (coverT t.facts.toNat ls) t.ops.length).length ≤ 40) (hng : crowdB (coverT t.facts.toNat ls) t.goal = false) (hp : InOpsM (taskM t (coverT t.facts.toNat ls)) plan) (hs : solvesM (taskM t (coverT t.facts.toNat ls)) plan = true) : worksB t t.init (natP (stepsL t (coverT t.facts.toNat ls) plan)) = true := by
  unfold solvesM at hs
  cases hr : runM (taskM t (coverT t.facts.toNat ls)) (taskM t (coverT t.facts.toNat ls)).init plan with
  | none => rw [hr] at hs; cases hs
  | some σ =>
    rw [hr] at hs
    obtain ⟨e, h1, h2, rfl⟩ := run_sim h h40 plan t.init σ (inv_init h) hp hr
    rw [worksB_iff]
    exact ⟨e, h1, (goal_sub h h2 hng).1 hs⟩
theorem cost_sim {t : Task} {cs : List (List Int)} (h40 : (pairsK t cs t.ops.length).length ≤ 40) : ∀ (plan : List Int), InOpsM (taskM t cs) plan → costLM (taskM t cs) plan = costT t (natP (stepsL t cs plan))
  | [], _ => rfl
  | x :: r, hp => by
    obtain ⟨hx0, hx1⟩ := hp x (by simp)
    obtain ⟨i, hil, h2, h3, xs, h4, h5⟩ := op_spec h40 hx0 hx1
    have ih := cost_sim h40 r fun y hy => hp y (by simp [hy])
    have e1 : natP (stepsL t cs (x :: r)) = i :: natP (stepsL t cs r) := by
      unfold natP stepsL
      simp only [List.map_cons, h2, Int.toNat_natCast]
    have e2 : costLM (taskM t cs) (x :: r) = (opM (taskM t cs) x).cost + costLM (taskM t cs) r := by unfold costLM; simp
    rw [e1, e2, ih, h5, costT, List.getElem?_eq_getElem hil, steps_cost]
end Go.Proofs.Ytpnpnbbanfgpgaa
