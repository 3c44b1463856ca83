import Derived.Test.YtpnpnbbanfgpgaaMuo



namespace Go.Proofs.Ytpnpnbbanfgpgaa
open Go.Ab
open Go
set_option linter.unusedSimpArgs false
set_option linter.unusedVariables false
set_option maxRecDepth 10000
attribute [local irreducible] PV AOp AOps AW PCall OCall MCall WCall HCall Ab.Fin OFin OFin2 MFin HFin RV RV1 Le AStk AGrd ADr ADx ADo AOpX AAny
set_option maxHeartbeats 4000000
attribute [local go_sem] purge_appV cells_intsV cast_0 sealDL_app
/-! the multi-valued task, plain -/
def opsOk (cs : List (List Int)) (o : Op) : Bool := !crowdB cs o.pre && !crowdB cs o.add
def pairsK (t : Task) (cs : List (List Int)) : Nat → List (MOp × Int)
  | 0 => []
  | k + 1 => pairsK t cs k ++ if opsOk cs t.ops[k]! = true then (verF t.ops[k]! cs).map fun p => (p, (k : Int)) else []
def curP (t : Task) (cs : List (List Int)) (k j : Nat) : List (MOp × Int) := pairsK t cs k ++ ((verF t.ops[k]! cs).take j).map fun p => (p, (k : Int))
theorem curP_zero {t : Task} {cs : List (List Int)} {k : Nat} : curP t cs k 0 = pairsK t cs k := by simp [curP]
theorem curP_step {t : Task} {cs : List (List Int)} {k j : Nat} (hk : k < t.ops.length) (hj : j < (verF t.ops[k] cs).length) : curP t cs k (j + 1) = curP t cs k j ++ [((verF t.ops[k] cs)[j], (k : Int))] := by
  unfold curP
  rw [getElem!_pos t.ops k hk, List.take_succ_eq_append_getElem hj, List.map_append, List.append_assoc]; rfl
theorem curP_end {t : Task} {cs : List (List Int)} {k : Nat} (hk : k < t.ops.length) (h : opsOk cs t.ops[k] = true) : curP t cs k (verF t.ops[k] cs).length = pairsK t cs (k + 1) := by
  unfold curP
  rw [pairsK, getElem!_pos t.ops k hk, if_pos h, List.take_length]
theorem pairsK_no {t : Task} {cs : List (List Int)} {k : Nat} (hk : k < t.ops.length) (h : opsOk cs t.ops[k] = false) : pairsK t cs (k + 1) = pairsK t cs k := by rw [pairsK, getElem!_pos t.ops k hk, if_neg (by simp [h]), List.append_nil]
theorem pairsK_mono {t : Task} {cs : List (List Int)} {a : Nat} : ∀ d, (pairsK t cs a).length ≤ (pairsK t cs (a + d)).length
  | 0 => Nat.le_refl _
  | d + 1 => by
    refine Nat.le_trans (pairsK_mono d) ?_
    rw [show a + (d + 1) = (a + d) + 1 from rfl, pairsK, List.length_append]; omega
theorem verM_len {vs y} : ∀ {cs : List (List Int)} {v : Nat} {out : List MOp}, out.length ≤ 240 → (∀ c ∈ cs, (vs c).length ≤ 6) → (verM vs y cs v out).length ≤ 240
  | [], _, _, h, _ => h
  | c :: r, v, out, h, hv => by
    rw [verM]
    split
    · exact h
    · refine verM_len ?_ fun d hd => hv d (by simp [hd])
      rw [nextM_len]
      exact mul_le40 (by omega) (hv c (by simp))
theorem verF_len {o : Op} {cs : List (List Int)} (h5 : ∀ c ∈ cs, c.length ≤ 5) : (verF o cs).length ≤ 240 :=
  verM_len (by simp [startM]) fun c hc => by have := h5 c hc; have := guesses_len (o := o) (c := c); omega
theorem curP_len {t : Task} {cs : List (List Int)} {k j : Nat} (hp : (pairsK t cs k).length ≤ 40) (h5 : ∀ c ∈ cs, c.length ≤ 5) : (curP t cs k j).length ≤ 280 := by
  have := verF_len (o := t.ops[k]!) h5
  unfold curP
  rw [List.length_append, List.length_map, List.length_take]; omega
def sizesM (cs : List (List Int)) : List Int := cs.map fun c => (c.length : Int) + 1
theorem sizesM_take {cs : List (List Int)} {k : Nat} (h : k < cs.length) : sizesM (cs.take (k + 1)) = sizesM (cs.take k) ++ [(cs[k].length : Int) + 1] := by
  unfold sizesM; rw [List.take_succ_eq_append_getElem h, List.map_append]; rfl
def badC (cs : List (List Int)) : Prop := cs.length = 0 ∨ 8 < cs.length ∨ ∃ c ∈ cs, 6 ≤ c.length
open Classical in
noncomputable def multiF (t : Task) (cs : List (List Int)) : MTask × List Int × Int × Int :=
  if badC cs then (zeroM, [], 10, -9)
  else if crowdB cs t.goal = true then (zeroM, [], 15, -9)
  else if 40 < (pairsK t cs t.ops.length).length then (zeroM, [], 10, -9)
  else (⟨sizesM cs, valsF cs t.init, goalK cs t.goal cs.length, (pairsK t cs t.ops.length).map Prod.fst⟩, (pairsK t cs t.ops.length).map Prod.snd, 0, 0)
theorem mf_bad {t : Task} {cs : List (List Int)} (h : badC cs) : multiF t cs = (zeroM, [], 10, -9) := by unfold multiF; rw [if_pos h]
theorem mf_goal {t : Task} {cs : List (List Int)} (h : ¬ badC cs) (h2 : crowdB cs t.goal = true) : multiF t cs = (zeroM, [], 15, -9) := by unfold multiF; rw [if_neg h, if_pos h2]
theorem mf_many {t : Task} {cs : List (List Int)} (h : ¬ badC cs) (h2 : crowdB cs t.goal = false) (h3 : 40 < (pairsK t cs t.ops.length).length) : multiF t cs = (zeroM, [], 10, -9) := by unfold multiF; rw [if_neg h, if_neg (by simp [h2]), if_pos h3]
theorem mf_ok {t : Task} {cs : List (List Int)} (h : ¬ badC cs) (h2 : crowdB cs t.goal = false) (h3 : ¬ 40 < (pairsK t cs t.ops.length).length) : multiF t cs = (⟨sizesM cs, valsF cs t.init, goalK cs t.goal cs.length, (pairsK t cs t.ops.length).map Prod.fst⟩, (pairsK t cs t.ops.length).map Prod.snd, 0, 0) := by unfold multiF; rw [if_neg h, if_neg (by simp [h2]), if_neg h3]
abbrev mres (r : MTask × List Int × Int × Int) : AV := .tup [r.1.av, ints r.2.1, .agg [.int r.2.2.1, .int r.2.2.2]]
theorem many_at {t : Task} {cs : List (List Int)} {k : Nat} (hk : k < t.ops.length) (h : 40 < (pairsK t cs (k + 1)).length) : 40 < (pairsK t cs t.ops.length).length := by
  have := pairsK_mono (t := t) (cs := cs) (a := k + 1) (t.ops.length - (k + 1))
  rw [show k + 1 + (t.ops.length - (k + 1)) = t.ops.length by omega] at this
  omega
theorem valsF_len (cs : List (List Int)) (s : List Int) : (valsF cs s).length = cs.length := by simp [valsF]
theorem sizesM_len (cs : List (List Int)) : (sizesM cs).length = cs.length := by simp [sizesM]

end Go.Proofs.Ytpnpnbbanfgpgaa
