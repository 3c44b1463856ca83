import Derived.Test.YtpnpnbbanfgpgaaVey



namespace Go.Proofs.Ytpnpnbbanfgpgaa
open Go.Ab
open Go
set_option linter.unusedSimpArgs false
set_option linter.unusedVariables false
set_option maxRecDepth 10000
attribute [local irreducible] PV AOp AOps AW PCall OCall MCall WCall HCall Ab.Fin OFin OFin2 MFin HFin RV RV1 Le AStk AGrd ADr ADx ADo AOpX AAny
set_option maxHeartbeats 4000000
attribute [local go_sem] purge_appV cells_intsV cast_0 sealDL_app
def okM (v : Nat) (out : List MOp) : Prop := ∀ p ∈ out, p.pre.length ≤ v ∧ p.post.length ≤ v
theorem okM_next {vs : List Int} {y : Int → Int} {v : Nat} {out : List MOp} (h : okM v out) : okM (v + 1) (nextM vs y v out) := by
  intro q hq
  unfold nextM at hq
  rw [List.mem_flatMap] at hq
  obtain ⟨p, hp, hq⟩ := hq
  rw [List.mem_map] at hq
  obtain ⟨x, hx, rfl⟩ := hq
  have := h p hp
  unfold stepM
  constructor
  · simp only [List.length_append]; split <;> simp <;> omega
  · simp only [List.length_append]; split <;> simp <;> omega
def outK (vs : List Int → List Int) (y : List Int → Int → Int) (o : Op) (cs : List (List Int)) : Nat → List MOp
  | 0 => startM o
  | k + 1 => nextM (vs cs[k]!) (y cs[k]!) k (outK vs y o cs k)
theorem outK_succ {vs y o} {cs : List (List Int)} {k : Nat} (h : k < cs.length) : outK vs y o cs (k + 1) = nextM (vs cs[k]) (y cs[k]) k (outK vs y o cs k) := by rw [outK, getElem!_pos cs k h]
theorem outK_ok {vs y o} {cs : List (List Int)} : ∀ k, okM k (outK vs y o cs k)
  | 0 => by intro p hp; unfold outK startM at hp; simp at hp; subst hp; simp
  | k + 1 => by rw [outK]; exact okM_next (outK_ok k)
theorem guesses_len {o : Op} {c : List Int} : (guesses o c).length ≤ c.length + 1 := by
  unfold guesses
  split
  · simp
  · split
    · simp
    · rw [rangeL_len]; exact Nat.le_refl _
theorem valsL_len {o : Op} {c : List Int} : (valsL o c).length ≤ c.length + 1 := by
  unfold valsL
  split
  · rw [rangeL_len]; exact Nat.le_refl _
  · simp
theorem startLe (o : Op) : ALe (.isl 3 56 [.agg [.nilS, .nilS, .int o.cost]]) (mopsA (startM o)) := ALe.isl rfl (by simp [startM, AV.cells]) ⟨ALe.nil 2 16, ALe.nil 2 16, ALe.rfl' _, trivial⟩
theorem nextM_at {vs : List Int} {y : Int → Int} {v i j : Nat} {out : List MOp} (hi : i < out.length) (hj : j < vs.length) : nextM vs y v (out.take i) ++ (vs.take (j + 1)).map (stepM v y out[i]) = (nextM vs y v (out.take i) ++ (vs.take j).map (stepM v y out[i])) ++ [stepM v y out[i] vs[j]] := by
  rw [List.take_succ_eq_append_getElem hj, List.map_append, List.append_assoc]; rfl
def curM (vs : List Int) (y : Int → Int) (v : Nat) (out : List MOp) (i j : Nat) : List MOp := nextM vs y v (out.take i) ++ (vs.take j).map (stepM v y out[i]!)
theorem curM_zero {vs : List Int} {y : Int → Int} {v i : Nat} {out : List MOp} : curM vs y v out i 0 = nextM vs y v (out.take i) := by simp [curM]
theorem curM_nil {vs : List Int} {y : Int → Int} {v : Nat} {out : List MOp} : curM vs y v out 0 0 = [] := by simp [curM, nextM]
theorem curM_step {vs : List Int} {y : Int → Int} {v i j : Nat} {out : List MOp} (hi : i < out.length) (hj : j < vs.length) : curM vs y v out i (j + 1) = curM vs y v out i j ++ [stepM v y out[i] vs[j]] := by
  unfold curM
  rw [List.take_succ_eq_append_getElem hj, List.map_append, getElem!_pos out i hi, List.append_assoc]; rfl
theorem curM_end {vs : List Int} {y : Int → Int} {v i : Nat} {out : List MOp} (hi : i < out.length) : curM vs y v out i vs.length = curM vs y v out (i + 1) 0 := by
  rw [curM_zero, nextM_take hi, curM, List.take_length, getElem!_pos out i hi]
theorem curM_all {vs : List Int} {y : Int → Int} {v : Nat} {out : List MOp} : curM vs y v out out.length 0 = nextM vs y v out := by rw [curM_zero, List.take_length]
theorem curM_len {vs : List Int} {y : Int → Int} {v i j : Nat} {out : List MOp} (ho : out.length ≤ 40) (hv : vs.length ≤ 6) : (curM vs y v out i j).length ≤ 300 := by
  have h1 : min i out.length * vs.length ≤ 40 * 6 := Nat.mul_le_mul (by omega) hv
  unfold curM
  rw [List.length_append, nextM_len, List.length_map, List.length_take, List.length_take]; omega
theorem mul_le40 {a b : Nat} (h : a ≤ 40) (h2 : b ≤ 6) : a * b ≤ 240 := Nat.mul_le_mul h h2
theorem moc_snoc (l : List MOp) (p : MOp) : l.flatMap moc ++ [asgs p.pre, asgs p.post, .int p.cost] = (l ++ [p]).flatMap moc := by simp [moc]

end Go.Proofs.Ytpnpnbbanfgpgaa
