import Derived.Test.YtpnpnbbanfgpgaaVer



namespace Go.Proofs.Ytpnpnbbanfgpgaa
open Go.Ab
open Go
set_option linter.unusedSimpArgs false
set_option linter.unusedVariables false
set_option maxRecDepth 10000
attribute [local irreducible] PV AOp AOps AW PCall OCall MCall WCall HCall Ab.Fin OFin OFin2 MFin HFin RV RV1 Le AStk AGrd ADr ADx ADo AOpX AAny
set_option maxHeartbeats 4000000
theorem le_aleF {f : List AV} {hp : Hp} (i : Nat) {x y : AV} (hx : f[i]? = some x) (h : ALe x y) : Le ⟨f, hp⟩ ⟨f.set i y, hp⟩ := by
  unfold Le
  intro R β G a w hr
  refine ⟨β, G, hr.defers, by simpa using hr.size, fun j x' y' hj hy => ?_, hr.hp⟩
  rw [List.getElem?_set] at hj
  by_cases hij : i = j
  · subst hij
    simp only [if_true] at hj
    split at hj <;> simp at hj
    subst hj
    exact h _ _ _ (hr.fr i _ y' hx hy)
  · simp only [hij, if_false] at hj
    exact hr.fr j x' y' hj hy
/-! the effects' functions -/
theorem on1_pc (v x : Int) : PCall Try.prog 77 [.int x, .iptr [.int v]] (fun r => r = .int v) := by
  (refine enterS Try.func77 Try.ntmps77 ?_)
  (repeat' (first | (refine hK _ ?_; clear hK K) | (refine aw_seq (fun K hK => ?_)) | (refine gR ?_; refine regS ?_) | (refine gT ?_; refine retS ?_)))
  (refine fin_le (Le.refl _) (rv_one (rv1_tmp (by rfl))) (by first | rfl | (simp only [go_sem, Nat.reduceAdd, Nat.reduceMul, reduceIte, Nat.reduceEqDiff, Nat.reduceLeDiff, Int.reduceToNat, Int.reducePow, Int.reduceBEq, Int.reduceBNe, Int.reduceLT, Int.reduceLE, decide_true, decide_false])) ?_)
  rfl
def goneK (o : Op) (c : List Int) (x : Int) : Int := if 0 ≤ x ∧ x < c.length ∧ hasB o.del c[x.toNat]! = true then c.length else x
theorem on2_pc (o : Op) (c : List Int) (x : Int) (hc : c.length ≤ 1000) : PCall Try.prog 78 [.int x, .iptr [ints c], .iptr (opc o)] (fun r => r = .int (goneK o c x)) := by
  by_cases h0 : 0 ≤ x
  · obtain ⟨k, rfl⟩ : ∃ k : Nat, x = k := ⟨x.toNat, by omega⟩
    by_cases hk : k < c.length
    · have hg : c[k]! = c[k] := getBang hk
      (refine enterS Try.func78 Try.ntmps78 ?_)
      (repeat' (first | (refine hK _ ?_; clear hK K) | (refine aw_seq (fun K hK => ?_)) | (refine gR ?_; refine regS ?_) | (refine gD 1 ?_; refine drS (.it 0 0 (.it 1 0 (.it 2 0 (.it 3 0 (.it 4 0 (.it 5 0 (.it 6 0 (.it 7 0 (.it 8 0 (.it 9 0 (.it 10 0 (.it 11 0 (.it 12 0 (.it 13 0 (.it 14 0 (.it 15 2 (.it 16 0 .nil))))))))))))))))) [0, 1, 2, 3, 4, 5, 6, 7, 8, 9, 10, 11, 12, 13, 14, 15, 16] ?_) | (refine gCd 73 ?_; refine callD (hasI_pc _ _) ?_) | (refine gE ?_; refine exS (fun _ => ?_)) | (refine gGd ?_; refine guardD (fun hc => ?_) (fun hc => ?_) <;> (try (first | contradiction | (exfalso; omega)))) | (refine gQ ?_; refine condS (fun hc => ?_) (fun hc => ?_) <;> (try (first | contradiction | (exfalso; omega)))) | (refine gT ?_; refine retS ?_) | (refine gS ?_; refine skipS ?_)))
      all_goals (refine fin_le (Le.refl _) (rv_one (rv1_tmp (by rfl))) (by first | rfl | (simp only [go_sem, Nat.reduceAdd, Nat.reduceMul, reduceIte, Nat.reduceEqDiff, Nat.reduceLeDiff, Int.reduceToNat, Int.reducePow, Int.reduceBEq, Int.reduceBNe, Int.reduceLT, Int.reduceLE, decide_true, decide_false])) ?_)
      all_goals (unfold goneK; simp_all)
    · (refine enterS Try.func78 Try.ntmps78 ?_)
      (repeat' (first | (refine hK _ ?_; clear hK K) | (refine aw_seq (fun K hK => ?_)) | (refine gR ?_; refine regS ?_) | (refine gD 1 ?_; refine drS (.it 0 0 (.it 1 0 (.it 2 0 (.it 3 0 (.it 4 0 (.it 5 0 (.it 6 0 (.it 7 0 (.it 8 0 (.it 9 0 (.it 10 0 (.it 11 0 (.it 12 0 (.it 13 0 (.it 14 0 (.it 15 2 (.it 16 0 .nil))))))))))))))))) [0, 1, 2, 3, 4, 5, 6, 7, 8, 9, 10, 11, 12, 13, 14, 15, 16] ?_) | (refine gGd ?_; refine guardD (fun hc => ?_) (fun hc => ?_) <;> (try (first | contradiction | (exfalso; omega)))) | (refine gQ ?_; refine condF ?_) | (refine gT ?_; refine retS ?_) | (refine gS ?_; refine skipS ?_)))
      all_goals (refine fin_le (Le.refl _) (rv_one (rv1_tmp (by rfl))) (by first | rfl | (simp only [go_sem, Nat.reduceAdd, Nat.reduceMul, reduceIte, Nat.reduceEqDiff, Nat.reduceLeDiff, Int.reduceToNat, Int.reducePow, Int.reduceBEq, Int.reduceBNe, Int.reduceLT, Int.reduceLE, decide_true, decide_false])) ?_)
      all_goals (unfold goneK; simp_all <;> omega)
  · (refine enterS Try.func78 Try.ntmps78 ?_)
    (repeat' (first | (refine hK _ ?_; clear hK K) | (refine aw_seq (fun K hK => ?_)) | (refine gR ?_; refine regS ?_) | (refine gD 1 ?_; refine drS (.it 0 0 (.it 1 0 (.it 2 0 (.it 3 0 (.it 4 0 (.it 5 0 (.it 6 0 (.it 7 0 (.it 8 0 (.it 9 0 (.it 10 0 (.it 11 0 (.it 12 0 (.it 13 0 (.it 14 0 (.it 15 2 (.it 16 0 .nil))))))))))))))))) [0, 1, 2, 3, 4, 5, 6, 7, 8, 9, 10, 11, 12, 13, 14, 15, 16] ?_) | (refine gGd ?_; refine guardD (fun hc => ?_) (fun hc => ?_) <;> (try (first | contradiction | (exfalso; omega)))) | (refine gQ ?_; refine condF ?_) | (refine gT ?_; refine retS ?_) | (refine gS ?_; refine skipS ?_)))
    all_goals (refine fin_le (Le.refl _) (rv_one (rv1_tmp (by rfl))) (by first | rfl | (simp only [go_sem, Nat.reduceAdd, Nat.reduceMul, reduceIte, Nat.reduceEqDiff, Nat.reduceLeDiff, Int.reduceToNat, Int.reducePow, Int.reduceBEq, Int.reduceBNe, Int.reduceLT, Int.reduceLE, decide_true, decide_false])) ?_)
    all_goals (unfold goneK; simp_all <;> omega)
/-! versions, plain -/
def stepM (v : Nat) (y : Int → Int) (p : MOp) (x : Int) : MOp := ⟨p.pre ++ (if 0 ≤ x then [((v : Int), x)] else []), p.post ++ (if y x = x then [] else [((v : Int), y x)]), p.cost⟩
def nextM (vs : List Int) (y : Int → Int) (v : Nat) (out : List MOp) : List MOp := out.flatMap fun p => vs.map (stepM v y p)
def verM (vs : List Int → List Int) (y : List Int → Int → Int) : List (List Int) → Nat → List MOp → List MOp
  | [], _, out => out
  | c :: r, v, out => if 40 < out.length then out else verM vs y r (v + 1) (nextM (vs c) (y c) v out)
theorem verM_stop {vs y} {r : List (List Int)} {v : Nat} {out : List MOp} (h : 40 < out.length) : verM vs y r v out = out := by
  cases r with
  | nil => rfl
  | cons c r => rw [verM, if_pos h]
theorem verM_step {vs y} {cs : List (List Int)} {v : Nat} {out : List MOp} (hk : v < cs.length) (h : out.length ≤ 40) : verM vs y (cs.drop v) v out = verM vs y (cs.drop (v + 1)) (v + 1) (nextM (vs cs[v]) (y cs[v]) v out) := by
  rw [List.drop_eq_getElem_cons hk, verM, if_neg (by omega)]
theorem verM_end {vs y} {cs : List (List Int)} {v : Nat} {out : List MOp} (h : cs.length ≤ v) : verM vs y (cs.drop v) v out = out := by
  rw [List.drop_eq_nil_of_le h]; rfl
theorem nextM_len {vs : List Int} {y : Int → Int} {v : Nat} : ∀ {out : List MOp}, (nextM vs y v out).length = out.length * vs.length
  | [] => by simp [nextM]
  | p :: r => by
    have := nextM_len (vs := vs) (y := y) (v := v) (out := r)
    unfold nextM at *
    rw [List.flatMap_cons, List.length_append, this, List.length_map, List.length_cons, Nat.add_mul]; omega
theorem nextM_take {vs : List Int} {y : Int → Int} {v k : Nat} {out : List MOp} (h : k < out.length) : nextM vs y v (out.take (k + 1)) = nextM vs y v (out.take k) ++ vs.map (stepM v y out[k]) := by
  unfold nextM
  rw [List.take_succ_eq_append_getElem h, List.flatMap_append]; simp
def rangeL (n : Nat) : List Int := (List.range n).map fun (i : Nat) => (i : Int)
theorem rangeL_len (n : Nat) : (rangeL n).length = n := by simp [rangeL]
theorem rangeL_succ (n : Nat) : rangeL (n + 1) = rangeL n ++ [(n : Int)] := by simp [rangeL, List.range_succ]
def startM (o : Op) : List MOp := [⟨[], [], o.cost⟩]
def openA (o : Op) (c : List Int) : Bool := decide (cntIn c o.add ≤ 0) && openL o c
def valsL (o : Op) (c : List Int) : List Int := if openA o c then rangeL (c.length + 1) else [preL o c]
def postL (o : Op) (c : List Int) (x : Int) : Int := if 0 < cntIn c o.add then valK c o.add c.length else goneK o c x
def verL (o : Op) (cs : List (List Int)) : List MOp := verM (valsL o) (postL o) cs 0 (startM o)
def guesses (o : Op) (c : List Int) : List Int := if 0 < cntIn c o.pre then [(valF c o.pre : Int)] else if 0 < cntIn c o.add ∨ cntIn c o.del = 0 then [-1] else rangeL (c.length + 1)
def postF (o : Op) (c : List Int) (x : Int) : Int := if 0 < cntIn c o.add then valF c o.add else goneK o c x
def verF (o : Op) (cs : List (List Int)) : List MOp := verM (guesses o) (postF o) cs 0 (startM o)
theorem cntIn_nn (c s : List Int) : 0 ≤ cntIn c s := by unfold cntIn; omega
theorem vals_eq {o : Op} {c : List Int} (h : cntIn c o.pre ≤ 1) : valsL o c = guesses o c := by
  have hv := val_eq h
  have h0 := cntIn_nn c o.pre
  have h1 := cntIn_nn c o.add
  have h2 := cntIn_nn c o.del
  unfold valsL guesses openA openL preL
  by_cases hp : 0 < cntIn c o.pre
  · rw [if_pos hp, if_neg (show ¬ cntIn c o.pre = 0 by omega), hv, if_neg]
    simp; omega
  · rw [if_neg hp, if_pos (show cntIn c o.pre = 0 by omega)]
    by_cases ha : 0 < cntIn c o.add ∨ cntIn c o.del = 0
    · rw [if_pos ha, if_neg]
      simp; omega
    · rw [if_neg ha, if_pos]
      simp; omega
theorem post_eq {o : Op} {c : List Int} (h : cntIn c o.add ≤ 1) : postL o c = postF o c := by
  funext x
  unfold postL postF
  rw [val_eq h]
theorem verM_congr {vs vs' y y'} : ∀ {cs : List (List Int)} {v : Nat} {out : List MOp}, (∀ c ∈ cs, vs c = vs' c) → (∀ c ∈ cs, y c = y' c) → verM vs y cs v out = verM vs' y' cs v out
  | [], _, _, _, _ => rfl
  | c :: r, v, out, h, h' => by
    rw [verM, verM, h c (by simp), h' c (by simp), verM_congr (fun d hd => h d (by simp [hd])) (fun d hd => h' d (by simp [hd]))]
theorem ver_eq {o : Op} {cs : List (List Int)} (h1 : crowdB cs o.pre = false) (h2 : crowdB cs o.add = false) : verL o cs = verF o cs :=
  verM_congr (fun c hc => vals_eq (crowd_f.1 h1 c hc)) (fun c hc => post_eq (crowd_f.1 h2 c hc))
end Go.Proofs.Ytpnpnbbanfgpgaa
