import Derived.Test.YthdlckclpmfidaaCmi


namespace Go.Proofs.Ythdlckclpmfidaa
open Go.Ab
open Go
set_option linter.unusedSimpArgs false
set_option linter.unusedVariables false
set_option maxRecDepth 10000
attribute [local irreducible] PV AOp AOps AW PCall OCall MCall WCall HCall Ab.Fin OFin OFin2 MFin HFin RV RV1 Le AStk AGrd ADr ADx ADo AOpX AAny AOpsI wops wdr wgd wdt
set_option maxHeartbeats 4000000
/-! heaps -/
def hLt (c : Int → Int) (a b : Int) : Bool := decide (c a < c b ∨ c a = c b ∧ a < b)
theorem hle_trans {c : Int → Int} {x y z : Int} (h1 : hLt c y x = false) (h2 : hLt c z y = false) : hLt c z x = false := by
  simp only [hLt, decide_eq_false_iff_not] at *
  omega
theorem hlt_le {c : Int → Int} {x y : Int} (h : hLt c x y = true) : hLt c y x = false := by
  simp only [hLt, decide_eq_false_iff_not, decide_eq_true_eq] at *
  omega
theorem hle_refl {c : Int → Int} {x : Int} : hLt c x x = false := by simp [hLt]
theorem hle_cost {c : Int → Int} {x y : Int} (h : hLt c y x = false) : c x ≤ c y := by
  simp only [hLt, decide_eq_false_iff_not] at *
  omega
def HeapOk (c : Int → Int) (l : List Int) (n : Nat) : Prop := ∀ i, i < n → 0 < i → hLt c l[i]! l[(i - 1) / 2]! = false
theorem HeapOk.root {c : Int → Int} {l : List Int} {n : Nat} (h : HeapOk c l n) : ∀ i, i < n → hLt c l[i]! l[0]! = false := by
  intro i
  induction i using Nat.strongRecOn with
  | ind i ih =>
    intro hi
    by_cases h0 : i = 0
    · subst h0; exact hle_refl
    · exact hle_trans (ih ((i - 1) / 2) (by omega) (by omega)) (h i hi (by omega))
def swapL (l : List Int) (i j : Nat) : List Int := (l.set i l[j]!).set j l[i]!
theorem swapL_len (l : List Int) (i j : Nat) : (swapL l i j).length = l.length := by simp [swapL]
theorem swapL_get {l : List Int} {i j : Nat} (hi : i < l.length) (hj : j < l.length) (k : Nat) : (swapL l i j)[k]! = if k = j then l[i]! else if k = i then l[j]! else l[k]! := by
  unfold swapL
  by_cases hk : k < l.length
  · rw [getElem!_pos _ k (by simpa using hk), List.getElem_set, getElem!_pos l k hk]
    by_cases h1 : j = k
    · subst h1; rw [if_pos rfl, if_pos rfl]
    · rw [if_neg h1, if_neg (Ne.symm h1), List.getElem_set]
      by_cases h2 : i = k
      · subst h2; rw [if_pos rfl]; try rw [if_pos rfl]
      · rw [if_neg h2, if_neg (Ne.symm h2)]
  · rw [if_neg (by omega), if_neg (by omega), getElem!_neg _ k (by simpa using hk), getElem!_neg _ k hk]
theorem swapL_perm {l : List Int} {i j : Nat} (hi : i < l.length) (hj : j < l.length) : (swapL l i j).Perm l := by
  have h := (Array.swap_perm (xs := l.toArray) (i := i) (j := j) (by simpa using hi) (by simpa using hj))
  have h2 := h.toList
  simp only [List.swap_toArray] at h2
  unfold swapL
  rw [getElem!_pos l i hi, getElem!_pos l j hj]
  exact h2
/-- All is well but at j. -/
structure UpI (c : Int → Int) (l : List Int) (j n : Nat) : Prop where
  a : ∀ i, i < n → 0 < i → i ≠ j → hLt c l[i]! l[(i - 1) / 2]! = false
  b : ∀ i, i < n → 0 < i → (i - 1) / 2 = j → 0 < j → hLt c l[i]! l[(j - 1) / 2]! = false
theorem UpI.step {c : Int → Int} {l : List Int} {j : Nat} (h : UpI c l j l.length) (hj : j < l.length) (h0 : 0 < j) (hlt : hLt c l[j]! l[(j - 1) / 2]! = true) : UpI c (swapL l ((j - 1) / 2) j) ((j - 1) / 2) (swapL l ((j - 1) / 2) j).length := by
  have hp : (j - 1) / 2 < l.length := by omega
  have hle := hlt_le hlt
  rw [swapL_len]
  refine ⟨fun i hi i0 hne => ?_, fun i hi i0 he hp0 => ?_⟩
  · rw [swapL_get hp hj, swapL_get hp hj]
    by_cases e1 : i = j
    · subst e1
      rw [if_pos rfl, if_neg (by omega), if_pos rfl]
      exact hle
    · rw [if_neg e1, if_neg hne]
      by_cases e2 : (i - 1) / 2 = j
      · rw [if_pos e2]
        exact h.b i hi i0 e2 h0
      · rw [if_neg e2]
        by_cases e3 : (i - 1) / 2 = (j - 1) / 2
        · rw [if_pos e3]
          have := h.a i hi i0 e1
          rw [e3] at this
          exact hle_trans hle this
        · rw [if_neg e3]
          exact h.a i hi i0 e1
  · have hpp := h.a ((j - 1) / 2) hp hp0 (by omega)
    rw [swapL_get hp hj, swapL_get hp hj]
    rw [if_neg (c := ((j - 1) / 2 - 1) / 2 = j) (by omega), if_neg (c := ((j - 1) / 2 - 1) / 2 = (j - 1) / 2) (by omega)]
    by_cases e1 : i = j
    · subst e1
      rw [if_pos rfl]
      exact hpp
    · rw [if_neg e1, if_neg (by omega)]
      have := h.a i hi i0 e1
      rw [he] at this
      exact hle_trans hpp this
theorem UpI.done {c : Int → Int} {l : List Int} {j n : Nat} (h : UpI c l j n) (hd : j = 0 ∨ hLt c l[j]! l[(j - 1) / 2]! = false) : HeapOk c l n := by
  intro i hi i0
  by_cases e : i = j
  · subst e
    rcases hd with hd | hd
    · omega
    · exact hd
  · exact h.a i hi i0 e
theorem UpI.push {c : Int → Int} {l : List Int} (h : HeapOk c l l.length) (x : Int) : UpI c (l ++ [x]) l.length (l ++ [x]).length := by
  have hg : ∀ i, i < l.length → (l ++ [x])[i]! = l[i]! := fun i hi => by
    rw [getElem!_pos _ i (by simp; omega), getElem!_pos _ i hi, List.getElem_append_left hi]
  rw [List.length_append, List.length_singleton]
  refine ⟨fun i hi i0 hne => ?_, fun i hi i0 he => ?_⟩
  · rw [hg i (by omega), hg _ (by omega)]
    exact h i (by omega) i0
  · omega
structure DownI (c : Int → Int) (l : List Int) (i n : Nat) : Prop where
  a : ∀ k, k < n → 0 < k → (k - 1) / 2 ≠ i → hLt c l[k]! l[(k - 1) / 2]! = false
  b : ∀ k, k < n → 0 < k → (k - 1) / 2 = i → 0 < i → hLt c l[k]! l[(i - 1) / 2]! = false
theorem DownI.step {c : Int → Int} {l : List Int} {i j n : Nat} (h : DownI c l i n) (hn : n ≤ l.length) (hj : j < n) (hji : (j - 1) / 2 = i) (j0 : 0 < j) (hsm : ∀ k, k < n → 0 < k → (k - 1) / 2 = i → hLt c l[k]! l[j]! = false) (hlt : hLt c l[j]! l[i]! = true) : DownI c (swapL l i j) j n := by
  have hle := hlt_le hlt
  have hij : i < j := by omega
  have hjl : j < l.length := by omega
  have hil : i < l.length := by omega
  refine ⟨fun k hk k0 hne => ?_, fun k hk k0 he _ => ?_⟩
  · rw [swapL_get hil hjl, swapL_get hil hjl]
    rw [if_neg hne]
    by_cases e1 : k = j
    · subst e1
      rw [if_pos rfl, if_pos hji]
      exact hle
    · rw [if_neg e1]
      by_cases e2 : k = i
      · subst e2
        rw [if_pos rfl, if_neg (by omega)]
        exact h.b j hj j0 hji k0
      · rw [if_neg e2]
        by_cases e3 : (k - 1) / 2 = i
        · rw [if_pos e3]
          exact hsm k hk k0 e3
        · rw [if_neg e3]
          exact h.a k hk k0 e3
  · rw [swapL_get hil hjl, swapL_get hil hjl, if_neg (by omega), if_neg (by omega), if_neg (by omega), if_pos hji]
    have := h.a k hk k0 (by omega)
    rw [he] at this
    exact this
theorem DownI.done {c : Int → Int} {l : List Int} {i n : Nat} (h : DownI c l i n) (hd : ∀ k, k < n → 0 < k → (k - 1) / 2 = i → hLt c l[k]! l[i]! = false) : HeapOk c l n := by
  intro k hk k0
  by_cases e : (k - 1) / 2 = i
  · rw [e]; exact hd k hk k0 e
  · exact h.a k hk k0 e
theorem DownI.start {c : Int → Int} {l : List Int} (h : HeapOk c l l.length) (h0 : 0 < l.length) : DownI c (swapL l 0 (l.length - 1)) 0 (l.length - 1) := by
  refine ⟨fun k hk k0 hne => ?_, fun k _ _ _ h => absurd h (by omega)⟩
  rw [swapL_get h0 (by omega), swapL_get h0 (by omega), if_neg (by omega), if_neg (by omega), if_neg (by omega), if_neg (by omega)]
  exact h k (by omega) k0
/-! ### Only the first cells of a block are known any more -/
theorem le_takeB {f : List AV} {hp : Hp} (id m : Nat) {T : TypeId} {cs : List AV} {fl : Bool} (hb : hget hp id = some ⟨T, cs, fl⟩) (hT : T < 1000000000) : Le ⟨f, hp⟩ ⟨f, hset hp id ⟨T, cs.take m, false⟩⟩ := by
  unfold Le
  intro R β G a w hr
  refine ⟨β, G, hr.defers, hr.size, hr.fr, ⟨hr.hp.gs, fun i bk hi => ?_, fun i j b t t' hi hj => ?_, hr.hp.keeps, hr.hp.dom, hr.hp.idr⟩⟩
  · rw [hget_hset] at hi
    by_cases hid : id = i
    · subst hid
      simp only [if_true, Option.some.injEq] at hi
      subst hi
      have := hr.hp.blk id _ hb
      unfold BlkOk at this ⊢
      cases hβ : β id with
      | no => rw [hβ] at this; exact this
      | nil =>
        rw [hβ] at this
        refine ⟨?_, rfl⟩
        have := this.1
        simp only at this
        subst this
        simp
      | gh o =>
        rw [hβ] at this
        have := (GhB.big this).2
        exact absurd hT (Nat.not_lt.2 this)
      | «at» b t =>
        rw [hβ] at this
        obtain ⟨g1, g2, arr, g3, g4, g5, g6, g7⟩ := this
        have g5' : cs.length ≤ t := g5
        refine ⟨g1, g2, arr, g3, g4, show (cs.take m).length ≤ t by rw [List.length_take]; omega, fun hf => (by cases hf), fun j x y hx hy => ?_⟩
        rw [List.getElem?_take] at hx
        split at hx
        · exact g7 j x y hx hy
        · cases hx
    · simp only [hid, if_false] at hi
      exact hr.hp.blk i bk hi
  · have key : ∀ k, (hget (hset hp id ⟨T, cs.take m, false⟩) k).isSome → (hget hp k).isSome := fun k hk => by
      rw [hget_hset] at hk
      split at hk
      · rename_i e; subst e; rw [hb]; rfl
      · exact hk
    exact hr.hp.inj i j b t t' (key i hi) (key j hj)
theorem hfin_le {P : Program} {rs : Array ResultVar} {ids pins recs : List Nat} {Q : AV → Hp → Prop} {e : Exit} {s s1 : St} (hl : Le s s1) (h : HFin P rs ids pins recs Q e s1) : HFin P rs ids pins recs Q e s := by
  cases e with
  | normal =>
    unfold HFin at h ⊢
    obtain ⟨s', x, hp', h1, h2⟩ := h
    exact ⟨s', x, hp', hl.trans h1, h2⟩
  | ret =>
    unfold HFin at h ⊢
    obtain ⟨s', x, hp', h1, h2⟩ := h
    exact ⟨s', x, hp', hl.trans h1, h2⟩
  | _ => unfold HFin at h; exact h.elim
/-! nodes -/
structure Nd where
  st : List Int
  c : Int
  par : Int
  op : Int
  deriving Inhabited
abbrev Nd.cs (n : Nd) : List AV := [ints n.st, .int n.c, .int n.par, .int n.op]
abbrev Nd.av (n : Nd) : AV := .agg n.cs
abbrev ndsC (l : List Nd) : List AV := l.flatMap Nd.cs
@[local go_sem] theorem nds_ment (id : Nat) (l : List Nd) : AV.mentL id (ndsC l) = false := mentL_flat id Nd.cs l fun _ => rfl
@[local go_sem] theorem nds_purge (id : Nat) (l : List Nd) : AV.purgeL id (ndsC l) = ndsC l := purgeL_flat id Nd.cs l fun _ => rfl
theorem nds_pur (l : List Nd) : AV.purL (ndsC l) = true := purL_flat Nd.cs l fun _ => rfl
@[local go_sem] theorem nds_fix (ids pins : List Nat) (l : List Nd) : AV.fixL ids pins (ndsC l) = ndsC l := fixL_pur (nds_pur l)
@[local go_sem] theorem nds_onl (ids : List Nat) (l : List Nd) : AV.onlL ids (ndsC l) = true := onlL_pur (nds_pur l)
@[local go_sem] theorem nds_len (l : List Nd) : (ndsC l).length = l.length * 4 := by
  unfold ndsC
  induction l with
  | nil => rfl
  | cons w l ih => rw [List.flatMap_cons, List.length_append, ih, List.length_cons]; simp; omega
theorem nds_app (a b : List Nd) : ndsC (a ++ b) = ndsC a ++ ndsC b := List.flatMap_append
class LtK (k : Nat) (N : List Nd) : Prop where
  lt : k < N.length
theorem nds_getE : ∀ {l : List Nd} {k i : Nat} (hi : i < 4) (h : k * 4 + i < (ndsC l).length) (hk : k < l.length), (ndsC l)[k * 4 + i] = (Nd.cs l[k])[i]'(by simpa using hi)
  | [], k, i, _, _, hk => absurd hk (by simp)
  | n :: l, 0, i, hi, h, hk => by
    have : ndsC (n :: l) = n.cs ++ ndsC l := List.flatMap_cons ..
    simp only [this, Nat.zero_mul, Nat.zero_add]
    rw [List.getElem_append_left (by simpa using hi)]
    rfl
  | n :: l, k + 1, i, hi, h, hk => by
    have e : ndsC (n :: l) = n.cs ++ ndsC l := List.flatMap_cons ..
    have hk' : k < l.length := by simpa using hk
    have e2 : (k + 1) * 4 + i = (k * 4 + i) + 4 := by omega
    simp only [e, e2]
    rw [List.getElem_append_right (by simp)]
    have := nds_getE (l := l) (k := k) (i := i) hi (by rw [nds_len]; omega) hk'
    simpa using this
@[local go_sem] theorem nds_0 {N : List Nd} {k : Nat} [hl : LtK k N] (h : k * 4 < (ndsC N).length) : (ndsC N)[k * 4] = ints (N[k]!).st := by
  rw [getElem!_pos N k hl.lt]
  exact nds_getE (i := 0) (by omega) h hl.lt
@[local go_sem] theorem nds_1 {N : List Nd} {k : Nat} [hl : LtK k N] (h : k * 4 + 1 < (ndsC N).length) : (ndsC N)[k * 4 + 1] = .int (N[k]!).c := by
  rw [getElem!_pos N k hl.lt]
  exact nds_getE (i := 1) (by omega) h hl.lt
@[local go_sem] theorem nds_2 {N : List Nd} {k : Nat} [hl : LtK k N] (h : k * 4 + 2 < (ndsC N).length) : (ndsC N)[k * 4 + 2] = .int (N[k]!).par := by
  rw [getElem!_pos N k hl.lt]
  exact nds_getE (i := 2) (by omega) h hl.lt
@[local go_sem] theorem nds_3 {N : List Nd} {k : Nat} [hl : LtK k N] (h : k * 4 + 3 < (ndsC N).length) : (ndsC N)[k * 4 + 3] = .int (N[k]!).op := by
  rw [getElem!_pos N k hl.lt]
  exact nds_getE (i := 3) (by omega) h hl.lt
/-- The cost of a node by its number. -/
def costN (l : List Nd) (k : Int) : Int := (l[k.toNat]!).c
/-- What the heap's methods are lent: the heap's box, its list, the nodes' box, the nodes. -/
abbrev hpB (l : List Int) (N : List Nd) (g f f2 : Bool) : Hp := [(19, ⟨87, [.ptr 4 0, .sl 1 8 17 0 l.length], true⟩), (17, ⟨3, l.map AV.int, f⟩), (4, ⟨83, [.sl 4 48 16 0 N.length], true⟩), (16, ⟨82, ndsC N, f2⟩)]
theorem len_hc (l : List Int) (N : List Nd) (f f2 : Bool) : HCall Try.prog 63 [.ptr 19 0] (hpB l N true f f2) [] [19, 4] (fun x hp => x = .int l.length ∧ hp = hpB l N true f f2) := by
  (refine enterH Try.func63 Try.ntmps63 ?_)
  (repeat' (first | (refine hK _ ?_; clear hK K) | (refine aw_seq (fun K hK => ?_)) | (refine gR ?_; refine regS ?_) | (refine gE ?_; refine exN ?_) | (refine gT ?_; refine retS ?_)))
  (refine hfin_eq (Le.refl _) (rv_one (rv1_tmp (by rfl))) (by (repeat refine hsub_has (by rfl) ?_); exact hsub_nil _) (by rfl) (by first | rfl | (simp only [go_sem, Nat.reduceAdd, Nat.reduceMul, reduceIte, Nat.reduceEqDiff, Nat.reduceLeDiff, Int.reduceToNat, Int.reducePow, Int.reduceBEq, Int.reduceBNe, Int.reduceLT, Int.reduceLE, decide_true, decide_false, Nat.reduceBEq, Bool.or_self, Bool.or_true, Bool.true_or, Bool.or_false, Bool.false_or, Bool.and_true, Bool.true_and, Bool.and_false, Bool.false_and, Bool.and_self, Bool.not_true, Bool.not_false, List.cons_append, List.nil_append, List.append_nil, if_true, if_false, Bool.false_eq_true, keysH]; done)) ⟨rfl, rfl⟩)
theorem swap_hc (l : List Int) (N : List Nd) (f f2 : Bool) (i j : Nat) (hi : i < l.length) (hj : j < l.length) : HCall Try.prog 122 [.ptr 19 0, .int i, .int j] (hpB l N true f f2) [] [19, 4] (fun x hp => x = .tup [] ∧ hp = hpB (swapL l i j) N true f f2) := by
  
  (refine enterH Try.func122 Try.ntmps122 ?_)
  (repeat' (first | (refine gD 0 ?_; refine drE (s1 := ?_) (.it 0 0 (.it 1 0 (.it 2 0 (.it 3 0 (.it 4 0 (.it 5 0 (.it 6 0 (.it 7 0 (.it 8 0 (.it 10 0 (.it 11 0 (.it 12 0 (.it 13 0 (.it 14 0 (.it 15 0 (.it 16 0 (.it 17 0 (.it 18 0 (.it 19 0 (.it 20 0 (.it 21 0 (.it 22 0 (.it 23 0 (.it 24 0 (.fkm 9 1 25 3 (.it 25 3 (.it 26 1 (.it 27 3 .nil))) (.it 9 1 (.it 26 1 (.it 27 3 .nil)))))))))))))))))))))))))))) [0, 1, 2, 3, 4, 5, 6, 7, 8, 10, 11, 12, 13, 14, 15, 16, 17, 18, 19, 20, 21, 22, 23, 24] ?_ ?_; rotate_left) | (refine And.intro ?_ ?_) | (refine gDx ?_; refine adxS ?_) | (refine gO ?_; refine adoS ?_) | (refine gL ?_; (first | exact Le.refl _ | exact weakS)) | (refine gE ?_; (first | (refine Exists.intro hi ?_) | (refine Exists.intro hj ?_) | (refine exN ?_)))))
  
  have e : (swapL l i j).map AV.int = ((l.map AV.int).set i (AV.int l[j])).set j (AV.int l[i]) := by unfold swapL; rw [getElem!_pos l i hi, getElem!_pos l j hj, List.map_set, List.map_set]
  simp only [hpB, swapL_len]
  rw [← e]
  (refine hfin_eq (Le.refl _) rv_zero (by (repeat refine hsub_has (by rfl) ?_); exact hsub_nil _) (by rfl) (by first | rfl | (simp only [go_sem, Nat.reduceAdd, Nat.reduceMul, reduceIte, Nat.reduceEqDiff, Nat.reduceLeDiff, Int.reduceToNat, Int.reducePow, Int.reduceBEq, Int.reduceBNe, Int.reduceLT, Int.reduceLE, decide_true, decide_false, Nat.reduceBEq, Bool.or_self, Bool.or_true, Bool.true_or, Bool.or_false, Bool.false_or, Bool.and_true, Bool.true_and, Bool.and_false, Bool.false_and, Bool.and_self, Bool.not_true, Bool.not_false, List.cons_append, List.nil_append, List.append_nil, if_true, if_false, Bool.false_eq_true, keysH]; done)) ⟨rfl, rfl⟩)
/-- The numbers in the heap are numbers of nodes. -/
def Ref (l : List Int) (n : Nat) : Prop := ∀ x ∈ l, 0 ≤ x ∧ x < n
theorem Ref.get {l : List Int} {n i : Nat} (h : Ref l n) (hi : i < l.length) : 0 ≤ l[i] ∧ l[i].toNat < n := by
  have := h _ (List.getElem_mem hi)
  omega
theorem less_hc (l : List Int) (N : List Nd) (f f2 : Bool) (i j : Nat) (hi : i < l.length) (hj : j < l.length) (hr : Ref l N.length) : HCall Try.prog 119 [.ptr 19 0, .int i, .int j] (hpB l N true f f2) [] [19, 4] (fun x hp => x = .bool (hLt (costN N) l[i] l[j]) ∧ hp = hpB l N true f f2) := by
  obtain ⟨i0, i1⟩ := hr.get hi
  obtain ⟨j0, j1⟩ := hr.get hj
  have ec1 : costN N l[i] = (N[l[i].toNat]!).c := rfl
  have ec2 : costN N l[j] = (N[l[j].toNat]!).c := rfl
  have hL1 : LtK l[i].toNat N := ⟨i1⟩
  have hL2 : LtK l[j].toNat N := ⟨j1⟩
  
  (refine enterH Try.func119 Try.ntmps119 ?_)
  (repeat' (first | (refine hK _ ?_; clear hK K) | (refine aw_seq (fun K hK => ?_)) | (refine gR ?_; refine regS ?_) | (refine gD 1 ?_; refine drS (.it 0 0 (.it 1 0 (.it 2 0 (.it 3 0 (.it 4 0 (.it 5 0 (.it 6 0 (.it 7 0 (.it 8 0 (.it 9 0 (.it 10 0 (.it 11 0 (.it 12 0 (.it 13 0 (.it 14 0 (.it 15 0 (.it 16 0 (.it 17 0 (.it 18 0 (.it 19 0 (.it 20 0 (.it 21 0 (.it 22 0 (.it 23 0 (.it 24 0 (.it 25 0 (.it 26 0 (.it 27 0 (.it 28 0 (.it 29 0 (.it 30 0 (.it 31 0 (.it 32 0 (.it 33 0 .nil)))))))))))))))))))))))))))))))))) [0, 1, 2, 3, 4, 5, 6, 7, 8, 9, 10, 11, 12, 13, 14, 15, 16, 17, 18, 19, 20, 21, 22, 23, 24, 25, 26, 27, 28, 29, 30, 31, 32, 33] ?_) | (refine gD 2 ?_; refine drS (.it 0 0 (.it 1 0 (.it 2 0 (.it 3 0 (.it 4 0 (.it 5 0 (.it 6 0 (.it 7 0 (.it 8 0 (.it 9 0 (.it 10 0 (.it 11 0 (.it 12 0 (.it 13 0 (.it 14 0 (.it 15 0 (.it 16 0 (.it 17 0 (.it 18 0 (.it 19 0 (.it 20 0 (.it 21 0 (.it 22 0 (.it 23 0 (.it 24 0 (.it 25 0 .nil)))))))))))))))))))))))))) [0, 1, 2, 3, 4, 5, 6, 7, 8, 9, 10, 11, 12, 13, 14, 15, 16, 17, 18, 19, 20, 21, 22, 23, 24, 25] ?_) | (refine gE ?_; (first | (refine Exists.intro hi ?_) | (refine Exists.intro hj ?_) | (refine exN ?_))) | (refine gGd ?_; refine guardD (fun hc => ?_) (fun hc => ?_) <;> (try (first | contradiction | (exfalso; omega)))) | (refine gT ?_; refine retS ?_)))
  
  · rw [show hLt (costN N) l[i] l[j] = true by simp only [hLt, decide_eq_true_eq, ec1, ec2]; first | omega | exact .inl hc]
    (refine hfin_eq (Le.refl _) (rv_one (rv1_tmp (by rfl))) (by (repeat refine hsub_has (by rfl) ?_); exact hsub_nil _) (by rfl) (by first | rfl | (simp only [go_sem, Nat.reduceAdd, Nat.reduceMul, reduceIte, Nat.reduceEqDiff, Nat.reduceLeDiff, Int.reduceToNat, Int.reducePow, Int.reduceBEq, Int.reduceBNe, Int.reduceLT, Int.reduceLE, decide_true, decide_false, Nat.reduceBEq, Bool.or_self, Bool.or_true, Bool.true_or, Bool.or_false, Bool.false_or, Bool.and_true, Bool.true_and, Bool.and_false, Bool.false_and, Bool.and_self, Bool.not_true, Bool.not_false, List.cons_append, List.nil_append, List.append_nil, if_true, if_false, Bool.false_eq_true, keysH]; done)) ⟨rfl, rfl⟩)
  · rw [show hLt (costN N) l[i] l[j] = decide (l[i] < l[j]) by rw [Bool.eq_iff_iff]; simp only [hLt, decide_eq_true_eq, ec1, ec2]; first | omega | exact .inl hc]
    (refine hfin_eq (Le.refl _) (rv_one (rv1_tmp (by rfl))) (by (repeat refine hsub_has (by rfl) ?_); exact hsub_nil _) (by rfl) (by first | rfl | (simp only [go_sem, Nat.reduceAdd, Nat.reduceMul, reduceIte, Nat.reduceEqDiff, Nat.reduceLeDiff, Int.reduceToNat, Int.reducePow, Int.reduceBEq, Int.reduceBNe, Int.reduceLT, Int.reduceLE, decide_true, decide_false, Nat.reduceBEq, Bool.or_self, Bool.or_true, Bool.true_or, Bool.or_false, Bool.false_or, Bool.and_true, Bool.true_and, Bool.and_false, Bool.false_and, Bool.and_self, Bool.not_true, Bool.not_false, List.cons_append, List.nil_append, List.append_nil, if_true, if_false, Bool.false_eq_true, keysH]; done)) ⟨rfl, rfl⟩)
  · rw [show hLt (costN N) l[i] l[j] = false by simp only [hLt, decide_eq_false_iff_not, ec1, ec2]; omega]
    (refine hfin_eq (Le.refl _) (rv_one (rv1_tmp (by rfl))) (by (repeat refine hsub_has (by rfl) ?_); exact hsub_nil _) (by rfl) (by first | rfl | (simp only [go_sem, Nat.reduceAdd, Nat.reduceMul, reduceIte, Nat.reduceEqDiff, Nat.reduceLeDiff, Int.reduceToNat, Int.reducePow, Int.reduceBEq, Int.reduceBNe, Int.reduceLT, Int.reduceLE, decide_true, decide_false, Nat.reduceBEq, Bool.or_self, Bool.or_true, Bool.true_or, Bool.or_false, Bool.false_or, Bool.and_true, Bool.true_and, Bool.and_false, Bool.false_and, Bool.and_self, Bool.not_true, Bool.not_false, List.cons_append, List.nil_append, List.append_nil, if_true, if_false, Bool.false_eq_true, keysH]; done)) ⟨rfl, rfl⟩)
theorem pop1_hc (l : List Int) (N : List Nd) (f f2 : Bool) (h0 : 0 < l.length) (hl : l.length ≤ 1000000) : HCall Try.prog 120 [.ptr 19 0] (hpB l N true f f2) [] [19, 4] (fun r hp => r = .fn (1000000000 + 3) [.int (l[l.length - 1]'(by omega))] ∧ hp = hpB (l.take (l.length - 1)) N true false f2) := by
  have hle : l.length - 1 < l.length := by omega
  
  (refine enterH Try.func120 Try.ntmps120 ?_)
  (repeat' (first | (refine hK _ ?_; clear hK K) | (refine aw_seq (fun K hK => ?_)) | (refine gR ?_; refine regS ?_) | (refine gD 1 ?_; refine drS (.it 0 0 (.it 1 0 (.it 2 0 (.it 3 0 (.it 4 0 (.it 5 0 (.it 6 0 (.it 7 0 (.it 8 0 (.it 9 0 (.it 10 0 (.it 11 0 (.it 12 0 .nil))))))))))))) [0, 1, 2, 3, 4, 5, 6, 7, 8, 9, 10, 11, 12] ?_) | (refine gD 2 ?_; refine drS (.it 0 0 (.it 1 0 (.it 2 0 (.it 3 0 (.it 4 0 (.it 5 0 (.it 6 0 (.it 7 0 (.it 8 0 (.it 9 0 (.it 10 0 (.it 11 0 (.it 12 0 (.it 13 0 (.it 14 3 .nil))))))))))))))) [0, 1, 2, 3, 4, 5, 6, 7, 8, 9, 10, 11, 12, 13] ?_) | (refine stk_op (fun K hK => ?_); (refine aop_pv (pv_makeInterface) ?_)) | (refine gO ?_; refine adoS ?_) | (refine gE ?_; (first | (refine Exists.intro hle ?_) | (refine exN ?_))) | (refine gW ?_; refine wopsS ?_) | (refine gT ?_; refine retS ?_)))
  
  refine hfin_le (le_takeB 17 (l.length - 1) (by rfl) (by decide)) ?_
  have e2 : (l.take (l.length - 1)).length = l.length - 1 := by simp
  simp only [hpB, e2]
  simp only [go_sem, Nat.reduceAdd, Nat.reduceMul, reduceIte, Nat.reduceEqDiff, Nat.reduceLeDiff, Int.reduceToNat, Int.reducePow, Int.reduceBEq, Int.reduceBNe, Int.reduceLT, Int.reduceLE, decide_true, decide_false, Nat.reduceBEq, Bool.or_self, Bool.or_true, Bool.true_or, Bool.or_false, Bool.false_or, Bool.and_true, Bool.true_and, Bool.and_false, Bool.false_and, Bool.and_self, Bool.not_true, Bool.not_false, List.cons_append, List.nil_append, List.append_nil, if_true, if_false, Bool.false_eq_true, keysH, ← List.map_take]
  (refine hfin_eq (Le.refl _) (rv_one (rv1_tmp (by rfl))) (by (repeat refine hsub_has (by rfl) ?_); exact hsub_nil _) (by rfl) (by first | rfl | (simp only [go_sem, Nat.reduceAdd, Nat.reduceMul, reduceIte, Nat.reduceEqDiff, Nat.reduceLeDiff, Int.reduceToNat, Int.reducePow, Int.reduceBEq, Int.reduceBNe, Int.reduceLT, Int.reduceLE, decide_true, decide_false, Nat.reduceBEq, Bool.or_self, Bool.or_true, Bool.true_or, Bool.or_false, Bool.false_or, Bool.and_true, Bool.true_and, Bool.and_false, Bool.false_and, Bool.and_self, Bool.not_true, Bool.not_false, List.cons_append, List.nil_append, List.append_nil, if_true, if_false, Bool.false_eq_true, keysH]; done)) ⟨rfl, rfl⟩)
theorem push1_hc (l : List Int) (N : List Nd) (f2 : Bool) (x : Int) (hl : l.length ≤ 1000000) : HCall Try.prog 121 [.ptr 19 0, .fn (1000000000 + 3) [.int x]] (hpB l N true false f2) [] [19, 4] (fun r hp => r = .tup [] ∧ hp = hpB (l ++ [x]) N true false f2) := by
  (refine enterH Try.func121 Try.ntmps121 ?_)
  (repeat' (first | (refine hK _ ?_; clear hK K) | (refine gD 0 ?_; refine drE (s1 := ?_) (.it 1 0 (.it 2 0 (.it 3 0 (.it 4 0 (.it 5 0 (.fk 0 6 (.it 6 1 (.it 7 1 (.it 8 3 (.it 9 1 (.it 10 1 (.it 11 3 .nil)))))) (.fk 0 7 (.it 7 1 (.it 8 3 (.it 9 1 (.it 10 1 (.it 11 3 .nil))))) (.fkm 0 1 8 3 (.it 8 3 (.it 9 1 (.it 10 1 (.it 11 3 .nil)))) (.it 0 1 (.it 9 1 (.it 10 1 (.it 11 3 .nil)))))))))))) [1, 2, 3, 4, 5] ?_ ?_; rotate_left) | (refine adx_op (fun K hK => ?_); (first | ((refine aopx_pv (pv_typeAssert (by rfl) (by rfl)) ?_)) | (refine aopx_pv (pv_fieldAddrF (by rfl) (by rfl) (by first | decide | (simp; done) | (simp; omega))) ?_) | (refine aopx_buildSlice (d := 11) (by exact ⟨by decide, by decide, by decide⟩) (by rfl) (by rfl) (by rfl) (by rfl) ?_))) | (refine And.intro ?_ ?_) | (refine gDx ?_; refine adxS ?_) | (refine ado_op (fun K hK => ?_); refine appendS ?_) | (refine gO ?_; refine adoS ?_) | (refine gL ?_; (first | exact Le.refl _ | exact weakS)) | (refine gE ?_; refine exN ?_) | (refine gWd ?_; refine wdrS ?_)))
  simp only [hpB, List.length_append, List.length_singleton, List.map_append, List.map_cons, List.map_nil]
  (refine hfin_eq (Le.refl _) rv_zero (by (repeat refine hsub_has (by rfl) ?_); exact hsub_nil _) (by rfl) (by first | rfl | (simp only [go_sem, Nat.reduceAdd, Nat.reduceMul, reduceIte, Nat.reduceEqDiff, Nat.reduceLeDiff, Int.reduceToNat, Int.reducePow, Int.reduceBEq, Int.reduceBNe, Int.reduceLT, Int.reduceLE, decide_true, decide_false, Nat.reduceBEq, Bool.or_self, Bool.or_true, Bool.true_or, Bool.or_false, Bool.false_or, Bool.and_true, Bool.true_and, Bool.and_false, Bool.false_and, Bool.and_self, Bool.not_true, Bool.not_false, List.cons_append, List.nil_append, List.append_nil, if_true, if_false, Bool.false_eq_true, keysH]; done)) ⟨rfl, rfl⟩)
/-! the heap of the library -/
instance : TyM Try.prog 1000000084 "Len" 63 := tyM_is (T := 84) inferInstance (by kernel_rfl)
instance : TyM Try.prog 1000000084 "Less" 119 := tyM_is (T := 84) inferInstance (by kernel_rfl)
instance : TyM Try.prog 1000000084 "Pop" 120 := tyM_is (T := 84) inferInstance (by kernel_rfl)
instance : TyM Try.prog 1000000084 "Push" 121 := tyM_is (T := 84) inferInstance (by kernel_rfl)
instance : TyM Try.prog 1000000084 "Swap" 122 := tyM_is (T := 84) inferInstance (by kernel_rfl)
class Pos (j : Nat) : Prop where
  pos : 0 < j
@[local go_sem] theorem tdiv_pred {j : Nat} [h : Pos j] : ((j : Int) - 1).tdiv 2 = (((j - 1) / 2 : Nat) : Int) := by
  have := h.pos
  rw [show (j : Int) - 1 = ((j - 1 : Nat) : Int) by omega]
  rfl
theorem up_hc (l : List Int) (N : List Nd) (f f2 : Bool) (j : Nat) (hj : j < l.length) (hl : l.length ≤ 1000000) (hr : Ref l N.length) (hu : UpI (costN N) l j l.length) : HCall Try.prog 78 [.fn 1000000084 [.ptr 19 0], .int j] (hpB l N true f f2) [] [19, 4] (fun r hp => r = .tup [] ∧ ∃ l', l'.Perm l ∧ HeapOk (costN N) l' l'.length ∧ hp = hpB l' N true f f2) := by
  (refine enterH Try.func78 Try.ntmps78 ?_)
  (repeat' (refine aw_block ?_))
  refine aw_loop_at [1, 4, 5, 6, 7, 8, 9, 10, 11, 12, 13, 14, 15, 16, 17, 18, 19, 20, 21, 22] (fun q : List Int × Nat => q.2 < l.length ∧ q.1.Perm l ∧ UpI (costN N) q.1 q.2 q.1.length) (fun q => q.2) (fun q => [(1, .int q.2)])
    (fun q => hpB q.1 N true f f2 ++ [(1000000000, ⟨1000000000, [.ptr 19 0, .ptr 4 0], false⟩)]) (l, j) ⟨hj, List.Perm.refl _, hu⟩ ?_ ?_
  · (refine atS ?_)
    (exact weakS)
  · rintro ⟨l1, j⟩ ⟨hj, hp, hu⟩ K hK
    (refine atS ?_)
    simp only at hj hp hu
    have hlen := hp.length_eq
    have hr1 : Ref l1 N.length := fun x hx => hr x (hp.mem_iff.1 hx)
    by_cases h0 : j = 0
    · subst h0
      (repeat' (first | (refine hK _ ?_; clear hK K) | (refine aw_seq (fun K hK => ?_)) | (refine gR ?_; refine regS ?_) | (refine gE ?_; refine exN ?_) | (refine gG ?_; refine guardS (fun hc => ?_) (fun hc => ?_) <;> (try (first | contradiction | (exfalso; omega)))) | (refine gQ ?_; refine condT ?_) | (refine aw_block ?_) | (refine gX ?_; refine exitS ?_)))
      (refine hfin_eq (Le.refl _) rv_zero (by (repeat refine hsub_has (by rfl) ?_); exact hsub_nil _) (by rfl) (by first | rfl | (simp only [go_sem, Nat.reduceAdd, Nat.reduceMul, reduceIte, Nat.reduceEqDiff, Nat.reduceLeDiff, Int.reduceToNat, Int.reducePow, Int.reduceBEq, Int.reduceBNe, Int.reduceLT, Int.reduceLE, decide_true, decide_false, Nat.reduceBEq, Bool.or_self, Bool.or_true, Bool.true_or, Bool.or_false, Bool.false_or, Bool.and_true, Bool.true_and, Bool.and_false, Bool.false_and, Bool.and_self, Bool.not_true, Bool.not_false, List.cons_append, List.nil_append, List.append_nil, if_true, if_false, Bool.false_eq_true, keysH]; done)) ⟨rfl, l1, hp, hu.done (.inl rfl), rfl⟩)
    · have hle := less_hc l1 N f f2 j ((j - 1) / 2) (by omega) (by omega) hr1
      have hsw := swap_hc l1 N f f2 ((j - 1) / 2) j (by omega) (by omega)
      have hP : Pos j := ⟨by omega⟩
      have hb : hLt (costN N) l1[j]! l1[(j - 1) / 2]! = hLt (costN N) l1[j] l1[(j - 1) / 2] := by rw [getElem!_pos l1 j, getElem!_pos l1 ((j - 1) / 2)]
      generalize hLt (costN N) l1[j] l1[(j - 1) / 2] = b at *
      (repeat' (first | (refine hK _ ?_; clear hK K) | (refine aw_seq (fun K hK => ?_)) | (refine gR ?_; refine regS ?_) | (refine stk_op (fun K hK => ?_); (first | ((refine aop_invokeH (by rfl) (hle) (by (repeat (first | exact hin_nil | refine hin_cons (by rfl) ?_))) (fun _ h => by cases h) (by rfl) (fun x hp' hx => ?_); obtain ⟨rfl, rfl⟩ := hx <;> simp only [go_sem, Nat.reduceAdd, Nat.reduceMul, reduceIte, Nat.reduceEqDiff, Nat.reduceLeDiff, Int.reduceToNat, Int.reducePow, Int.reduceBEq, Int.reduceBNe, Int.reduceLT, Int.reduceLE, decide_true, decide_false, Nat.reduceBEq, Bool.or_self, Bool.or_true, Bool.true_or, Bool.or_false, Bool.false_or, Bool.and_true, Bool.true_and, Bool.and_false, Bool.false_and, Bool.and_self, Bool.not_true, Bool.not_false, List.cons_append, List.nil_append, List.append_nil, if_true, if_false, Bool.false_eq_true, keysH])) | ((refine aop_invokeH (by rfl) (hsw) (by (repeat (first | exact hin_nil | refine hin_cons (by rfl) ?_))) (fun _ h => by cases h) (by rfl) (fun x hp' hx => ?_); obtain ⟨rfl, rfl⟩ := hx <;> simp only [go_sem, Nat.reduceAdd, Nat.reduceMul, reduceIte, Nat.reduceEqDiff, Nat.reduceLeDiff, Int.reduceToNat, Int.reducePow, Int.reduceBEq, Int.reduceBNe, Int.reduceLT, Int.reduceLE, decide_true, decide_false, Nat.reduceBEq, Bool.or_self, Bool.or_true, Bool.true_or, Bool.or_false, Bool.false_or, Bool.and_true, Bool.true_and, Bool.and_false, Bool.false_and, Bool.and_self, Bool.not_true, Bool.not_false, List.cons_append, List.nil_append, List.append_nil, if_true, if_false, Bool.false_eq_true, keysH])))) | (refine gE ?_; refine exN ?_) | (refine gG ?_; refine guardS (fun hc => ?_) (fun hc => ?_) <;> (try (first | contradiction | (exfalso; omega)))) | (refine gQ ?_; refine condS (fun hc => ?_) (fun hc => ?_) <;> (try (first | contradiction | (exfalso; omega)))) | (refine gW ?_; refine wopsS ?_) | (refine aw_block ?_) | (refine gX ?_; refine exitS ?_) | (refine gS ?_; refine skipS ?_)))
      · subst hc
        (refine hfin_eq (Le.refl _) rv_zero (by (repeat refine hsub_has (by rfl) ?_); exact hsub_nil _) (by rfl) (by first | rfl | (simp only [go_sem, Nat.reduceAdd, Nat.reduceMul, reduceIte, Nat.reduceEqDiff, Nat.reduceLeDiff, Int.reduceToNat, Int.reducePow, Int.reduceBEq, Int.reduceBNe, Int.reduceLT, Int.reduceLE, decide_true, decide_false, Nat.reduceBEq, Bool.or_self, Bool.or_true, Bool.true_or, Bool.or_false, Bool.false_or, Bool.and_true, Bool.true_and, Bool.and_false, Bool.false_and, Bool.and_self, Bool.not_true, Bool.not_false, List.cons_append, List.nil_append, List.append_nil, if_true, if_false, Bool.false_eq_true, keysH]; done)) ⟨rfl, l1, hp, hu.done (.inr hb), rfl⟩)
      · subst hc
        refine ⟨(swapL l1 ((j - 1) / 2) j, (j - 1) / 2), ⟨by simp only; omega, (swapL_perm (by omega) (by omega)).trans hp, hu.step (by omega) (by omega) hb⟩, by simp only; omega, ?_⟩
        (refine atS ?_)
        (exact weakS)
theorem less_at (l : List Int) (N : List Nd) (f f2 : Bool) {i j : Nat} {x y : Int} (hi : i < l.length) (hj : j < l.length) (hr : Ref l N.length) (hx : x = i) (hy : y = j) : HCall Try.prog 119 [.ptr 19 0, .int x, .int y] (hpB l N true f f2) [] [19, 4] (fun r hp => r = .bool (hLt (costN N) l[i]! l[j]!) ∧ hp = hpB l N true f f2) := by
  subst hx
  subst hy
  rw [getElem!_pos l i hi, getElem!_pos l j hj]
  exact less_hc l N f f2 i j hi hj hr
theorem swap_at (l : List Int) (N : List Nd) (f f2 : Bool) {i j : Nat} {x y : Int} (hi : i < l.length) (hj : j < l.length) (hx : x = i) (hy : y = j) : HCall Try.prog 122 [.ptr 19 0, .int x, .int y] (hpB l N true f f2) [] [19, 4] (fun r hp => r = .tup [] ∧ hp = hpB (swapL l i j) N true f f2) := by
  subst hx
  subst hy
  exact swap_hc l N f f2 i j hi hj
theorem down_hc (l : List Int) (N : List Nd) (f f2 : Bool) (n : Nat) (hn : n ≤ l.length) (hl : l.length ≤ 1000000) (hr : Ref l N.length) (hu : DownI (costN N) l 0 n) : HCall Try.prog 76 [.fn 1000000084 [.ptr 19 0], .int 0, .int n] (hpB l N true f f2) [] [19, 4] (fun r hp => ∃ b l', r = .bool b ∧ l'.Perm l ∧ HeapOk (costN N) l' n ∧ (∀ k, n ≤ k → l'[k]! = l[k]!) ∧ hp = hpB l' N true f f2) := by
  (refine enterH Try.func76 Try.ntmps76 ?_)
  (repeat' (first | (refine hK _ ?_; clear hK K) | (refine aw_seq (fun K hK => ?_)) | (refine gR ?_; refine regS ?_) | (refine aw_block ?_)))
  refine aw_loop_at [7, 8, 9, 10, 12, 13, 14, 15, 16, 17, 18, 19, 20, 21, 22, 23, 24, 25, 26, 27, 28, 29, 30, 31, 32, 33, 34, 35, 36, 37, 38, 39, 40, 41, 42, 43, 44] (fun q : List Int × Nat => q.2 ≤ n ∧ q.1.Perm l ∧ DownI (costN N) q.1 q.2 n ∧ ∀ k, n ≤ k → q.1[k]! = l[k]!) (fun q => n - q.2) (fun q => [(7, .int q.2)])
    (fun q => hpB q.1 N true f f2 ++ [(1000000000, ⟨1000000000, [.ptr 19 0, .ptr 4 0], false⟩)]) (l, 0) ⟨by simp, List.Perm.refl _, hu, fun _ _ => rfl⟩ ?_ ?_
  · (refine atS ?_)
    (exact weakS)
  · rintro ⟨l1, i⟩ ⟨hi, hp, hu, ht⟩ K hK
    (refine atS ?_)
    simp only at hi hp hu ht
    have hlen := hp.length_eq
    have hr1 : Ref l1 N.length := fun x hx => hr x (hp.mem_iff.1 hx)
    by_cases h1 : 2 * i + 1 < n
    · by_cases h2 : 2 * i + 2 < n
      · have hle := less_at l1 N f f2 (i := 2 * i + 2) (j := 2 * i + 1) (x := 2 * (i : Int) + 1 + 1) (y := 2 * (i : Int) + 1) (by omega) (by omega) hr1 (by omega) (by omega)
        cases hb : hLt (costN N) l1[2 * i + 2]! l1[2 * i + 1]!
        · rw [hb] at hle
          have hsm : ∀ k, k < n → 0 < k → (k - 1) / 2 = i → hLt (costN N) l1[k]! l1[2 * i + 1]! = false := fun k _ _ _ => by
            obtain rfl | rfl : k = 2 * i + 1 ∨ k = 2 * i + 2 := by omega
            · exact hle_refl
            · exact hb
          have hle2 := less_at l1 N f f2 (i := 2 * i + 1) (j := i) (x := 2 * (i : Int) + 1) (y := (i : Int)) (by omega) (by omega) hr1 (by omega) rfl
          have hsw := swap_at l1 N f f2 (i := i) (j := 2 * i + 1) (x := (i : Int)) (y := 2 * (i : Int) + 1) (by omega) (by omega) rfl (by omega)
          cases hb2 : hLt (costN N) l1[2 * i + 1]! l1[i]!
          · rw [hb2] at hle2
            (repeat' (first | (refine hK _ ?_; clear hK K) | (refine aw_seq (fun K hK => ?_)) | (refine gR ?_; refine regS ?_) | (refine stk_op (fun K hK => ?_); (first | ((refine aop_invokeH (by rfl) (hle) (by (repeat (first | exact hin_nil | refine hin_cons (by rfl) ?_))) (fun _ h => by cases h) (by rfl) (fun x hp' hx => ?_); obtain ⟨rfl, rfl⟩ := hx <;> simp only [go_sem, Nat.reduceAdd, Nat.reduceMul, reduceIte, Nat.reduceEqDiff, Nat.reduceLeDiff, Int.reduceToNat, Int.reducePow, Int.reduceBEq, Int.reduceBNe, Int.reduceLT, Int.reduceLE, decide_true, decide_false, Nat.reduceBEq, Bool.or_self, Bool.or_true, Bool.true_or, Bool.or_false, Bool.false_or, Bool.and_true, Bool.true_and, Bool.and_false, Bool.false_and, Bool.and_self, Bool.not_true, Bool.not_false, List.cons_append, List.nil_append, List.append_nil, if_true, if_false, Bool.false_eq_true, keysH])) | ((refine aop_invokeH (by rfl) (hle2) (by (repeat (first | exact hin_nil | refine hin_cons (by rfl) ?_))) (fun _ h => by cases h) (by rfl) (fun x hp' hx => ?_); obtain ⟨rfl, rfl⟩ := hx <;> simp only [go_sem, Nat.reduceAdd, Nat.reduceMul, reduceIte, Nat.reduceEqDiff, Nat.reduceLeDiff, Int.reduceToNat, Int.reducePow, Int.reduceBEq, Int.reduceBNe, Int.reduceLT, Int.reduceLE, decide_true, decide_false, Nat.reduceBEq, Bool.or_self, Bool.or_true, Bool.true_or, Bool.or_false, Bool.false_or, Bool.and_true, Bool.true_and, Bool.and_false, Bool.false_and, Bool.and_self, Bool.not_true, Bool.not_false, List.cons_append, List.nil_append, List.append_nil, if_true, if_false, Bool.false_eq_true, keysH])))) | (refine gE ?_; refine exN ?_) | (refine gG ?_; refine guardS (fun hc => ?_) (fun hc => ?_) <;> (try (first | contradiction | (exfalso; omega)))) | (refine gQ ?_; (first | (refine condT ?_) | (refine condF ?_))) | (refine gW ?_; refine wopsS ?_) | (refine aw_block ?_) | (refine gX ?_; refine exitS ?_) | (refine gT ?_; refine retS ?_) | (refine gS ?_; refine skipS ?_) | (apply_assumption (exfalso := false) (symm := false))))
            have hok := hu.done (fun k hk k0 he => hle_trans hb2 (hsm k hk k0 he))
            (refine hfin_eq (Le.refl _) (rv_one (rv1_tmp (by rfl))) (by (repeat refine hsub_has (by rfl) ?_); exact hsub_nil _) (by rfl) (by first | rfl | (simp only [go_sem, Nat.reduceAdd, Nat.reduceMul, reduceIte, Nat.reduceEqDiff, Nat.reduceLeDiff, Int.reduceToNat, Int.reducePow, Int.reduceBEq, Int.reduceBNe, Int.reduceLT, Int.reduceLE, decide_true, decide_false, Nat.reduceBEq, Bool.or_self, Bool.or_true, Bool.true_or, Bool.or_false, Bool.false_or, Bool.and_true, Bool.true_and, Bool.and_false, Bool.false_and, Bool.and_self, Bool.not_true, Bool.not_false, List.cons_append, List.nil_append, List.append_nil, if_true, if_false, Bool.false_eq_true, keysH]; done)) ⟨_, l1, rfl, hp, hok, ht, rfl⟩)
          · rw [hb2] at hle2
            (repeat' (first | (refine hK _ ?_; clear hK K) | (refine aw_seq (fun K hK => ?_)) | (refine gR ?_; refine regS ?_) | (refine stk_op (fun K hK => ?_); (first | ((refine aop_invokeH (by rfl) (hle) (by (repeat (first | exact hin_nil | refine hin_cons (by rfl) ?_))) (fun _ h => by cases h) (by rfl) (fun x hp' hx => ?_); obtain ⟨rfl, rfl⟩ := hx <;> simp only [go_sem, Nat.reduceAdd, Nat.reduceMul, reduceIte, Nat.reduceEqDiff, Nat.reduceLeDiff, Int.reduceToNat, Int.reducePow, Int.reduceBEq, Int.reduceBNe, Int.reduceLT, Int.reduceLE, decide_true, decide_false, Nat.reduceBEq, Bool.or_self, Bool.or_true, Bool.true_or, Bool.or_false, Bool.false_or, Bool.and_true, Bool.true_and, Bool.and_false, Bool.false_and, Bool.and_self, Bool.not_true, Bool.not_false, List.cons_append, List.nil_append, List.append_nil, if_true, if_false, Bool.false_eq_true, keysH])) | ((refine aop_invokeH (by rfl) (hle2) (by (repeat (first | exact hin_nil | refine hin_cons (by rfl) ?_))) (fun _ h => by cases h) (by rfl) (fun x hp' hx => ?_); obtain ⟨rfl, rfl⟩ := hx <;> simp only [go_sem, Nat.reduceAdd, Nat.reduceMul, reduceIte, Nat.reduceEqDiff, Nat.reduceLeDiff, Int.reduceToNat, Int.reducePow, Int.reduceBEq, Int.reduceBNe, Int.reduceLT, Int.reduceLE, decide_true, decide_false, Nat.reduceBEq, Bool.or_self, Bool.or_true, Bool.true_or, Bool.or_false, Bool.false_or, Bool.and_true, Bool.true_and, Bool.and_false, Bool.false_and, Bool.and_self, Bool.not_true, Bool.not_false, List.cons_append, List.nil_append, List.append_nil, if_true, if_false, Bool.false_eq_true, keysH])) | ((refine aop_invokeH (by rfl) (hsw) (by (repeat (first | exact hin_nil | refine hin_cons (by rfl) ?_))) (fun _ h => by cases h) (by rfl) (fun x hp' hx => ?_); obtain ⟨rfl, rfl⟩ := hx <;> simp only [go_sem, Nat.reduceAdd, Nat.reduceMul, reduceIte, Nat.reduceEqDiff, Nat.reduceLeDiff, Int.reduceToNat, Int.reducePow, Int.reduceBEq, Int.reduceBNe, Int.reduceLT, Int.reduceLE, decide_true, decide_false, Nat.reduceBEq, Bool.or_self, Bool.or_true, Bool.true_or, Bool.or_false, Bool.false_or, Bool.and_true, Bool.true_and, Bool.and_false, Bool.false_and, Bool.and_self, Bool.not_true, Bool.not_false, List.cons_append, List.nil_append, List.append_nil, if_true, if_false, Bool.false_eq_true, keysH])))) | (refine gE ?_; refine exN ?_) | (refine gG ?_; refine guardS (fun hc => ?_) (fun hc => ?_) <;> (try (first | contradiction | (exfalso; omega)))) | (refine gQ ?_; refine condF ?_) | (refine gW ?_; refine wopsS ?_) | (refine aw_block ?_) | (refine gS ?_; refine skipS ?_)))
            refine ⟨(swapL l1 i (2 * i + 1), 2 * i + 1), ⟨by simp only; omega, (swapL_perm (by omega) (by omega)).trans hp, hu.step (by omega) (by omega) (by omega) (by omega) hsm hb2, fun k hk => by simp only; rw [swapL_get (by omega) (by omega), if_neg (by omega), if_neg (by omega)]; exact ht k hk⟩, by simp only; omega, ?_⟩
            (refine atS ?_)
            (exact weakS)
        · rw [hb] at hle
          have hsm : ∀ k, k < n → 0 < k → (k - 1) / 2 = i → hLt (costN N) l1[k]! l1[2 * i + 2]! = false := fun k _ _ _ => by
            obtain rfl | rfl : k = 2 * i + 1 ∨ k = 2 * i + 2 := by omega
            · exact hlt_le hb
            · exact hle_refl
          have hle2 := less_at l1 N f f2 (i := 2 * i + 2) (j := i) (x := 2 * (i : Int) + 1 + 1) (y := (i : Int)) (by omega) (by omega) hr1 (by omega) rfl
          have hsw := swap_at l1 N f f2 (i := i) (j := 2 * i + 2) (x := (i : Int)) (y := 2 * (i : Int) + 1 + 1) (by omega) (by omega) rfl (by omega)
          cases hb2 : hLt (costN N) l1[2 * i + 2]! l1[i]!
          · rw [hb2] at hle2
            (repeat' (first | (refine hK _ ?_; clear hK K) | (refine aw_seq (fun K hK => ?_)) | (refine gR ?_; refine regS ?_) | (refine stk_op (fun K hK => ?_); (first | ((refine aop_invokeH (by rfl) (hle) (by (repeat (first | exact hin_nil | refine hin_cons (by rfl) ?_))) (fun _ h => by cases h) (by rfl) (fun x hp' hx => ?_); obtain ⟨rfl, rfl⟩ := hx <;> simp only [go_sem, Nat.reduceAdd, Nat.reduceMul, reduceIte, Nat.reduceEqDiff, Nat.reduceLeDiff, Int.reduceToNat, Int.reducePow, Int.reduceBEq, Int.reduceBNe, Int.reduceLT, Int.reduceLE, decide_true, decide_false, Nat.reduceBEq, Bool.or_self, Bool.or_true, Bool.true_or, Bool.or_false, Bool.false_or, Bool.and_true, Bool.true_and, Bool.and_false, Bool.false_and, Bool.and_self, Bool.not_true, Bool.not_false, List.cons_append, List.nil_append, List.append_nil, if_true, if_false, Bool.false_eq_true, keysH])) | ((refine aop_invokeH (by rfl) (hle2) (by (repeat (first | exact hin_nil | refine hin_cons (by rfl) ?_))) (fun _ h => by cases h) (by rfl) (fun x hp' hx => ?_); obtain ⟨rfl, rfl⟩ := hx <;> simp only [go_sem, Nat.reduceAdd, Nat.reduceMul, reduceIte, Nat.reduceEqDiff, Nat.reduceLeDiff, Int.reduceToNat, Int.reducePow, Int.reduceBEq, Int.reduceBNe, Int.reduceLT, Int.reduceLE, decide_true, decide_false, Nat.reduceBEq, Bool.or_self, Bool.or_true, Bool.true_or, Bool.or_false, Bool.false_or, Bool.and_true, Bool.true_and, Bool.and_false, Bool.false_and, Bool.and_self, Bool.not_true, Bool.not_false, List.cons_append, List.nil_append, List.append_nil, if_true, if_false, Bool.false_eq_true, keysH])))) | (refine gE ?_; refine exN ?_) | (refine gG ?_; refine guardS (fun hc => ?_) (fun hc => ?_) <;> (try (first | contradiction | (exfalso; omega)))) | (refine gQ ?_; (first | (refine condT ?_) | (refine condF ?_))) | (refine gW ?_; refine wopsS ?_) | (refine aw_block ?_) | (refine gX ?_; refine exitS ?_) | (refine gT ?_; refine retS ?_) | (refine gS ?_; refine skipS ?_) | (apply_assumption (exfalso := false) (symm := false))))
            have hok := hu.done (fun k hk k0 he => hle_trans hb2 (hsm k hk k0 he))
            (refine hfin_eq (Le.refl _) (rv_one (rv1_tmp (by rfl))) (by (repeat refine hsub_has (by rfl) ?_); exact hsub_nil _) (by rfl) (by first | rfl | (simp only [go_sem, Nat.reduceAdd, Nat.reduceMul, reduceIte, Nat.reduceEqDiff, Nat.reduceLeDiff, Int.reduceToNat, Int.reducePow, Int.reduceBEq, Int.reduceBNe, Int.reduceLT, Int.reduceLE, decide_true, decide_false, Nat.reduceBEq, Bool.or_self, Bool.or_true, Bool.true_or, Bool.or_false, Bool.false_or, Bool.and_true, Bool.true_and, Bool.and_false, Bool.false_and, Bool.and_self, Bool.not_true, Bool.not_false, List.cons_append, List.nil_append, List.append_nil, if_true, if_false, Bool.false_eq_true, keysH]; done)) ⟨_, l1, rfl, hp, hok, ht, rfl⟩)
          · rw [hb2] at hle2
            (repeat' (first | (refine hK _ ?_; clear hK K) | (refine aw_seq (fun K hK => ?_)) | (refine gR ?_; refine regS ?_) | (refine stk_op (fun K hK => ?_); (first | ((refine aop_invokeH (by rfl) (hle) (by (repeat (first | exact hin_nil | refine hin_cons (by rfl) ?_))) (fun _ h => by cases h) (by rfl) (fun x hp' hx => ?_); obtain ⟨rfl, rfl⟩ := hx <;> simp only [go_sem, Nat.reduceAdd, Nat.reduceMul, reduceIte, Nat.reduceEqDiff, Nat.reduceLeDiff, Int.reduceToNat, Int.reducePow, Int.reduceBEq, Int.reduceBNe, Int.reduceLT, Int.reduceLE, decide_true, decide_false, Nat.reduceBEq, Bool.or_self, Bool.or_true, Bool.true_or, Bool.or_false, Bool.false_or, Bool.and_true, Bool.true_and, Bool.and_false, Bool.false_and, Bool.and_self, Bool.not_true, Bool.not_false, List.cons_append, List.nil_append, List.append_nil, if_true, if_false, Bool.false_eq_true, keysH])) | ((refine aop_invokeH (by rfl) (hle2) (by (repeat (first | exact hin_nil | refine hin_cons (by rfl) ?_))) (fun _ h => by cases h) (by rfl) (fun x hp' hx => ?_); obtain ⟨rfl, rfl⟩ := hx <;> simp only [go_sem, Nat.reduceAdd, Nat.reduceMul, reduceIte, Nat.reduceEqDiff, Nat.reduceLeDiff, Int.reduceToNat, Int.reducePow, Int.reduceBEq, Int.reduceBNe, Int.reduceLT, Int.reduceLE, decide_true, decide_false, Nat.reduceBEq, Bool.or_self, Bool.or_true, Bool.true_or, Bool.or_false, Bool.false_or, Bool.and_true, Bool.true_and, Bool.and_false, Bool.false_and, Bool.and_self, Bool.not_true, Bool.not_false, List.cons_append, List.nil_append, List.append_nil, if_true, if_false, Bool.false_eq_true, keysH])) | ((refine aop_invokeH (by rfl) (hsw) (by (repeat (first | exact hin_nil | refine hin_cons (by rfl) ?_))) (fun _ h => by cases h) (by rfl) (fun x hp' hx => ?_); obtain ⟨rfl, rfl⟩ := hx <;> simp only [go_sem, Nat.reduceAdd, Nat.reduceMul, reduceIte, Nat.reduceEqDiff, Nat.reduceLeDiff, Int.reduceToNat, Int.reducePow, Int.reduceBEq, Int.reduceBNe, Int.reduceLT, Int.reduceLE, decide_true, decide_false, Nat.reduceBEq, Bool.or_self, Bool.or_true, Bool.true_or, Bool.or_false, Bool.false_or, Bool.and_true, Bool.true_and, Bool.and_false, Bool.false_and, Bool.and_self, Bool.not_true, Bool.not_false, List.cons_append, List.nil_append, List.append_nil, if_true, if_false, Bool.false_eq_true, keysH])))) | (refine gE ?_; refine exN ?_) | (refine gG ?_; refine guardS (fun hc => ?_) (fun hc => ?_) <;> (try (first | contradiction | (exfalso; omega)))) | (refine gQ ?_; (first | (refine condT ?_) | (refine condF ?_))) | (refine gW ?_; refine wopsS ?_) | (refine aw_block ?_) | (refine gS ?_; refine skipS ?_)))
            refine ⟨(swapL l1 i (2 * i + 2), 2 * i + 2), ⟨by simp only; omega, (swapL_perm (by omega) (by omega)).trans hp, hu.step (by omega) (by omega) (by omega) (by omega) hsm hb2, fun k hk => by simp only; rw [swapL_get (by omega) (by omega), if_neg (by omega), if_neg (by omega)]; exact ht k hk⟩, by simp only; omega, ?_⟩
            (refine atS ?_)
            (exact weakS)
      · have hsm : ∀ k, k < n → 0 < k → (k - 1) / 2 = i → hLt (costN N) l1[k]! l1[2 * i + 1]! = false := fun k _ _ _ => by
          obtain rfl : k = 2 * i + 1 := by omega
          exact hle_refl
        have hle2 := less_at l1 N f f2 (i := 2 * i + 1) (j := i) (x := 2 * (i : Int) + 1) (y := (i : Int)) (by omega) (by omega) hr1 (by omega) rfl
        have hsw := swap_at l1 N f f2 (i := i) (j := 2 * i + 1) (x := (i : Int)) (y := 2 * (i : Int) + 1) (by omega) (by omega) rfl (by omega)
        cases hb2 : hLt (costN N) l1[2 * i + 1]! l1[i]!
        · rw [hb2] at hle2
          (repeat' (first | (refine hK _ ?_; clear hK K) | (refine aw_seq (fun K hK => ?_)) | (refine gR ?_; refine regS ?_) | (refine stk_op (fun K hK => ?_); (refine aop_invokeH (by rfl) (hle2) (by (repeat (first | exact hin_nil | refine hin_cons (by rfl) ?_))) (fun _ h => by cases h) (by rfl) (fun x hp' hx => ?_); obtain ⟨rfl, rfl⟩ := hx <;> simp only [go_sem, Nat.reduceAdd, Nat.reduceMul, reduceIte, Nat.reduceEqDiff, Nat.reduceLeDiff, Int.reduceToNat, Int.reducePow, Int.reduceBEq, Int.reduceBNe, Int.reduceLT, Int.reduceLE, decide_true, decide_false, Nat.reduceBEq, Bool.or_self, Bool.or_true, Bool.true_or, Bool.or_false, Bool.false_or, Bool.and_true, Bool.true_and, Bool.and_false, Bool.false_and, Bool.and_self, Bool.not_true, Bool.not_false, List.cons_append, List.nil_append, List.append_nil, if_true, if_false, Bool.false_eq_true, keysH])) | (refine gE ?_; refine exN ?_) | (refine gG ?_; refine guardS (fun hc => ?_) (fun hc => ?_) <;> (try (first | contradiction | (exfalso; omega)))) | (refine gQ ?_; (first | (refine condT ?_) | (refine condF ?_))) | (refine gW ?_; refine wopsS ?_) | (refine aw_block ?_) | (refine gX ?_; refine exitS ?_) | (refine gT ?_; refine retS ?_) | (refine gS ?_; refine skipS ?_) | (apply_assumption (exfalso := false) (symm := false))))
          have hok := hu.done (fun k hk k0 he => hle_trans hb2 (hsm k hk k0 he))
          (refine hfin_eq (Le.refl _) (rv_one (rv1_tmp (by rfl))) (by (repeat refine hsub_has (by rfl) ?_); exact hsub_nil _) (by rfl) (by first | rfl | (simp only [go_sem, Nat.reduceAdd, Nat.reduceMul, reduceIte, Nat.reduceEqDiff, Nat.reduceLeDiff, Int.reduceToNat, Int.reducePow, Int.reduceBEq, Int.reduceBNe, Int.reduceLT, Int.reduceLE, decide_true, decide_false, Nat.reduceBEq, Bool.or_self, Bool.or_true, Bool.true_or, Bool.or_false, Bool.false_or, Bool.and_true, Bool.true_and, Bool.and_false, Bool.false_and, Bool.and_self, Bool.not_true, Bool.not_false, List.cons_append, List.nil_append, List.append_nil, if_true, if_false, Bool.false_eq_true, keysH]; done)) ⟨_, l1, rfl, hp, hok, ht, rfl⟩)
        · rw [hb2] at hle2
          (repeat' (first | (refine hK _ ?_; clear hK K) | (refine aw_seq (fun K hK => ?_)) | (refine gR ?_; refine regS ?_) | (refine stk_op (fun K hK => ?_); (first | ((refine aop_invokeH (by rfl) (hle2) (by (repeat (first | exact hin_nil | refine hin_cons (by rfl) ?_))) (fun _ h => by cases h) (by rfl) (fun x hp' hx => ?_); obtain ⟨rfl, rfl⟩ := hx <;> simp only [go_sem, Nat.reduceAdd, Nat.reduceMul, reduceIte, Nat.reduceEqDiff, Nat.reduceLeDiff, Int.reduceToNat, Int.reducePow, Int.reduceBEq, Int.reduceBNe, Int.reduceLT, Int.reduceLE, decide_true, decide_false, Nat.reduceBEq, Bool.or_self, Bool.or_true, Bool.true_or, Bool.or_false, Bool.false_or, Bool.and_true, Bool.true_and, Bool.and_false, Bool.false_and, Bool.and_self, Bool.not_true, Bool.not_false, List.cons_append, List.nil_append, List.append_nil, if_true, if_false, Bool.false_eq_true, keysH])) | ((refine aop_invokeH (by rfl) (hsw) (by (repeat (first | exact hin_nil | refine hin_cons (by rfl) ?_))) (fun _ h => by cases h) (by rfl) (fun x hp' hx => ?_); obtain ⟨rfl, rfl⟩ := hx <;> simp only [go_sem, Nat.reduceAdd, Nat.reduceMul, reduceIte, Nat.reduceEqDiff, Nat.reduceLeDiff, Int.reduceToNat, Int.reducePow, Int.reduceBEq, Int.reduceBNe, Int.reduceLT, Int.reduceLE, decide_true, decide_false, Nat.reduceBEq, Bool.or_self, Bool.or_true, Bool.true_or, Bool.or_false, Bool.false_or, Bool.and_true, Bool.true_and, Bool.and_false, Bool.false_and, Bool.and_self, Bool.not_true, Bool.not_false, List.cons_append, List.nil_append, List.append_nil, if_true, if_false, Bool.false_eq_true, keysH])))) | (refine gE ?_; refine exN ?_) | (refine gG ?_; refine guardS (fun hc => ?_) (fun hc => ?_) <;> (try (first | contradiction | (exfalso; omega)))) | (refine gQ ?_; refine condF ?_) | (refine gW ?_; refine wopsS ?_) | (refine aw_block ?_) | (refine gS ?_; refine skipS ?_)))
          refine ⟨(swapL l1 i (2 * i + 1), 2 * i + 1), ⟨by simp only; omega, (swapL_perm (by omega) (by omega)).trans hp, hu.step (by omega) (by omega) (by omega) (by omega) hsm hb2, fun k hk => by simp only; rw [swapL_get (by omega) (by omega), if_neg (by omega), if_neg (by omega)]; exact ht k hk⟩, by simp only; omega, ?_⟩
          (refine atS ?_)
          (exact weakS)
    · (repeat' (first | (refine hK _ ?_; clear hK K) | (refine aw_seq (fun K hK => ?_)) | (refine gR ?_; refine regS ?_) | (refine gE ?_; refine exN ?_) | (refine gG ?_; refine guardS (fun hc => ?_) (fun hc => ?_) <;> (try (first | contradiction | (exfalso; omega)))) | (refine gQ ?_; refine condT ?_) | (refine aw_block ?_) | (refine gX ?_; refine exitS ?_) | (refine gT ?_; refine retS ?_) | (apply_assumption (exfalso := false) (symm := false))))
      have hok := hu.done (fun k hk k0 he => absurd hk (by omega))
      (refine hfin_eq (Le.refl _) (rv_one (rv1_tmp (by rfl))) (by (repeat refine hsub_has (by rfl) ?_); exact hsub_nil _) (by rfl) (by first | rfl | (simp only [go_sem, Nat.reduceAdd, Nat.reduceMul, reduceIte, Nat.reduceEqDiff, Nat.reduceLeDiff, Int.reduceToNat, Int.reducePow, Int.reduceBEq, Int.reduceBNe, Int.reduceLT, Int.reduceLE, decide_true, decide_false, Nat.reduceBEq, Bool.or_self, Bool.or_true, Bool.true_or, Bool.or_false, Bool.false_or, Bool.and_true, Bool.true_and, Bool.and_false, Bool.false_and, Bool.and_self, Bool.not_true, Bool.not_false, List.cons_append, List.nil_append, List.append_nil, if_true, if_false, Bool.false_eq_true, keysH]; done)) ⟨_, l1, rfl, hp, hok, ht, rfl⟩)
theorem down_at (l : List Int) (N : List Nd) (f f2 : Bool) (n : Nat) {y : Int} (hy : y = n) (hn : n ≤ l.length) (hl : l.length ≤ 1000000) (hr : Ref l N.length) (hu : DownI (costN N) l 0 n) : HCall Try.prog 76 [.fn 1000000084 [.ptr 19 0], .int 0, .int y] (hpB l N true f f2) [] [19, 4] (fun r hp => ∃ b l', r = .bool b ∧ l'.Perm l ∧ HeapOk (costN N) l' n ∧ (∀ k, n ≤ k → l'[k]! = l[k]!) ∧ hp = hpB l' N true f f2) := by
  subst hy
  exact down_hc l N f f2 n hn hl hr hu
theorem up_at (l : List Int) (N : List Nd) (f f2 : Bool) (j : Nat) {y : Int} (hy : y = j) (hj : j < l.length) (hl : l.length ≤ 1000000) (hr : Ref l N.length) (hu : UpI (costN N) l j l.length) : HCall Try.prog 78 [.fn 1000000084 [.ptr 19 0], .int y] (hpB l N true f f2) [] [19, 4] (fun r hp => r = .tup [] ∧ ∃ l', l'.Perm l ∧ HeapOk (costN N) l' l'.length ∧ hp = hpB l' N true f f2) := by
  subst hy
  exact up_hc l N f f2 j hj hl hr hu
theorem popH_hc (l : List Int) (N : List Nd) (f f2 : Bool) (h0 : 0 < l.length) (hl : l.length ≤ 1000000) (hr : Ref l N.length) (hh : HeapOk (costN N) l l.length) : HCall Try.prog 64 [.fn 1000000084 [.ptr 19 0]] (hpB l N true f f2) [] [19, 4]
    (fun r hp => ∃ x l', r = .fn (1000000000 + 3) [.int x] ∧ (x :: l').Perm l ∧ HeapOk (costN N) l' l'.length ∧ (∀ y ∈ l, hLt (costN N) y x = false) ∧ hp = hpB l' N true false f2) := by
  have hle := len_hc l N f f2
  have hsw := swap_at l N f f2 (i := 0) (j := l.length - 1) (x := 0) (y := (l.length : Int) - 1) h0 (by omega) rfl (by omega)
  have hsp := swapL_perm (l := l) (i := 0) (j := l.length - 1) h0 (by omega)
  have hdn := down_at (swapL l 0 (l.length - 1)) N f f2 (l.length - 1) (y := (l.length : Int) - 1) (by omega) (by rw [swapL_len]; omega) (by rw [swapL_len]; omega) (fun x hx => hr x (hsp.mem_iff.1 hx)) (DownI.start hh h0)
  (refine enterH Try.func64 Try.ntmps64 ?_)
  (repeat' (first | (refine hK _ ?_; clear hK K) | (refine aw_seq (fun K hK => ?_)) | (refine gRx 4 (by rfl) ?_; refine regS ?_) | (refine stk_op (fun K hK => ?_); (first | ((refine aop_invokeH (by rfl) (hle) (by (repeat (first | exact hin_nil | refine hin_cons (by rfl) ?_))) (fun _ h => by cases h) (by rfl) (fun x hp' hx => ?_); obtain ⟨rfl, rfl⟩ := hx <;> simp only [go_sem, Nat.reduceAdd, Nat.reduceMul, reduceIte, Nat.reduceEqDiff, Nat.reduceLeDiff, Int.reduceToNat, Int.reducePow, Int.reduceBEq, Int.reduceBNe, Int.reduceLT, Int.reduceLE, decide_true, decide_false, Nat.reduceBEq, Bool.or_self, Bool.or_true, Bool.true_or, Bool.or_false, Bool.false_or, Bool.and_true, Bool.true_and, Bool.and_false, Bool.false_and, Bool.and_self, Bool.not_true, Bool.not_false, List.cons_append, List.nil_append, List.append_nil, if_true, if_false, Bool.false_eq_true, keysH])) | ((refine aop_invokeH (by rfl) (hsw) (by (repeat (first | exact hin_nil | refine hin_cons (by rfl) ?_))) (fun _ h => by cases h) (by rfl) (fun x hp' hx => ?_); obtain ⟨rfl, rfl⟩ := hx <;> simp only [go_sem, Nat.reduceAdd, Nat.reduceMul, reduceIte, Nat.reduceEqDiff, Nat.reduceLeDiff, Int.reduceToNat, Int.reducePow, Int.reduceBEq, Int.reduceBNe, Int.reduceLT, Int.reduceLE, decide_true, decide_false, Nat.reduceBEq, Bool.or_self, Bool.or_true, Bool.true_or, Bool.or_false, Bool.false_or, Bool.and_true, Bool.true_and, Bool.and_false, Bool.false_and, Bool.and_self, Bool.not_true, Bool.not_false, List.cons_append, List.nil_append, List.append_nil, if_true, if_false, Bool.false_eq_true, keysH])) | ((refine aop_callH (hdn) (by (repeat (first | exact hin_nil | refine hin_cons (by rfl) ?_))) (fun _ h => by cases h) (by rfl) (fun x hp' hx => ?_); obtain ⟨b, l3, rfl, hp3, hok, ht, rfl⟩ := hx <;> simp only [go_sem, Nat.reduceAdd, Nat.reduceMul, reduceIte, Nat.reduceEqDiff, Nat.reduceLeDiff, Int.reduceToNat, Int.reducePow, Int.reduceBEq, Int.reduceBNe, Int.reduceLT, Int.reduceLE, decide_true, decide_false, Nat.reduceBEq, Bool.or_self, Bool.or_true, Bool.true_or, Bool.or_false, Bool.false_or, Bool.and_true, Bool.true_and, Bool.and_false, Bool.false_and, Bool.and_self, Bool.not_true, Bool.not_false, List.cons_append, List.nil_append, List.append_nil, if_true, if_false, Bool.false_eq_true, keysH])))) | (refine gE ?_; refine exN ?_) | (refine gW ?_; refine wopsS ?_)))
  have hl3 : l3.length = l.length := by rw [hp3.length_eq, swapL_len]
  have hpp := pop1_hc l3 N f f2 (by omega) (by omega)
  have hx : l3[l3.length - 1]'(by omega) = l[0]! := by
    have := ht (l.length - 1) (Nat.le_refl _)
    rw [swapL_get h0 (by omega), if_pos rfl, getElem!_pos l3 (l.length - 1) (by omega)] at this
    rw [← this]
    simp only [hl3]
  have hpm : (l3[l3.length - 1]'(by omega) :: l3.take (l3.length - 1)).Perm l := by
    have e : l3.take (l3.length - 1) ++ [l3[l3.length - 1]'(by omega)] = l3 := by
      rw [← List.take_succ_eq_append_getElem (by omega), show l3.length - 1 + 1 = l3.length by omega, List.take_length]
    have := (List.perm_append_singleton (l3[l3.length - 1]'(by omega)) (l3.take (l3.length - 1))).symm
    rw [e] at this
    exact this.trans (hp3.trans hsp)
  have hok2 : HeapOk (costN N) (l3.take (l3.length - 1)) (l3.take (l3.length - 1)).length := by
    have hg : ∀ i, i < l3.length - 1 → (l3.take (l3.length - 1))[i]! = l3[i]! := fun i hi => by
      rw [getElem!_pos _ i (by simp; omega), getElem!_pos l3 i (by omega), List.getElem_take]
    intro i hi i0
    rw [List.length_take] at hi
    rw [hg i (by omega), hg _ (by omega)]
    exact hok i (by omega) i0
  have hmn : ∀ y ∈ l, hLt (costN N) y (l3[l3.length - 1]'(by omega)) = false := fun y hy => by
    obtain ⟨i, hi, rfl⟩ := List.getElem_of_mem hy
    rw [hx]
    have := hh.root i hi
    rwa [getElem!_pos l i hi] at this
  generalize l3[l3.length - 1]'(by omega) = x at *
  generalize l3.take (l3.length - 1) = l4 at *
  (repeat' (first | (refine hK _ ?_; clear hK K) | (refine gR ?_; refine regS ?_) | (refine stk_op (fun K hK => ?_); (refine aop_invokeH (by rfl) (hpp) (by (repeat (first | exact hin_nil | refine hin_cons (by rfl) ?_))) (fun _ h => by cases h) (by rfl) (fun x hp' hx => ?_); obtain ⟨rfl, rfl⟩ := hx <;> simp only [go_sem, Nat.reduceAdd, Nat.reduceMul, reduceIte, Nat.reduceEqDiff, Nat.reduceLeDiff, Int.reduceToNat, Int.reducePow, Int.reduceBEq, Int.reduceBNe, Int.reduceLT, Int.reduceLE, decide_true, decide_false, Nat.reduceBEq, Bool.or_self, Bool.or_true, Bool.true_or, Bool.or_false, Bool.false_or, Bool.and_true, Bool.true_and, Bool.and_false, Bool.false_and, Bool.and_self, Bool.not_true, Bool.not_false, List.cons_append, List.nil_append, List.append_nil, if_true, if_false, Bool.false_eq_true, keysH])) | (refine gW ?_; refine wopsS ?_) | (refine gT ?_; refine retS ?_)))
  (refine hfin_eq (Le.refl _) (rv_one (rv1_tmp (by rfl))) (by (repeat refine hsub_has (by rfl) ?_); exact hsub_nil _) (by rfl) (by first | rfl | (simp only [go_sem, Nat.reduceAdd, Nat.reduceMul, reduceIte, Nat.reduceEqDiff, Nat.reduceLeDiff, Int.reduceToNat, Int.reducePow, Int.reduceBEq, Int.reduceBNe, Int.reduceLT, Int.reduceLE, decide_true, decide_false, Nat.reduceBEq, Bool.or_self, Bool.or_true, Bool.true_or, Bool.or_false, Bool.false_or, Bool.and_true, Bool.true_and, Bool.and_false, Bool.false_and, Bool.and_self, Bool.not_true, Bool.not_false, List.cons_append, List.nil_append, List.append_nil, if_true, if_false, Bool.false_eq_true, keysH]; done)) ⟨x, l4, rfl, hpm, hok2, hmn, rfl⟩)
theorem pushH_hc (l : List Int) (N : List Nd) (f2 : Bool) (x : Int) (hl : l.length ≤ 1000000) (hl2 : l.length + 1 ≤ 1000000) (hr : Ref (l ++ [x]) N.length) (hh : HeapOk (costN N) l l.length) : HCall Try.prog 67 [.fn 1000000084 [.ptr 19 0], .fn (1000000000 + 3) [.int x]] (hpB l N true false f2) [] [19, 4]
    (fun r hp => r = .tup [] ∧ ∃ l', l'.Perm (l ++ [x]) ∧ HeapOk (costN N) l' l'.length ∧ hp = hpB l' N true false f2) := by
  have hpu := push1_hc l N f2 x hl
  have hup0 := UpI.push hh x
  have hLl : (l ++ [x]).length = l.length + 1 := by simp
  generalize l ++ [x] = L at *
  have hle := len_hc L N false f2
  have hup := up_at L N false f2 l.length (y := (L.length : Int) - 1) (by omega) (by omega) (by omega) hr hup0
  (refine enterH Try.func67 Try.ntmps67 ?_)
  (repeat' (first | (refine hK _ ?_; clear hK K) | (refine aw_seq (fun K hK => ?_)) | (refine gR ?_; refine regS ?_) | (refine stk_op (fun K hK => ?_); (first | ((refine aop_invokeH (by rfl) (hpu) (by (repeat (first | exact hin_nil | refine hin_cons (by rfl) ?_))) (fun _ h => by cases h) (by rfl) (fun x hp' hx => ?_); obtain ⟨rfl, rfl⟩ := hx <;> simp only [go_sem, Nat.reduceAdd, Nat.reduceMul, reduceIte, Nat.reduceEqDiff, Nat.reduceLeDiff, Int.reduceToNat, Int.reducePow, Int.reduceBEq, Int.reduceBNe, Int.reduceLT, Int.reduceLE, decide_true, decide_false, Nat.reduceBEq, Bool.or_self, Bool.or_true, Bool.true_or, Bool.or_false, Bool.false_or, Bool.and_true, Bool.true_and, Bool.and_false, Bool.false_and, Bool.and_self, Bool.not_true, Bool.not_false, List.cons_append, List.nil_append, List.append_nil, if_true, if_false, Bool.false_eq_true, keysH])) | ((refine aop_invokeH (by rfl) (hle) (by (repeat (first | exact hin_nil | refine hin_cons (by rfl) ?_))) (fun _ h => by cases h) (by rfl) (fun x hp' hx => ?_); obtain ⟨rfl, rfl⟩ := hx <;> simp only [go_sem, Nat.reduceAdd, Nat.reduceMul, reduceIte, Nat.reduceEqDiff, Nat.reduceLeDiff, Int.reduceToNat, Int.reducePow, Int.reduceBEq, Int.reduceBNe, Int.reduceLT, Int.reduceLE, decide_true, decide_false, Nat.reduceBEq, Bool.or_self, Bool.or_true, Bool.true_or, Bool.or_false, Bool.false_or, Bool.and_true, Bool.true_and, Bool.and_false, Bool.false_and, Bool.and_self, Bool.not_true, Bool.not_false, List.cons_append, List.nil_append, List.append_nil, if_true, if_false, Bool.false_eq_true, keysH])) | ((refine aop_callH (hup) (by (repeat (first | exact hin_nil | refine hin_cons (by rfl) ?_))) (fun _ h => by cases h) (by rfl) (fun x hp' hx => ?_); obtain ⟨rfl, l5, hp5, hok, rfl⟩ := hx <;> simp only [go_sem, Nat.reduceAdd, Nat.reduceMul, reduceIte, Nat.reduceEqDiff, Nat.reduceLeDiff, Int.reduceToNat, Int.reducePow, Int.reduceBEq, Int.reduceBNe, Int.reduceLT, Int.reduceLE, decide_true, decide_false, Nat.reduceBEq, Bool.or_self, Bool.or_true, Bool.true_or, Bool.or_false, Bool.false_or, Bool.and_true, Bool.true_and, Bool.and_false, Bool.false_and, Bool.and_self, Bool.not_true, Bool.not_false, List.cons_append, List.nil_append, List.append_nil, if_true, if_false, Bool.false_eq_true, keysH])))) | (refine gE ?_; refine exN ?_) | (refine gW ?_; refine wopsS ?_)))
  (refine hfin_eq (Le.refl _) rv_zero (by (repeat refine hsub_has (by rfl) ?_); exact hsub_nil _) (by rfl) (by first | rfl | (simp only [go_sem, Nat.reduceAdd, Nat.reduceMul, reduceIte, Nat.reduceEqDiff, Nat.reduceLeDiff, Int.reduceToNat, Int.reducePow, Int.reduceBEq, Int.reduceBNe, Int.reduceLT, Int.reduceLE, decide_true, decide_false, Nat.reduceBEq, Bool.or_self, Bool.or_true, Bool.true_or, Bool.or_false, Bool.false_or, Bool.and_true, Bool.true_and, Bool.and_false, Bool.false_and, Bool.and_self, Bool.not_true, Bool.not_false, List.cons_append, List.nil_append, List.append_nil, if_true, if_false, Bool.false_eq_true, keysH]; done)) ⟨rfl, l5, hp5, hok, rfl⟩)
end Go.Proofs.Ythdlckclpmfidaa
