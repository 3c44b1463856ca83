/- The abstract layer, seventh half: a range over a function. -/
import Derived.RangeFuncIn
import Derived.RangeFuncRecord
import Derived.Test.YthdlckclpmfidaaAbh
set_option linter.unusedSimpArgs false
set_option linter.unusedVariables false
set_option linter.unusedSimpArgs false
set_option linter.unusedVariables false
set_option maxRecDepth 10000
namespace Go.Ab
open Go.RowKit
variable {P : Program}
/-! ### A range over a function -/
theorem heap_lt2 {w : World} {b : Nat} {o : Obj} (h : w.heap[b]? = some o) : b < w.heap.size := (Array.getElem?_eq_some_iff.1 h).1
/-- What a callee, or a round, leaves behind, taken back into the activation that waited. -/
theorem merge_back {R : Rg} {G : Seal} {w : World} {ds : List Deferred} (hd : DefOk R.w0.heap.size G ds) (hgs : ∀ b o, G b = some o → w.heap[b]? = some o) (hkeep : Keeps R w) (hdom : ∀ b, G b ≠ none → R.g0 b ≠ none ∨ R.w0.heap.size ≤ b ∨ R.ex b)
    {ex' : Nat → Prop} (hx1 : ∀ b, ex' b → R.w0.heap.size ≤ b ∨ R.ex b) (hx2 : ∀ b, ex' b → G b = none ∨ ∃ z, G b = some z ∧ soft z = true)
    {β' : Ids} {G' : Seal} {hp' : Hp} {w' : World} {out' : Nat → Option (List Value)} {lp' : Nat → Option (Nat × Nat × YInfo)} (hrh : RepH ⟨w, ex', G, out', lp'⟩ β' G' hp' w')
    (hgh : ∀ id bk o, hget hp' id = some bk → β' id = .gh o → GhB ⟨w, ex', G, out', lp'⟩ β' G' id bk.T bk.full bk.cs o → GhB R β' G' id bk.T bk.full bk.cs o) :
    ∃ G3, DefOk R.w0.heap.size G3 ds ∧ (∀ b o, G' b = some o → G3 b = some o) ∧ RepH R β' G3 hp' w' := by
  have hk := hrh.keeps
  have hsame : ∀ b, b < w.heap.size → ¬ ex' b → w'.heap[b]? = w.heap[b]? := fun b h1 h2 => hk.block b h1 h2
  have hgs' : ∀ b o, G b = some o → ¬ ex' b → w'.heap[b]? = some o := fun b o hg hn => by
    rw [hsame b (heap_lt2 (hgs b o hg)) hn]; exact hgs b o hg
  let G3 : Seal := fun b => @ite _ (ex' b) (Classical.propDecidable _) (G' b) (match G b with | some o => some o | none => G' b)
  have g3r : ∀ b, ex' b → G3 b = G' b := fun b hb => by simp only [G3, hb, if_true]
  have g3n : ∀ b, ¬ ex' b → G3 b = match G b with | some o => some o | none => G' b := fun b hb => by simp only [G3, hb, if_false]
  have m2 : ∀ b o, G' b = some o → G3 b = some o := fun b o hb => by
    by_cases hr : ex' b
    · rw [g3r b hr]; exact hb
    · cases hg : G b with
      | none => rw [g3n b hr, hg]; exact hb
      | some o' =>
        have e1 := hgs' b o' hg hr
        have e2 := hrh.gs b o hb
        rw [e1] at e2; injection e2 with e2; subst e2
        rw [g3n b hr, hg]
  refine ⟨G3, ?_, m2, ⟨fun b o hb => ?_, fun i bk hi => ?_, hrh.inj, ?_, fun b hb => ?_, hrh.idr⟩⟩
  · obtain ⟨Ds, d1, d2, d3⟩ := hd
    refine ⟨Ds, d1, d2, fun D hD => ⟨(d3 D hD).1, ?_⟩⟩
    have hG := (d3 D hD).2
    have hn : ¬ ex' D := fun hx => by
      rcases hx2 D hx with h | ⟨z, h, hs⟩
      · rw [hG] at h; cases h
      · rw [hG] at h; injection h with h; subst h; cases hs
    rw [g3n D hn, hG]
  · by_cases hr : ex' b
    · rw [g3r b hr] at hb; exact hrh.gs b o hb
    · rw [g3n b hr] at hb
      split at hb
      · rename_i o' hg; injection hb with hb; subst hb; exact hgs' b _ hg hr
      · exact hrh.gs b o hb
  · have := hrh.blk i bk hi
    unfold BlkOk at this ⊢
    cases hβ : β' i with
    | no => rw [hβ] at this; exact this
    | nil => rw [hβ] at this; exact this
    | gh o =>
      rw [hβ] at this
      exact gh_same (hgh i bk o hi hβ this) m2 fun u _ v hc => hc.mono m2
    | «at» b t =>
      rw [hβ] at this
      obtain ⟨g1, g2, arr, g3, g4, g5, g6, g7⟩ := this
      refine ⟨?_, ?_, arr, g3, g4, g5, g6, fun j x y hx hy => (g7 j x y hx hy).mono m2⟩
      · by_cases hr : ex' b
        · rw [g3r b hr]; exact g1
        · rcases g2 with h2 | h2
          · have hn : G b = none := by
              cases hg : G b with
              | none => rfl
              | some o => have := heap_lt2 (hgs b o hg); simp only at h2; omega
            rw [g3n b hr, hn]; exact g1
          · exact absurd h2 hr
      · rcases g2 with h2 | h2
        · exact .inl (Nat.le_trans hkeep.size h2)
        · exact hx1 b h2
  · refine ⟨hk.os.trans hkeep.os, hk.tape.trans hkeep.tape, hk.output.trans hkeep.output, Nat.le_trans hkeep.size hk.size, fun j h1 h2 => ?_⟩
    rw [hsame j (Nat.lt_of_lt_of_le h1 hkeep.size) (fun hx => by rcases hx1 j hx with h3 | h3; omega; exact h2 h3)]
    exact hkeep.block j h1 h2
  · by_cases hr : ex' b
    · exact .inr (hx1 b hr)
    · rw [g3n b hr] at hb
      cases hg : G b with
      | some o => exact hdom b (by rw [hg]; simp)
      | none =>
        rw [hg] at hb
        rcases hrh.dom b hb with h1 | h1 | h1
        · exact absurd hg h1
        · exact .inr (.inl (Nat.le_trans hkeep.size h1))
        · exact absurd h1 hr
/-! The frame that waits, as a block. -/
theorem push_gh {w0 w : World} {ex : Nat → Prop} {g G : Seal} {out : Nat → Option (List Value)} {lp lp' : Nat → Option (Nat × Nat × YInfo)} {β : Ids} {hp : Hp} (hH : RepH ⟨w0, ex, g, out, lp⟩ β G hp w)
    (gid T : Nat) (o : Option (Nat × YInfo)) (hbig : 1000000000 ≤ gid) (hT : 1000000000 ≤ T) {fr : List AV} {tm : List Value} (hl : fr.length = tm.length) (hc : ∀ (j : Nat) x y, fr[j]? = some x → tm[j]? = some y → Conc G β x y)
    (hm1 : AV.mentL gid fr = false) (hm2 : mentHp gid hp = false) (hlp' : ∀ i, i ≠ gid → lp' i = lp i)
    (hlp : ghLp ⟨w0, ex, g, fun i => if i = gid then some tm else out i, lp'⟩ G gid (T - 1000000000) tm o) :
    RepH ⟨w0, ex, g, fun i => if i = gid then some tm else out i, lp'⟩ (β.set gid (.gh o)) G (hp ++ [(gid, ⟨T, fr, false⟩)]) w := by
  have hgk : hget hp gid = none := by
    cases hq : hget hp gid with
    | none => rfl
    | some bk => rw [mentHp_key hq] at hm2; cases hm2
  have hoth : ∀ i, i ≠ gid → (β.set gid (.gh o)) i = β i := fun i hi => by simp [Ids.set, hi]
  have hc1 : ∀ {i bk}, hget hp i = some bk → ∀ u ∈ bk.cs, ∀ v, Conc G β u v → Conc G (β.set gid (.gh o)) u v := fun {i bk} hi u hu v hcv => by
    obtain ⟨j, hj⟩ := List.getElem?_of_mem hu
    refine hcv.setId ?_ _
    cases hm : AV.ment gid u with
    | false => rfl
    | true => rw [mentHp_cell hi (mentL_mem hj hm)] at hm2; cases hm2
  refine ⟨hH.gs, fun i bk hi => ?_, fun i j b t t' hi hj hbi hbj => ?_, ⟨hH.keeps.os, hH.keeps.tape, hH.keeps.output, hH.keeps.size, hH.keeps.block⟩, hH.dom, fun i hi => ?_⟩
  · rw [hget_append] at hi
    cases hq : hget hp i with
    | some bk' =>
      rw [hq] at hi; simp at hi; subst hi
      have hne : i ≠ gid := fun e => by subst e; rw [hgk] at hq; cases hq
      have := hH.blk i bk' hq
      unfold BlkOk at this ⊢
      rw [hoth i hne]
      cases hβ : β i with
      | no => rw [hβ] at this; exact this
      | nil => rw [hβ] at this; exact this
      | gh o' =>
        rw [hβ] at this
        rcases gh_same this (fun _ _ h => h) fun u hu v hcv => hc1 hq u hu v hcv with ⟨outs, k0, k1, k2, k3⟩ | hm
        · refine .inl ⟨outs, by simp only [hne, if_false]; exact k0, k1, ?_, k3⟩
          cases o' with
          | none => exact k2
          | some p =>
            obtain ⟨q0, qm, D, q1, q2⟩ := k2
            exact ⟨q0, qm, D, by simp only at q1 ⊢; rw [hlp' i hne]; exact q1, q2⟩
        · exact .inr hm
      | «at» b t =>
        rw [hβ] at this
        obtain ⟨g1, g2, arr, g3, g4, g5, g6, g7⟩ := this
        exact ⟨g1, g2, arr, g3, g4, g5, g6, fun j u v hu hv => hc1 hq u (List.mem_of_getElem? hu) v (g7 j u v hu hv)⟩
    | none =>
      rw [hq] at hi
      simp only [hget, Option.none_or] at hi
      split at hi
      · rename_i e; subst e; injection hi with hi; subst hi
        unfold BlkOk
        have : (β.set gid (.gh o)) gid = .gh o := by simp [Ids.set]
        rw [this]
        exact .inl ⟨tm, by simp, ⟨rfl, hT⟩, hlp, hl, fun j u v hu hv => (hc j u v hu hv).setId (mentL_get hm1 hu) _⟩
      · cases hi
  · have n1 : i ≠ gid := fun e => by subst e; simp [Ids.set] at hbi
    have n2 : j ≠ gid := fun e => by subst e; simp [Ids.set] at hbj
    rw [hoth i n1] at hbi
    rw [hoth j n2] at hbj
    have key : ∀ i, i ≠ gid → (hget (hp ++ [(gid, ⟨T, fr, false⟩)]) i).isSome → (hget hp i).isSome := fun i hi his => by
      rw [hget_append] at his
      cases hq : hget hp i with
      | some bk => rfl
      | none => rw [hq] at his; simp [hget, Ne.symm hi] at his
    exact hH.inj i j b t t' (key i n1 hi) (key j n2 hj) hbi hbj
  · by_cases he : i = gid
    · subst he; simp [Ids.set] at hi
    · rw [hoth i he] at hi; exact hH.idr i hi
/-! The loop variables' slots. -/
def setPs : List Tmp → List AV → List AV → List AV
  | p :: ps, v :: vs, fr => setPs ps vs (fr.set p v)
  | _, _, fr => fr
theorem setPs_conc {G : Seal} {β : Ids} : ∀ (ps : List Tmp) (vs : List AV) (ys : List Value) (fr : List AV) (tm : Array Value), vs.length = ys.length → (∀ (j : Nat) x y, vs[j]? = some x → ys[j]? = some y → Conc G β x y) →
    tm.size = fr.length → (∀ (j : Nat) x y, fr[j]? = some x → tm[j]? = some y → Conc G β x y) →
    ((ps.zip ys).foldl (fun t (p : Tmp × Value) => t.setIfInBounds p.1 p.2) tm).size = (setPs ps vs fr).length ∧ ∀ (j : Nat) x y, (setPs ps vs fr)[j]? = some x → ((ps.zip ys).foldl (fun t (p : Tmp × Value) => t.setIfInBounds p.1 p.2) tm)[j]? = some y → Conc G β x y
  | [], vs, ys, fr, tm, _, _, h1, h2 => by
    cases vs <;> exact ⟨by simpa [setPs] using h1, by simpa [setPs] using h2⟩
  | p :: ps, [], [], fr, tm, _, _, h1, h2 => ⟨by simpa [setPs] using h1, by simpa [setPs] using h2⟩
  | p :: ps, v :: vs, y :: ys, fr, tm, hl, hv, h1, h2 => by
    simp only [List.zip_cons_cons, List.foldl_cons, setPs]
    refine setPs_conc ps vs ys (fr.set p v) (tm.setIfInBounds p y) (by simpa using hl) (fun j a b ha hb => hv (j + 1) a b (by simpa using ha) (by simpa using hb)) (by simp [h1]) fun j a b ha hb => ?_
    rw [List.getElem?_set] at ha
    rw [Array.getElem?_setIfInBounds] at hb
    by_cases hj : p = j
    · subst hj
      rw [if_pos rfl] at ha hb
      split at ha
      · split at hb
        · injection ha with ha; injection hb with hb; subst ha; subst hb
          exact hv 0 v y rfl rfl
        · cases hb
      · cases ha
    · rw [if_neg hj] at ha
      rw [if_neg hj] at hb
      exact h2 j a b ha hb
/-! Regions that call yield. -/
def AOpsI (P : Program) (all : Array Oper) (rest : List Oper) (s : St) (K : St → Prop) : Prop := ∀ ro R β G a w, Rep R β G s a w → wpListIn (wideAt ro) 0 P all (QN R K) rest a w
theorem aw_regionI {id : Nat} {l : List Oper} {s : St} {Q : Exit → St → Prop} (h : AOpsI P l.toArray l s (Q .normal)) : AW P (.region id l.toArray false) s Q :=
  fun ro _ R β G a w hr => wpIn_mono (wpIn_region_lit (h ro R β G a w hr)) qn_rx
theorem aopsI_nil {all : Array Oper} {s : St} {K : St → Prop} (h : K s) : AOpsI P all [] s K := fun _ _ β G _ _ hr => ⟨β, G, s, h, hr⟩
theorem aopsI_cons {all : Array Oper} {o : Oper} {rest : List Oper} {s : St} {K : St → Prop} (hg : o.guard = none) (hnd : noDef [o] = true) (h : ∀ K' : St → Prop, (∀ s', AOpsI P all rest s' K → K' s') → AOp P o s K') : AOpsI P all (o :: rest) s K := by
  intro ro R β G a w hr
  have hw : Region.wanted o (yielded all a.tmps) = true := by simp [Region.wanted, hg]
  simp only [wpListIn, hw, if_true]
  have hnd' : ∀ c, o.op ≠ .defer c := noDef_spec hnd 0 o (by simp)
  exact operIn hnd' (fun a' w' ⟨β', G', s', hs, hr'⟩ => hs ro R β' G' a' w' hr') (h _ (fun _ h => h) R β G a w _ hr)
/-- A record is turned to another state. -/
theorem turn_rec {R : Rg} {β : Ids} {G : Seal} {s : St} {a : Act} {w : World} (h : Rep R β G s a w) {gid T1 T2 l D : Nat} {y : YInfo} {fro : List AV} {outs : List Value}
    (hb : hget s.hp gid = some ⟨T1, fro, false⟩) (hTT : 1000000000 < T1) (hβ : β gid = .gh (some (l, y))) (hout : R.out gid = some outs) (hlp : R.lp gid = some (l, D, y)) (hone : recOk [gid] s.hp = true) (hT : 1000000001 ≤ T2) (o' : Obj) (ho : o' = .loop (y.loop (T2 - 1000000001) outs D)) :
    ∃ G2, Rep R β G2 ⟨s.fr, hset s.hp gid ⟨T2, fro, false⟩⟩ a (w.putObj l o') := by
  subst ho
  have h0 := h.hp.blk gid _ hb
  unfold BlkOk at h0
  rw [hβ] at h0
  rcases h0 with ⟨outs', k0, k1, ⟨q0, qm, D', q1, q2, q3, q4, q5, q6⟩, k3, k4⟩ | ⟨_, _, _, _, ⟨_, h9, _⟩, _⟩
  rotate_left
  · simp only at h9; omega
  rw [hout] at k0; injection k0 with k0; subst k0
  rw [hlp] at q1; injection q1 with q1; injection q1 with _ q1; injection q1 with q1 _; subst q1
  have hlw : l < w.heap.size := heap_lt2 (h.hp.gs l _ q5)
  let G2 : Seal := fun b => if b = l then some (.loop (y.loop (T2 - 1000000001) outs D)) else G b
  have g2l : G2 l = some (.loop (y.loop (T2 - 1000000001) outs D)) := by simp [G2]
  have g2n : ∀ b, b ≠ l → G2 b = G b := fun b hb => by simp [G2, hb]
  have hoth : ∀ b, b ≠ l → (w.putObj l (.loop (y.loop (T2 - 1000000001) outs D))).heap[b]? = w.heap[b]? := fun b hb => World.putObj_heap_other hb
  have hcell : ∀ x z, gcell G x = some z → gcell G2 x = some z := fun x z hx => by
    by_cases he : x.block = l
    · unfold gcell at hx; rw [he, q5] at hx; cases hx
    · unfold gcell at hx ⊢; rw [g2n _ he]; exact hx
  have hc : ∀ {x z}, Conc G β x z → Conc G2 β x z := fun hc => hc.extG (fun _ _ => rfl) hcell
  refine ⟨G2, ?_, h.size, fun i x z hx hz => hc (h.fr i x z hx hz), ⟨fun b o hb => ?_, fun i bk hi => ?_, fun i j b t t' hi hj hbi hbj => ?_, ?_, fun b hb => ?_, h.hp.idr⟩⟩
  · obtain ⟨Ds, d1, d2, d3⟩ := h.defers
    refine ⟨Ds, d1, d2, fun X hX => ⟨(d3 X hX).1, ?_⟩⟩
    have hG := (d3 X hX).2
    rw [g2n X (fun e => by rw [e, q5] at hG; cases hG)]
    exact hG
  · by_cases he : b = l
    · subst he; rw [g2l] at hb; injection hb with hb; subst hb; exact World.putObj_heap_same hlw
    · rw [g2n b he] at hb; rw [hoth b he]; exact h.hp.gs b o hb
  · rw [hget_hset] at hi
    split at hi
    · rename_i e; subst e; injection hi with hi; subst hi
      unfold BlkOk
      rw [hβ]
      have hDl : D ≠ l := fun e => by rw [e, q5] at q6; cases q6
      have eT : T2 - 1000000000 - 1 = T2 - 1000000001 := by omega
      have b1 : 1000000000 ≤ T2 := by omega
      have b2 : 1 ≤ T2 - 1000000000 := Nat.le_sub_of_add_le (Nat.le_trans (Nat.le_of_eq (by decide)) hT)
      refine .inl ⟨outs, hout, ⟨rfl, b1⟩, ?_, k3, fun j x z hx hz => hc (k4 j x z hx hz)⟩
      simp only [ghLp]
      rw [eT]
      exact ⟨b2, qm, D, hlp, q2, q3, q4, g2l, by rw [g2n D hDl]; exact q6⟩
    · rename_i hne
      have := h.hp.blk i bk hi
      unfold BlkOk at this ⊢
      cases hβi : β i with
      | no => rw [hβi] at this; exact this
      | nil => rw [hβi] at this; exact this
      | gh o =>
        rw [hβi] at this
        have hT1 : ¬ 1000000000 < bk.T := fun hT => by
          have := recOk_get hone hi hT
          simp at this; exact hne this.symm
        rcases this with ⟨outs2, z0, z1, z2, z3, z4⟩ | ⟨b, es, clock, e0, e1, e2, e3, e4, e5⟩
        · have hno : o = none := by
            cases o with
            | none => rfl
            | some p => exact absurd (Nat.sub_pos_iff_lt.1 z2.1) hT1
          subst hno
          exact .inl ⟨outs2, z0, z1, z2, z3, fun j x z hx hz => hc (z4 j x z hx hz)⟩
        · have hbl : b ≠ l := fun e => by rw [e, q5] at e3; cases e3
          exact .inr ⟨b, es, clock, e0, e1, e2, by rw [g2n b hbl]; exact e3, e4, fun j x z hx hz => hc (e5 j x z hx hz)⟩
      | «at» b t =>
        rw [hβi] at this
        obtain ⟨g1, g2, arr, g3, g4, g5, g6, g7⟩ := this
        have hbl : b ≠ l := fun e => by rw [e, q5] at g1; cases g1
        exact ⟨by rw [g2n b hbl]; exact g1, g2, arr, by rw [hoth b hbl]; exact g3, g4, g5, g6, fun j x z hx hz => hc (g7 j x z hx hz)⟩
  · have key : ∀ i, (hget (hset s.hp gid ⟨T2, fro, false⟩) i).isSome → (hget s.hp i).isSome := fun i hi => by
      rw [hget_hset] at hi
      split at hi
      · rename_i e; subst e; rw [hb]; rfl
      · exact hi
    exact h.hp.inj i j b t t' (key i hi) (key j hj) hbi hbj
  · have hk := h.hp.keeps
    refine ⟨hk.os, hk.tape, hk.output, by have := hk.size; simpa [World.putObj] using this, fun k h1 h2 => ?_⟩
    rw [hoth k (fun e => by subst e; exact h2 q4)]; exact hk.block k h1 h2
  · by_cases he : b = l
    · subst he; exact h.hp.dom b (by rw [q5]; simp)
    · rw [g2n b he] at hb; exact h.hp.dom b hb
/-- What a record's block tells. -/
theorem rec_knownH {R : Rg} {β : Ids} {G : Seal} {hp : Hp} {w : World} (h : RepH R β G hp w) {gid T l D : Nat} {y : YInfo} {fro : List AV} {fl : Bool} {outs : List Value} (hbig : 1000000000 ≤ gid) (hb : hget hp gid = some ⟨T, fro, fl⟩) (hT : 1000000000 < T)
    (hout : R.out gid = some outs) (hlp : R.lp gid = some (l, D, y)) : β gid = .gh (some (l, y)) ∧ w.heap[l]? = some (.loop (y.loop (T - 1000000001) outs D)) ∧ fro.length = outs.length ∧ (∀ (j : Nat) x z, fro[j]? = some x → outs[j]? = some z → Conc G β x z) ∧ w.heap[D]? = some (.deferred (some [])) ∧ G D = some (.deferred (some [])) ∧ G l = some (.loop (y.loop (T - 1000000001) outs D)) := by
  have h0 := h.blk gid _ hb
  unfold BlkOk at h0
  cases hβ : β gid with
  | no => rw [hβ] at h0; exact h0.elim
  | nil => exact absurd (h.idr gid (.inl hβ)) (by omega)
  | «at» b t => exact absurd (h.idr gid (.inr ⟨b, t, hβ⟩)) (by omega)
  | gh o =>
    rw [hβ] at h0
    rcases h0 with ⟨outs', k0, k1, kl, k3, k4⟩ | ⟨_, _, _, _, ⟨_, h9, _⟩, _⟩
    rotate_left
    · simp only at h9; omega
    cases o with
    | none => have : T - 1000000000 = 0 := kl; omega
    | some p =>
      obtain ⟨q0, qm, D', q1, q2, q3, q4, q5, q6⟩ := kl
      rw [hout] at k0; injection k0 with k0; subst k0
      rw [hlp] at q1; injection q1 with q1; injection q1 with e1 q1; injection q1 with e2 e3
      subst e1 e2 e3
      have e : T - 1000000000 - 1 = T - 1000000001 := by omega
      simp only at q5
      rw [e] at q5
      exact ⟨rfl, h.gs _ _ q5, k3, k4, h.gs _ _ q6, q6, q5⟩
theorem rec_known {R : Rg} {β : Ids} {G : Seal} {s : St} {a : Act} {w : World} (h : Rep R β G s a w) {gid T l D : Nat} {y : YInfo} {fro : List AV} {fl : Bool} {outs : List Value} (hbig : 1000000000 ≤ gid) (hb : hget s.hp gid = some ⟨T, fro, fl⟩) (hT : 1000000000 < T)
    (hout : R.out gid = some outs) (hlp : R.lp gid = some (l, D, y)) : β gid = .gh (some (l, y)) ∧ w.heap[l]? = some (.loop (y.loop (T - 1000000001) outs D)) ∧ fro.length = outs.length ∧ (∀ (j : Nat) x z, fro[j]? = some x → outs[j]? = some z → Conc G β x z) ∧ w.heap[D]? = some (.deferred (some [])) ∧ G D = some (.deferred (some [])) ∧ G l = some (.loop (y.loop (T - 1000000001) outs D)) := rec_knownH h.hp hbig hb hT hout hlp
/-- How a round ends. -/
def jumpT : Exit → Option Nat
  | .normal => some 1000000001
  | .ret => some 1000000003
  | .exit id => some (1000000004 + id)
  | _ => none
/-- What is asked at a round's end: the iterator goes on, with yield's answer. -/
def YPost (P : Program) (all : Array Oper) (rest : List Oper) (gid g2 : Nat) (d : Option Tmp) (K : St → Prop) (e : Exit) (s' : St) : Prop :=
  ∃ s2 fro' fr' T, Le s' s2 ∧ hget s2.hp gid = some ⟨1000000002, fro', false⟩ ∧ hget s2.hp g2 = some ⟨1000000000, fr', false⟩ ∧ recOk [gid] s2.hp = true ∧ jumpT e = some T ∧
    AOpsI P all rest ⟨(St.put ⟨fr', []⟩ d (.bool (match e with | .normal => true | _ => false))).fr, hdel (hset s2.hp gid ⟨T, fro', false⟩) g2⟩ K
theorem run_callYield {a : Act} {w : World} {fo : Operand} {args : Array Operand} {tys : Array TypeId} {d : Option Tmp} {ty : TypeId} {pos : String} {aft : Array Edge} {g : Option (Nat × Bool)} {l : Nat} {r : Loop} (hv : a.eval fo = .func (.yield l) #[] #[]) (hl : w.heap[l]? = some (.loop r)) (hs : args.size = r.params.size) :
    (execOp a.eval ⟨d, .call { callee := .value fo, args, argTypes := tys }, ty, pos, aft, g⟩).run P w = .ok (.round l r.fn ((r.params.zip (args.map a.eval)).foldl (fun tmps (t, a) => tmps.setIfInBounds t a) r.tmps) r.assign r.body) w := by
  have h := run_yield (P := P) (args := args.map a.eval) hl (by simpa using hs)
  simp [execOp, resolve, hv, Deferred.ofValue, invoke, h]
theorem aopsI_yield {all : Array Oper} {rest : List Oper} {d : Option Tmp} {fo : Operand} {args : Array Operand} {tys : Array TypeId} {ty : TypeId} {pos : String} {aft : Array Edge} {fr fro : List AV} {hp : Hp} {K : St → Prop} {gid : Nat} {y : YInfo} (g2 : Nat)
    (hf : (⟨fr, hp⟩ : St).eval fo = .yl gid y) (hb : hget hp gid = some ⟨1000000001, fro, false⟩) (hps : args.size = y.ps.size) (ha : noRF y.assign = true) (hbd : noRF y.body = true)
    (hgid : 1000000000 ≤ gid) (hg2 : 1000000000 ≤ g2) (hg2b : g2 < 2000000000) (hne : gid ≠ g2) (hm1 : AV.mentL g2 fr = false) (hm2 : mentHp g2 hp = false) (hm3 : AV.mentL g2 (evalL ⟨fr, hp⟩ args) = false) (hone : recOk [gid] hp = true)
    (h : AW P y.assign ⟨setPs y.ps.toList (evalL ⟨fr, hp⟩ args) fro, hp ++ [(g2, ghBlk fr)]⟩ (XThen (fun s1 => ∃ s2 fro', Le s1 s2 ∧ hget s2.hp gid = some ⟨1000000001, fro', false⟩ ∧ recOk [gid] s2.hp = true ∧
      AW P y.body ⟨s2.fr, hset s2.hp gid ⟨1000000002, fro', false⟩⟩ (YPost P all rest gid g2 d K)) (fun _ _ => False))) :
    AOpsI P all (⟨d, .call { callee := .value fo, args, argTypes := tys }, ty, pos, aft, none⟩ :: rest) ⟨fr, hp⟩ K := by
  intro ro R β G a w hr
  simp only [wpListIn, show Region.wanted (⟨d, .call { callee := .value fo, args, argTypes := tys }, ty, pos, aft, none⟩ : Oper) (yielded all a.tmps) = true from rfl, if_true]
  refine ⟨fun _ _ => trivial, ?_⟩
  rw [show (wideAt ro).round = ro from rfl, Oper.semAt_eq ro _ _ (fun c hc => by cases hc)]
  -- the record
  have e1 := hr.eval fo
  rw [hf] at e1
  generalize hv : a.eval fo = v at e1
  cases e1 with
  | yl hβ =>
  rename_i l
  have h0 := hr.hp.blk gid _ hb
  unfold BlkOk at h0
  rw [hβ] at h0
  rcases h0 with ⟨outs, k0, k1, ⟨q0, qm, D, q1, q2, q3, q4, q5, q6⟩, k3, k4⟩ | ⟨_, _, _, _, ⟨_, h9, _⟩, _⟩
  rotate_left
  · simp only at h9; omega
  have hv : a.eval fo = .func (.yield l) #[] #[] := by rw [hv]; unfold ylVal; rw [if_neg (by simp [qm])]
  simp only at q5 k3 k4
  have hl := hr.hp.gs l _ q5
  rw [run_callYield hv hl (by exact hps)]
  refine ⟨fun h => by simp [wideAt, Fence.wide] at h, roundIn_of_wpIn trivial ?_⟩
  -- the round's state
  have hag := evalL_agg hr args
  have hin : ∀ id bk, hget hp id = some bk → hget hp id = some bk := fun _ _ h => h
  have hlm := lend_many hr.hp hin
  have hpg := push_gh hlm g2 1000000000 none hg2 (Nat.le_refl _) (fr := fr) (tm := a.tmps.toList) (by rw [Array.length_toList]; exact hr.size.symm) (fun j x z hx hz => hr.fr j x z hx (by simpa using hz)) hm1 hm2 (fun _ _ => rfl) (Nat.sub_self _)
  have hcb : ∀ x z, Conc G β x z → AV.ment g2 x = false → Conc G (β.set g2 (.gh none)) x z := fun x z hc hm => hc.setId hm _
  have hlpl : lpCut R gid = some (l, D, y) := by simp [lpCut, q1, q2, q3, q4]
  have hrep : Rep ⟨w, lentS β (keysH hp), G, fun i => if i = g2 then some a.tmps.toList else R.out i, lpCut R⟩ (β.set g2 (.gh none)) G ⟨setPs y.ps.toList (evalL ⟨fr, hp⟩ args) fro, hp ++ [(g2, ⟨1000000000, fr, false⟩)]⟩
      { tmps := (y.ps.zip (args.map a.eval)).foldl (fun tmps (t, a) => tmps.setIfInBounds t a) outs.toArray, defers := [] } w := by
    have hz : (y.ps.zip (args.map a.eval)).foldl (fun tmps (t, a) => tmps.setIfInBounds t a) outs.toArray = (y.ps.toList.zip (args.map a.eval).toList).foldl (fun t (p : Tmp × Value) => t.setIfInBounds p.1 p.2) outs.toArray := by
      rw [← Array.foldl_toList, Array.toList_zip]
    rw [hz]
    obtain ⟨s1, s2⟩ := setPs_conc (G := G) (β := β.set g2 (.gh none)) y.ps.toList (evalL ⟨fr, hp⟩ args) (args.map a.eval).toList fro outs.toArray hag.1 (fun j x z hx hz => hcb x z (hag.2 j x z hx hz) (mentL_get hm3 hx)) (by simpa using k3.symm)
      (fun j x z hx hz => hcb x z (k4 j x z hx (by simpa using hz)) (by
        cases hm : AV.ment g2 x with
        | false => rfl
        | true => rw [mentHp_cell hb (mentL_mem hx hm)] at hm2; cases hm2))
    exact ⟨defOk_nil, s1, s2, hpg⟩
  refine wpIn_mono (h (some l) (.inr ha) _ _ G _ w hrep) fun e a1 w1 hx => ?_
  obtain ⟨β1, G1, s1, hs1, hr1⟩ := hx
  cases e with
  | normal =>
    obtain ⟨s2, fro', hle, hg, hok, hbody⟩ := hs1
    obtain ⟨β2, G2, hr2⟩ := hle _ _ _ _ _ hr1
    have hout : (fun i => if i = g2 then some a.tmps.toList else R.out i) gid = some outs := by simp only [hne, if_false]; exact k0
    obtain ⟨r1, r2, _, _, _, _, _⟩ := rec_known hr2 hgid hg (by decide) hout hlpl
    obtain ⟨G3, hr3⟩ := turn_rec hr2 hg (by decide) r1 hout hlpl hok (T2 := 1000000002) (by decide) _ rfl
    refine ⟨_, run_beginRound r2 rfl, ?_⟩
    refine wpIn_mono (hbody (some l) (.inr hbd) _ _ G3 _ _ hr3) fun e a2 w2 hx => ?_
    obtain ⟨β4, G4, s4, ⟨s5, fro5, fr5, T, hle5, hg5, hg25, hok5, hT, hk⟩, hr4⟩ := hx
    obtain ⟨β5, G5, hr5⟩ := hle5 _ _ _ _ _ hr4
    obtain ⟨t1, t2, _, _, _, _, _⟩ := rec_known hr5 hgid hg5 (by decide) hout hlpl
    -- back in the iterator
    have key : ∀ (jump : Option Code) (b : Bool) (o' : Obj), 1000000001 ≤ T → o' = .loop (y.loop (T - 1000000001) outs D) → AOpsI P all rest ⟨(St.put ⟨fr5, []⟩ d (.bool b)).fr, hdel (hset s5.hp gid ⟨T, fro5, false⟩) g2⟩ K →
        wpListIn (wideAt ro) 0 P all (QN R K) rest (a.put d (.bool b)) (w2.putObj l o') := fun jump b o' hT1 ho hk => by
      obtain ⟨G6, hr6⟩ := turn_rec hr5 hg5 (by decide) t1 hout hlpl hok5 (T2 := T) hT1 o' ho
      have hg26 : hget (hset s5.hp gid ⟨T, fro5, false⟩) g2 = some ⟨1000000000, fr5, false⟩ := by rw [hget_hset, if_neg hne]; exact hg25
      have hb6 := hr6.hp.blk g2 _ hg26
      have hsub : hsub (hset s5.hp gid ⟨T, fro5, false⟩) (hdel (hset s5.hp gid ⟨T, fro5, false⟩) g2) := fun i bk hi => by
        rw [hget_hdel] at hi
        split at hi
        · cases hi
        · exact hi
      obtain ⟨G7, d7, m7, h7⟩ := merge_back (R := R) (G := G) (w := w) hr.defers hr.hp.gs hr.hp.keeps hr.hp.dom (fun b ⟨id, hid, hh⟩ => by
          obtain ⟨bk, hbk⟩ := keysH_mem.1 hid
          rcases hh with ⟨t, ht⟩ | ⟨y', hy'⟩
          · exact (hr.hp.block hbk ht).2.1
          · have hq := hr.hp.blk id bk hbk
            unfold BlkOk at hq
            rw [hy'] at hq
            exact ((gh_rec hq).2.2 b y' rfl).1) (fun b ⟨id, hid, hh⟩ => by
          obtain ⟨bk, hbk⟩ := keysH_mem.1 hid
          rcases hh with ⟨t, ht⟩ | ⟨y', hy'⟩
          · exact .inl (hr.hp.block hbk ht).1
          · have hq := hr.hp.blk id bk hbk
            unfold BlkOk at hq
            rw [hy'] at hq
            exact .inr ((gh_rec hq).2.2 b y' rfl).2.1) (hr6.hp.sub hsub) (fun id bk o hid hβo hgb => by
          have hn2 : id ≠ g2 := fun e => by
            subst e
            rw [hget_hdel, if_pos rfl] at hid; cases hid
          have := gh_back (R := ⟨R.w0, R.ex, R.g0, fun i => if i = g2 then some a.tmps.toList else R.out i, R.lp⟩) (w := w) (ex := lentS β (keysH hp)) (g := G) hgb hr.hp.keeps.size (fun b ⟨id, hid, hh⟩ => by
            obtain ⟨bk, hbk⟩ := keysH_mem.1 hid
            rcases hh with ⟨t, ht⟩ | ⟨y', hy'⟩
            · exact (hr.hp.block hbk ht).2.1
            · have hq := hr.hp.blk id bk hbk
              unfold BlkOk at hq
              rw [hy'] at hq
              exact ((gh_rec hq).2.2 b y' rfl).1)
          rcases this with ⟨outs', z0, z1, z2, z3⟩ | hm
          · refine .inl ⟨outs', by simpa only [hn2, if_false] using z0, z1, ?_, z3⟩
            cases o with
            | none => exact z2
            | some p => exact z2
          · exact .inr hm)
      unfold BlkOk at hb6
      have hfr : fr5.length = a.tmps.toList.length ∧ ∀ (j : Nat) x z, fr5[j]? = some x → a.tmps.toList[j]? = some z → Conc G6 β5 x z := by
        cases hβ5 : β5 g2 with
        | no => rw [hβ5] at hb6; exact hb6.elim
        | nil => exact absurd (hr6.hp.idr g2 (.inl hβ5)) (by omega)
        | «at» b t => exact absurd (hr6.hp.idr g2 (.inr ⟨b, t, hβ5⟩)) (by omega)
        | gh o =>
          rw [hβ5] at hb6
          rcases hb6 with ⟨outs', z0, _, _, z3, z4⟩ | ⟨_, _, _, _, ⟨_, _, h9⟩, _⟩
          rotate_left
          · omega
          simp only [if_true] at z0
          injection z0 with z0
          subst z0
          exact ⟨z3, z4⟩
      have hrep7 : Rep R β5 G7 ⟨fr5, hdel (hset s5.hp gid ⟨T, fro5, false⟩) g2⟩ a (w2.putObj l o') :=
        ⟨d7, by rw [hfr.1]; simp, fun i x z hx hz => (hfr.2 i x z hx (by simpa using hz)).mono m7, h7⟩
      have := hrep7.put d (x := .bool b) (y := .bool b) .v
      have e : (St.put ⟨fr5, hdel (hset s5.hp gid ⟨T, fro5, false⟩) g2⟩ d (.bool b)) = ⟨(St.put ⟨fr5, []⟩ d (.bool b)).fr, hdel (hset s5.hp gid ⟨T, fro5, false⟩) g2⟩ := by cases d <;> rfl
      rw [e] at this
      exact hk ro R _ _ _ _ this
    cases e with
    | normal =>
      injection hT with hT; subst hT
      exact ⟨_, _, run_endRound none t2, key none true _ (by decide) rfl hk⟩
    | ret =>
      injection hT with hT; subst hT
      exact ⟨_, _, run_endRound (some .ret) t2, key (some .ret) false _ (by decide) rfl hk⟩
    | exit id =>
      injection hT with hT; subst hT
      refine ⟨_, _, run_endRound (some (.exit id)) t2, key (some (.exit id)) false _ (by omega) ?_ hk⟩
      have e : 1000000004 + id - 1000000001 = id + 3 := by omega
      rw [e]; rfl
    | goto t => cases hT
    | panic c => cases hT
    | outgrown => cases hT
  | _ => exact hs1.elim
/-- The record of a loop that has ended is let go. -/
theorem gcell_delL {G : Seal} {l : Nat} {z : Loop} (hl : G l = some (.loop z)) {a : Addr} {y : Value} (h : gcell G a = some y) : gcell (G.del l) a = some y := by
  unfold gcell at *
  by_cases hb : a.block = l
  · rw [hb, hl] at h; cases h
  · simp only [Seal.del, hb, if_false]; exact h
theorem RepH.unrec {R : Rg} {β : Ids} {G : Seal} {hp : Hp} {w : World} (h : RepH R β G hp w) {l : Nat} {z : Loop} (hn : R.w0.heap.size ≤ l) (hl : G l = some (.loop z)) (o' : Obj) : RepH R β (G.del l) hp (w.putObj l o') := by
  have hoth : ∀ b, b ≠ l → (w.putObj l o').heap[b]? = w.heap[b]? := fun b hb => World.putObj_heap_other hb
  have hc : ∀ {x y}, Conc G β x y → Conc (G.del l) β x y := fun hc => hc.extG (fun _ _ => rfl) fun _ _ h => gcell_delL hl h
  refine ⟨fun b x hb => ?_, fun id bk hi => ?_, h.inj, ?_, fun b hb => ?_, h.idr⟩
  · simp only [Seal.del] at hb
    split at hb
    · cases hb
    · rename_i hne; rw [hoth b hne]; exact h.gs b x hb
  · have := h.blk id bk hi
    unfold BlkOk at this ⊢
    cases hβ : β id with
    | no => rw [hβ] at this; exact this
    | nil => rw [hβ] at this; exact this
    | «at» b t =>
      rw [hβ] at this
      obtain ⟨g1, g2, arr, g3, g4, g5, g6, g7⟩ := this
      have hne : b ≠ l := fun e => by subst e; rw [hl] at g1; cases g1
      exact ⟨by simp only [Seal.del, hne, if_false]; exact g1, g2, arr, by rw [hoth b hne]; exact g3, g4, g5, g6, fun j x y hx hy => hc (g7 j x y hx hy)⟩
    | gh o =>
      rw [hβ] at this
      rcases this with ⟨outs, g0, gf, g1, g2, g3⟩ | ⟨b, es, clock, e0, e1, e2, e3, e4, e5⟩
      · refine .inl ⟨outs, g0, gf, ?_, g2, fun j x y hx hy => hc (g3 j x y hx hy)⟩
        cases o with
        | none => exact g1
        | some p =>
          obtain ⟨h0, hm, D', h1, h2, h3, h6, h4, h5⟩ := g1
          exact ⟨h0, hm, D', h1, h2, h3, h6, by simp only [Seal.del]; rw [if_neg (by omega)]; exact h4, by simp only [Seal.del]; rw [if_neg (by omega)]; exact h5⟩
      · exact .inr ⟨b, es, clock, e0, e1, e2, by simp only [Seal.del]; rw [if_neg (fun e => by subst e; rw [hl] at e3; cases e3)]; exact e3, e4, fun j x y hx hy => hc (e5 j x y hx hy)⟩
  · have hk := h.keeps
    refine ⟨hk.os, hk.tape, hk.output, by have := hk.size; simpa [World.putObj] using this, fun k h1 h2 => ?_⟩
    rw [hoth k (by omega)]; exact hk.block k h1 h2
  · simp only [Seal.del] at hb
    split at hb
    · exact absurd rfl hb
    · exact h.dom b hb
theorem jumpT_pos {e : Exit} {T : Nat} (h : jumpT e = some T) : 1000000000 < T := by
  cases e <;> simp only [jumpT] at h <;> first | (injection h with h; omega) | cases h
/-- 'for .. := range f { .. }': the iterator is called with yield, the frame waits. -/
theorem aw_rangeF {f : Operand} {ps : Array Tmp} {assign body : Code} {fr : List AV} {hp : Hp} {Q : Exit → St → Prop} {g : FuncId} {caps : List AV} [hc : TyC P g] (gid : Nat) {news : List Nat} {Qh : AV → Hp → Prop}
    (hf : (⟨fr, hp⟩ : St).eval f = .fn g caps) (hgid : 1000000000 ≤ gid) (hm1 : AV.mentL gid fr = false) (hm2 : mentHp gid hp = false) (hm3 : AV.mentL gid caps = false) (hno : recOk [] hp = true) (hfree : ∀ id ∈ news, St.free ⟨fr, hp⟩ id = true)
    (h : ∀ fn : FuncId, HCall P g (.yl gid ⟨fn, ps, assign, body, false⟩ :: caps) (hp ++ [(gid, ⟨1000000001, fr, false⟩)]) news [] Qh)
    (hQ : ∀ x hp', Qh x hp' → ∃ e T fr', jumpT e = some T ∧ hget hp' gid = some ⟨T, fr', false⟩ ∧ recOk [gid] hp' = true ∧ Q e ⟨fr', hdel hp' gid⟩) : AW P (.rangeFunc f ps assign body) ⟨fr, hp⟩ Q := by
  intro ro ho R β0 G a w hr0
  have hro : ro = none := ho.elim (fun h => h) (fun h => by simp [noRF] at h)
  subst hro
  obtain ⟨β, hr, hnn⟩ := hr0.drop news hfree
  refine wpIn_rangeFunc ?_
  intro fn _
  have e1 := hr.eval f; rw [hf] at e1
  obtain ⟨xs, hfv, hxl, hxs⟩ := conc_fn_caps e1 hc.lt
  obtain ⟨y, hy⟩ : ∃ y : YInfo, y = ⟨fn, ps, assign, body, false⟩ := ⟨_, rfl⟩
  obtain ⟨D, hD⟩ : ∃ D, D = w.heap.size := ⟨_, rfl⟩
  obtain ⟨W1, hW1⟩ : ∃ W1, W1 = (w.alloc (.deferred (some []))).alloc (.loop { state := .ready, pending := none, fn, tmps := a.tmps, params := ps, assign, body, defers := w.heap.size }) := ⟨_, rfl⟩
  have hrec : (Obj.loop { state := .ready, pending := none, fn, tmps := a.tmps, params := ps, assign, body, defers := w.heap.size }) = .loop (y.loop 0 a.tmps.toList D) := by subst hy hD; rfl
  have hsz1 : W1.heap.size = D + 2 := by subst hW1 hD; simp [World.size_alloc]
  have hold : ∀ b, b < D → W1.heap[b]? = w.heap[b]? := fun b hb => by
    subst hW1 hD
    rw [Below.heap_alloc _ _ _ (by rw [World.size_alloc]; omega), Below.heap_alloc _ _ _ hb]
  have hDh : W1.heap[D]? = some (.deferred (some [])) := by
    subst hW1 hD
    rw [Below.heap_alloc _ _ _ (by rw [World.size_alloc]; omega)]
    exact World.alloc_heap_new w _
  have hlh : W1.heap[D + 1]? = some (.loop (y.loop 0 a.tmps.toList D)) := by
    rw [← hrec]
    subst hW1 hD
    have := World.alloc_heap_new (w.alloc (.deferred (some []))) (.loop { state := .ready, pending := none, fn, tmps := a.tmps, params := ps, assign, body, defers := w.heap.size })
    rwa [World.size_alloc] at this
  let G1 : Seal := fun b => if b = D then some (.deferred (some [])) else if b = D + 1 then some (.loop (y.loop 0 a.tmps.toList D)) else G b
  have g1D : G1 D = some (.deferred (some [])) := by simp [G1]
  have g1l : G1 (D + 1) = some (.loop (y.loop 0 a.tmps.toList D)) := by simp [G1]
  have hGlt : ∀ b o, G b = some o → b < D := fun b o hg => by rw [hD]; exact heap_lt2 (hr.hp.gs b o hg)
  have g1o : ∀ b, b < D → G1 b = G b := fun b hb => by simp only [G1]; rw [if_neg (by omega), if_neg (by omega)]
  have gm : ∀ b o, G b = some o → G1 b = some o := fun b o hg => by rw [g1o b (hGlt b o hg)]; exact hg
  have hgs1 : ∀ b o, G1 b = some o → W1.heap[b]? = some o := fun b o hb => by
    simp only [G1] at hb
    split at hb
    · rename_i e; subst e; rw [hDh]; exact hb
    · split at hb
      · rename_i e; subst e; rw [hlh]; exact hb
      · rw [hold b (hGlt b o hb)]; exact hr.hp.gs b o hb
  obtain ⟨β1, hβ1⟩ : ∃ β1, β1 = β.set gid (.gh (some (D + 1, y))) := ⟨_, rfl⟩
  have hgk : hget hp gid = none := by
    cases hq : hget hp gid with
    | none => rfl
    | some bk => rw [mentHp_key hq] at hm2; cases hm2
  have hb1o : ∀ i, i ≠ gid → β1 i = β i := fun i hi => by rw [hβ1]; simp [Ids.set, hi]
  have hb1g : β1 gid = .gh (some (D + 1, y)) := by rw [hβ1]; simp [Ids.set]
  have hkeys : ∀ i, i ∈ keysH (hp ++ [(gid, (⟨1000000001, fr, false⟩ : Blk))]) ↔ i ∈ keysH hp ∨ i = gid := fun i => by
    rw [keysH_mem, keysH_mem]
    simp only [hget_append, hget]
    constructor
    · rintro ⟨bk, hbk⟩
      cases hq : hget hp i with
      | some b => exact .inl ⟨b, rfl⟩
      | none =>
        rw [hq] at hbk
        simp only [Option.none_or] at hbk
        split at hbk
        · rename_i e; exact .inr e.symm
        · cases hbk
    · rintro (⟨bk, hbk⟩ | rfl)
      · exact ⟨bk, by rw [hbk]; rfl⟩
      · exact ⟨_, by rw [hgk]; simp; rfl⟩
  obtain ⟨ex', hex⟩ : ∃ ex', ex' = lentS β1 (keysH (hp ++ [(gid, (⟨1000000001, fr, false⟩ : Blk))])) := ⟨_, rfl⟩
  have hnoR : ∀ id bk o, hget hp id = some bk → β id = .gh o → ∀ l y, o = some (l, y) → y.mp = true := fun id bk o hid hβ l y he => by
    have h0 := hr.hp.blk id bk hid
    unfold BlkOk at h0
    rw [hβ] at h0
    cases hm : y.mp with
    | true => rfl
    | false =>
      have := recOk_get hno hid ((gh_rec h0).1.2 ⟨l, y, he, hm⟩)
      cases this
  have hexA : ∀ id b t, hget hp id ≠ none → β id = .at b t → ex' b := fun id b t hid hβ => by
    rw [hex]
    have hne : id ≠ gid := fun e => by subst e; exact hid hgk
    obtain ⟨bk, hbk⟩ := Option.ne_none_iff_exists'.1 hid
    exact ⟨id, (hkeys id).2 (.inl (keysH_mem.2 ⟨bk, hbk⟩)), .inl ⟨t, by rw [hb1o id hne]; exact hβ⟩⟩
  have hexL : ex' (D + 1) := by rw [hex]; exact ⟨gid, (hkeys gid).2 (.inr rfl), .inr ⟨y, hb1g⟩⟩
  have hexC : ∀ b, ex' b → b = D + 1 ∨ ((G b = none ∨ ∃ z, G b = some z ∧ soft z = true) ∧ (R.w0.heap.size ≤ b ∨ R.ex b) ∧ b < D) := fun b hb => by
    rw [hex] at hb
    obtain ⟨id, hid, hh⟩ := hb
    rcases (hkeys id).1 hid with hk | rfl
    · obtain ⟨bk, hbk⟩ := keysH_mem.1 hk
      have hne : id ≠ gid := fun e => by subst e; rw [hgk] at hbk; cases hbk
      rw [hb1o id hne] at hh
      rcases hh with ⟨t, ht⟩ | ⟨y', hy'⟩
      · obtain ⟨p1, p2, arr, p3, _⟩ := hr.hp.block hbk ht
        exact .inr ⟨.inl p1, p2, by rw [hD]; exact heap_lt2 p3⟩
      · have h0 := hr.hp.blk id bk hbk
        unfold BlkOk at h0
        rw [hy'] at h0
        obtain ⟨g1, ⟨z, g2, g3⟩, _⟩ := (gh_rec h0).2.2 b y' rfl
        exact .inr ⟨.inr ⟨z, g2, g3⟩, g1, hGlt b z g2⟩
    · rw [hb1g] at hh
      rcases hh with ⟨t, ht⟩ | ⟨y', hy'⟩
      · cases ht
      · injection hy' with hy'; injection hy' with hy'; injection hy' with hy' _; exact .inl hy'.symm
  have hA : RepH ⟨W1, ex', G1, R.out, fun _ => none⟩ β G1 hp W1 := by
    refine ⟨hgs1, fun id bk hi => ?_, hr.hp.inj, ⟨rfl, rfl, rfl, Nat.le_refl _, fun _ _ _ => rfl⟩, fun b hb => .inl hb, hr.hp.idr⟩
    have := hr.hp.blk id bk hi
    unfold BlkOk at this ⊢
    cases hβ : β id with
    | no => rw [hβ] at this; exact this
    | nil => rw [hβ] at this; exact this
    | gh o =>
      rw [hβ] at this
      have ho := hnoR id bk o hi hβ
      rcases this with ⟨outs, z0, z1, z2, z3, z4⟩ | ⟨b, es, clock, e0, e1, e2, e3, e4, e5⟩
      · have hn : o = none := by
          cases o with
          | none => rfl
          | some p => have := ho p.1 p.2 rfl; rw [z2.2.1] at this; cases this
        subst hn
        exact .inl ⟨outs, z0, z1, z2, z3, fun j x z hx hz => (z4 j x z hx hz).mono gm⟩
      · refine .inr ⟨b, es, clock, e0, e1, .inr ?_, gm _ _ e3, e4, fun j x z hx hz => (e5 j x z hx hz).mono gm⟩
        have hne : id ≠ gid := fun e => by subst e; rw [hgk] at hi; cases hi
        show ex' b
        rw [hex]
        exact ⟨id, (hkeys id).2 (.inl (keysH_mem.2 ⟨bk, hi⟩)), .inr ⟨mapY, by rw [hb1o id hne, hβ, e0]⟩⟩
    | «at» b t =>
      rw [hβ] at this
      obtain ⟨p1, p2, arr, p3, p4, p5, p6, p7⟩ := this
      have hlt : b < D := by rw [hD]; exact heap_lt2 p3
      exact ⟨by rw [g1o b hlt]; exact p1, .inr (hexA id b t (by rw [hi]; simp) hβ), arr, by rw [hold b hlt]; exact p3, p4, p5, p6, fun j x z hx hz => (p7 j x z hx hz).mono gm⟩
  have hpg := push_gh (lp' := fun i => if i = gid then some (D + 1, D, y) else none) hA gid 1000000001 (some (D + 1, y)) hgid (by decide) (fr := fr) (tm := a.tmps.toList) (by rw [Array.length_toList]; exact hr.size.symm)
    (fun j x z hx hz => (hr.fr j x z hx (by simpa using hz)).mono gm) hm1 hm2 (fun i hi => by simp [hi]) ⟨by decide, by rw [hy], D, by simp, by show D < W1.heap.size; omega, by show D + 1 < W1.heap.size; omega, hexL, g1l, g1D⟩
  rw [← hβ1] at hpg
  have hcall := h fn (fun id hid => free_lt (hfree id hid)) β1 G1 W1 (.func (.yield (D + 1)) #[] #[] :: xs) _ _ (by rw [hex] at hpg; exact hpg) (fun id hid => by
      have h1 := free_lt (hfree id hid)
      rw [hb1o id (by omega)]; exact hnn id hid) ⟨by simp [hxl], fun j x z hx hz => by
      cases j with
      | zero => simp at hx hz; subst hx; subst hz; subst hy; exact .yl hb1g
      | succ j =>
        simp at hx hz
        have := (hxs j x z hx hz).mono gm
        rw [hβ1]
        exact this.setId (mentL_get hm3 hx) _⟩
  refine ⟨D + 1, [{ target := .collected D, args := #[] }], W1, { target := .fn (.func g) xs.toArray, args := #[.func (.yield (D + 1)) #[] #[]] }, W1, g, (.func (.yield (D + 1)) #[] #[] :: xs).toArray, W1, ?_, ?_, fun _ _ => trivial, ?_, fun h => by simp [wideAt, Fence.wide] at h, callsAt (hcall.mono ?_)⟩
  · subst hW1 hD; exact run_enterLoop_outer _ _ _ _ _
  · simp only [resolve, hfv]
    simp [go_sem]
  · simp [invoke, hc.ok]
  rintro e w3 ⟨y', G', β', x, hp', rfl, hqh, _, _, hgr, _, hrh⟩
  obtain ⟨e, T, fr', hj, hgg, hok, hq⟩ := hQ x hp' hqh
  rw [← hex] at hrh
  obtain ⟨r1, r2, r3, r4, r5, r6, r7⟩ := rec_knownH hrh hgid hgg (jumpT_pos hj) (if_pos rfl) (if_pos rfl)
  have hsub : hsub hp' (hdel hp' gid) := fun i bk hi => by
    rw [hget_hdel] at hi
    split at hi
    · cases hi
    · exact hi
  have hR0 : R.w0.heap.size ≤ D := by rw [hD]; exact hr.hp.keeps.size
  obtain ⟨Ds, d1, d2, d3⟩ := hr.defers
  have hdef : DefOk R.w0.heap.size G1 ({ target := .collected D, args := #[] } :: a.defers) := by
    refine ⟨D :: Ds, by rw [d1]; rfl, List.nodup_cons.2 ⟨fun hm => ?_, d2⟩, fun X hX => ?_⟩
    · have := hGlt D _ (d3 D hm).2; omega
    · rcases List.mem_cons.1 hX with rfl | hX
      · exact ⟨hR0, g1D⟩
      · exact ⟨(d3 X hX).1, gm _ _ (d3 X hX).2⟩
  obtain ⟨G3, d7, m7, h7⟩ := merge_back (R := R) (G := G1) (w := W1) (ds := { target := .collected D, args := #[] } :: a.defers) hdef hgs1
    ⟨by rw [hW1]; exact hr.hp.keeps.os, by rw [hW1]; exact hr.hp.keeps.tape, by rw [hW1]; exact hr.hp.keeps.output, by rw [hsz1]; omega, fun k h1 h2 => by rw [hold k (by omega)]; exact hr.hp.keeps.block k h1 h2⟩
    (fun b hb => by
      by_cases hlt : b < D
      · rw [g1o b hlt] at hb; exact hr.hp.dom b hb
      · exact .inr (.inl (by omega)))
    (fun b hb => by
      rcases hexC b hb with rfl | ⟨_, h2, _⟩
      · exact .inl (by omega)
      · exact h2)
    (fun b hb => by
      rcases hexC b hb with rfl | ⟨h1, _, h3⟩
      · exact .inr ⟨_, g1l, rfl⟩
      · rw [g1o b h3]; exact h1) (hrh.sub hsub) (fun id bk o hid hβo hgb => by
      have hn2 : id ≠ gid := fun e => by
        subst e
        rw [hget_hdel, if_pos rfl] at hid; cases hid
      have hT : ¬ 1000000000 < bk.T := fun hT => by
        have := recOk_get hok (hsub _ _ hid) hT
        simp at this; exact hn2 this
      rcases hgb with ⟨outs', z0, z1, z2, z3⟩ | ⟨b, es, clock, e0, e1, e2, e3⟩
      · have ho : o = none := by
          cases o with
          | none => rfl
          | some p => exact absurd (Nat.sub_pos_iff_lt.1 z2.1) hT
        subst ho
        exact .inl ⟨outs', by simpa only [hn2, if_false] using z0, z1, z2, z3⟩
      · refine .inr ⟨b, es, clock, e0, e1, ?_, e3⟩
        rcases e2 with e2 | e2
        · simp only at e2; left; omega
        · rcases hexC b e2 with rfl | ⟨_, h2, _⟩
          · left; omega
          · exact h2)
  have hlG := m7 _ _ r7
  obtain ⟨o', ho'⟩ : ∃ o' : Obj, o' = .loop { y.loop (T - 1000000001) a.tmps.toList D with state := .exhausted } := ⟨_, rfl⟩
  have hun := h7.unrec (l := D + 1) (by omega) hlG o'
  have hrep : Rep R β' (G3.del (D + 1)) ⟨fr', hdel hp' gid⟩ { a with defers := [{ target := .collected D, args := #[] }] ++ a.defers } (w3.putObj (D + 1) o') := by
    refine ⟨?_, by rw [r3]; simp, fun i x z hx hz => ((r4 i x z hx (by simpa using hz)).mono m7).extG (fun _ _ => rfl) fun _ _ h => gcell_delL hlG h, hun⟩
    obtain ⟨Es, e1, e2, e3⟩ := d7
    refine ⟨Es, e1, e2, fun X hX => ⟨(e3 X hX).1, ?_⟩⟩
    have hX3 := (e3 X hX).2
    simp only [Seal.del]
    rw [if_neg (fun e => by rw [e, hlG] at hX3; cases hX3)]
    exact hX3
  have hnb : (y.loop (T - 1000000001) a.tmps.toList D).state ≠ .busy := by
    cases e with
    | normal => injection hj with hj; subst hj; simp [YInfo.loop, stT]
    | ret => injection hj with hj; subst hj; simp [YInfo.loop, stT]
    | exit id =>
      injection hj with hj; subst hj
      have e : 1000000004 + id - 1000000001 = id + 3 := by omega
      rw [e]; simp [YInfo.loop, stT]
    | goto t => cases hj
    | panic c => cases hj
    | outgrown => cases hj
  have hend := run_endLoop (P := P) r2 hnb
  rw [← ho'] at hend
  refine ⟨_, _, hend, ?_⟩
  have hT : ∀ k, T = 1000000001 + k → (y.loop (T - 1000000001) a.tmps.toList D).pending = peT k := fun k hk => by
    rw [hk, Nat.add_sub_cancel_left]; rfl
  generalize (y.loop (T - 1000000001) a.tmps.toList D).pending = pp at hT ⊢
  cases e with
  | normal =>
    simp only [jumpT, Option.some.injEq] at hj
    rw [hT 0 (by omega)]
    exact ⟨_, _, _, hq, hrep⟩
  | ret =>
    simp only [jumpT, Option.some.injEq] at hj
    rw [hT 2 (by omega)]
    exact wpIn_ret ⟨_, _, _, hq, hrep⟩
  | exit id =>
    simp only [jumpT, Option.some.injEq] at hj
    rw [hT (id + 3) (by omega)]
    exact wpIn_exit ⟨_, _, _, hq, hrep⟩
  | goto t => cases hj
  | panic c => cases hj
  | outgrown => cases hj
/-- The two rules with the loop's record told by equations (the states stay small). -/
theorem aw_rangeFy {f : Operand} {ps : Array Tmp} {assign body : Code} {fr : List AV} {hp : Hp} {Q : Exit → St → Prop} {g : FuncId} {caps : List AV} [hc : TyC P g] (gid : Nat) {news : List Nat} {Qh : AV → Hp → Prop}
    (hf : (⟨fr, hp⟩ : St).eval f = .fn g caps) (hgid : 1000000000 ≤ gid) (hm1 : AV.mentL gid fr = false) (hm2 : mentHp gid hp = false) (hm3 : AV.mentL gid caps = false) (hno : recOk [] hp = true) (hfree : ∀ id ∈ news, St.free ⟨fr, hp⟩ id = true)
    (h : ∀ y : YInfo, y.ps = ps → y.assign = assign → y.body = body → HCall P g (.yl gid y :: caps) (hp ++ [(gid, ⟨1000000001, fr, false⟩)]) news [] Qh)
    (hQ : ∀ x hp', Qh x hp' → ∃ e T fr', jumpT e = some T ∧ hget hp' gid = some ⟨T, fr', false⟩ ∧ recOk [gid] hp' = true ∧ Q e ⟨fr', hdel hp' gid⟩) : AW P (.rangeFunc f ps assign body) ⟨fr, hp⟩ Q :=
  aw_rangeF gid hf hgid hm1 hm2 hm3 hno hfree (fun _ => h _ rfl rfl rfl) hQ
theorem aopsI_yieldy {all : Array Oper} {rest : List Oper} {d : Option Tmp} {fo : Operand} {args : Array Operand} {tys : Array TypeId} {ty : TypeId} {pos : String} {aft : Array Edge} {fr fro : List AV} {hp : Hp} {K : St → Prop} {gid : Nat} {y : YInfo} (g2 : Nat) {A B : Code} {ps : Array Tmp}
    (hyp : y.ps = ps) (hya : y.assign = A) (hyb : y.body = B)
    (hf : (⟨fr, hp⟩ : St).eval fo = .yl gid y) (hb : hget hp gid = some ⟨1000000001, fro, false⟩) (hps : args.size = ps.size) (ha : noRF A = true) (hbd : noRF B = true)
    (hgid : 1000000000 ≤ gid) (hg2 : 1000000000 ≤ g2) (hne : gid ≠ g2) (hm1 : AV.mentL g2 fr = false) (hm2 : mentHp g2 hp = false) (hm3 : AV.mentL g2 (evalL ⟨fr, hp⟩ args) = false) (hone : recOk [gid] hp = true)
    (h : AW P A ⟨setPs ps.toList (evalL ⟨fr, hp⟩ args) fro, hp ++ [(g2, ghBlk fr)]⟩ (XThen (fun s1 => ∃ s2 fro', Le s1 s2 ∧ hget s2.hp gid = some ⟨1000000001, fro', false⟩ ∧ recOk [gid] s2.hp = true ∧
      AW P B ⟨s2.fr, hset s2.hp gid ⟨1000000002, fro', false⟩⟩ (YPost P all rest gid g2 d K)) (fun _ _ => False))) (hg2b : g2 < 2000000000 := by decide) :
    AOpsI P all (⟨d, .call { callee := .value fo, args, argTypes := tys }, ty, pos, aft, none⟩ :: rest) ⟨fr, hp⟩ K := by
  subst hyp hya hyb
  exact aopsI_yield g2 hf hb hps ha hbd hgid hg2 hg2b hne hm1 hm2 hm3 hone h
@[go_sem] theorem setPs_nil (vs : List AV) (fr : List AV) : setPs [] vs fr = fr := by cases vs <;> rfl
@[go_sem] theorem setPs_cons (p : Tmp) (ps : List Tmp) (v : AV) (vs fr : List AV) : setPs (p :: ps) (v :: vs) fr = setPs ps vs (fr.set p v) := rfl
end Go.Ab
