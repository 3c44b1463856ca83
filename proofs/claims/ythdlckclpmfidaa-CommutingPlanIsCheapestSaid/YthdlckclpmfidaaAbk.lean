/- The abstract layer, eighth half: maps and interface values. -/
import Derived.Carry
import Derived.MapKept
import Derived.Test.YthdlckclpmfidaaAbj
set_option linter.unusedSimpArgs false
set_option linter.unusedVariables false
set_option linter.unusedSimpArgs false
set_option linter.unusedVariables false
set_option maxRecDepth 10000
namespace Go.Ab
open Go.RowKit
variable {P : Program}
/-! ### Maps from integers to integers, and interface values -/
abbrev AV.mp (id : Nat) : AV := .yl id mapY
/-- A map's entries, in the order in which they came. -/
def kvA (kv : List (Int × Int)) : List AV := kv.flatMap fun p => [.int p.1, .int p.2]
def kvV (kv : List (Int × Int)) : List Value := kv.flatMap fun p => [.int .i64 p.1, .int .i64 p.2]
def look (kv : List (Int × Int)) (k : Int) : Option Int := (kv.find? fun p => p.1 == k).map (·.2)
theorem kv_conc {G : Seal} {β : Ids} : ∀ {kv : List (Int × Int)} {vs : List Value}, (kvA kv).length = vs.length → (∀ (j : Nat) x y, (kvA kv)[j]? = some x → vs[j]? = some y → Conc G β x y) → vs = kvV kv
  | [], vs, hl, _ => List.eq_nil_of_length_eq_zero hl.symm
  | p :: kv, vs, hl, h => by
    match vs, hl, h with
    | a :: b :: vs, hl, h =>
      have h0 := h 0 (.int p.1) a rfl rfl
      have h1 := h 1 (.int p.2) b rfl rfl
      cases h0
      cases h1
      have := kv_conc (kv := kv) (vs := vs) (by simpa [kvA] using hl) (fun j x y hx hy => h (j + 2) x y (by simpa [kvA] using hx) (by simpa using hy))
      rw [this]
      rfl
    | [a], hl, _ => simp [kvA] at hl
    | [], hl, _ => simp [kvA] at hl
theorem kv_entries : ∀ {kv : List (Int × Int)} {es : List MapEntry}, (es.flatMap fun e => [e.key, e.val]) = kvV kv → es.map (fun e => (e.key, e.val)) = kv.map fun p => (Value.int .i64 p.1, Value.int .i64 p.2)
  | [], [], _ => rfl
  | [], e :: es, h => by simp [kvV] at h
  | p :: kv, [], h => by simp [kvV] at h
  | p :: kv, e :: es, h => by
    simp only [List.flatMap_cons, kvV, List.cons_append, List.nil_append, List.cons.injEq] at h
    rw [List.map_cons, List.map_cons, h.1, h.2.1, kv_entries h.2.2]
theorem find_look (k : Int) : ∀ (es : List MapEntry) (kv : List (Int × Int)) (i : Nat), es.map (fun e => (e.key, e.val)) = kv.map (fun p => (Value.int .i64 p.1, Value.int .i64 p.2)) →
    ∃ j, Instr.findNow (.int .i64) (.int .i64 k) es i = some (match look kv k with | some v => some (j, .int .i64 v) | none => none)
  | [], [], i, _ => ⟨0, rfl⟩
  | [], p :: kv, i, h => by simp at h
  | e :: es, [], i, h => by simp at h
  | e :: es, p :: kv, i, h => by
    simp only [List.map_cons, List.cons.injEq, Prod.mk.injEq] at h
    obtain ⟨⟨h1, h2⟩, h3⟩ := h
    simp only [Instr.findNow, h1, h2, Instr.sameNow, if_true]
    by_cases hk : p.1 = k
    · refine ⟨i, ?_⟩
      have e1 : (k == p.1) = true := by simp [hk]
      have e2 : (p.1 == k) = true := by simp [hk]
      rw [e1]
      simp only [look, List.find?_cons, e2, Option.map_some]
    · have e1 : (k == p.1) = false := by simp [Ne.symm hk]
      have e2 : (p.1 == k) = false := by simp [hk]
      rw [e1]
      simp only [look, List.find?_cons, e2]
      exact find_look k es kv (i + 1) h3
/-- What a map's block tells. -/
theorem map_known {R : Rg} {β : Ids} {G : Seal} {s : St} {a : Act} {w : World} (h : Rep R β G s a w) {m : Operand} {id : Nat} {kv : List (Int × Int)} {fl : Bool} (hm : s.eval m = .mp id) (hb : hget s.hp id = some ⟨1000000000, kvA kv, fl⟩) :
    ∃ b es clock, a.eval m = .map (some b) ∧ β id = .gh (some (b, mapY)) ∧ 2000000000 ≤ id ∧ fl = false ∧ (R.w0.heap.size ≤ b ∨ R.ex b) ∧ G b = some (.map es clock) ∧ w.heap[b]? = some (.map es clock) ∧ flatE es = kvV kv ∧ es.toList.map (fun e => (e.key, e.val)) = kv.map fun p => (Value.int .i64 p.1, Value.int .i64 p.2) := by
  have e1 := h.eval m
  rw [hm] at e1
  generalize hy : a.eval m = y at e1
  cases e1 with
  | @yl _ _ _ l hβ =>
    have h0 := h.hp.blk id _ hb
    unfold BlkOk at h0
    rw [hβ] at h0
    rcases h0 with ⟨_, _, _, ⟨_, k, _⟩, _⟩ | ⟨b, es, clock, e0, ⟨e1, _, e7⟩, e2, e3, e4, e5⟩
    · cases k
    · injection e0 with e0
      injection e0 with e0 _
      subst e0
      have e6 := kv_conc e4 e5
      exact ⟨l, es, clock, rfl, hβ, e7, e1, e2, e3, h.hp.gs _ _ e3, e6, kv_entries e6⟩
/-- v, ok := m[k] -/
theorem pv_lookupOk {s : St} {t kt et : TypeId} {z : Value} {n bw : Nat} {m x : Operand} {id : Nat} {kv : List (Int × Int)} {k : Int} {fl : Bool} [hu : TyU P t (.map kt et)] [hk : TyU P kt (.int .i64)] [hi : TyI P et z n bw]
    (hm : s.eval m = .mp id) (hb : hget s.hp id = some ⟨1000000000, kvA kv, fl⟩) (hx : s.eval x = .int k) (hz : z = .int .i64 0) : PV P (.lookup t m x true) s (.tup [.int ((look kv k).getD 0), .bool (look kv k).isSome]) := by
  intro R β G a w h
  obtain ⟨b, es, clock, h1, _, _, _, _, _, h2, _, h3⟩ := map_known h hm hb
  have hxe : a.eval x = .int .i64 k := by
    have := h.eval x; rw [hx] at this; generalize a.eval x = q at this ⊢; cases this; rfl
  obtain ⟨j, hj⟩ := find_look k es.toList kv 0 h3
  refine ⟨.tuple #[.int .i64 ((look kv k).getD 0), .bool (look kv k).isSome], ?_, fun w' d ty pos aft g he => ?_⟩
  · refine Conc.tup (cs := [.int ((look kv k).getD 0), .bool (look kv k).isSome]) [.int .i64 ((look kv k).getD 0), .bool (look kv k).isSome] rfl (fun j u v hu hv => ?_)
    match j, hu, hv with
    | 0, hu, hv => simp at hu hv; subst hu; subst hv; exact .v
    | 1, hu, hv => simp at hu hv; subst hu; subst hv; exact .v
    | j + 2, hu, hv => simp at hu
  · have h4 : w'.heap[b]? = some (.map es clock) := by rw [he.block b (heap_lt2 h2)]; exact h2
    have hzr : (zeroValue et).run P w' = .ok (.int .i64 0) w' := by rw [← hz]; exact run_zero_i hi w'
    cases hl : look kv k with
    | none =>
      rw [hl] at hj
      simp [execOp, h1, hxe, Instr.lookup, run_underlying hu.ok, MapKept.run_getObj_map h4, MapKept.run_checkKey hk.ok (show MapKept.IsKey (.int .i64) (.int .i64 k) by simp [MapKept.IsKey]), MapKept.run_findKey hk.ok hj, hzr, Result.andThen]
    | some v =>
      rw [hl] at hj
      simp [execOp, h1, hxe, Instr.lookup, run_underlying hu.ok, MapKept.run_getObj_map h4, MapKept.run_checkKey hk.ok (show MapKept.IsKey (.int .i64) (.int .i64 k) by simp [MapKept.IsKey]), MapKept.run_findKey hk.ok hj, Result.andThen]
/-- make(map[K]V) -/
theorem aop_makeMap {d : Tmp} {t : TypeId} {ty : TypeId} {pos : String} {aft : Array Edge} {g : Option (Nat × Bool)} {s : St} {K : St → Prop} (id : Nat) (hid : 2000000000 ≤ id) (hm1 : AV.mentL id s.fr = false) (hm2 : mentHp id s.hp = false)
    (hk : K ⟨s.fr.set d (.mp id), hset s.hp id ⟨1000000000, [], false⟩⟩) : AOp P ⟨some d, .makeMap t none, ty, pos, aft, g⟩ s K := by
  intro R β G a w Q hr
  have hgk : hget s.hp id = none := by
    cases hq : hget s.hp id with
    | none => rfl
    | some bk => rw [mentHp_key hq] at hm2; cases hm2
  let β2 := β.set id (.gh (some (w.heap.size, mapY)))
  have hself : β2 id = .gh (some (w.heap.size, mapY)) := by simp [β2, Ids.set]
  have hoth : ∀ i, i ≠ id → β2 i = β i := fun i hi => by simp [β2, Ids.set, hi]
  have hGlt : ∀ b o, G b = some o → b < w.heap.size := fun b o hb => heap_lt (hr.hp.gs b o hb)
  let G2 : Seal := fun b => if b = w.heap.size then some (.map #[] 0) else G b
  have g2s : G2 w.heap.size = some (.map #[] 0) := by simp [G2]
  have gm : ∀ b o, G b = some o → G2 b = some o := fun b o hb => by
    simp only [G2]; rw [if_neg (by have := hGlt b o hb; omega)]; exact hb
  have hc : ∀ {x y}, Conc G β x y → AV.ment id x = false → Conc G2 β2 x y := fun hc hm => (hc.mono gm).setId hm _
  have hcb : ∀ {i bk}, hget s.hp i = some bk → ∀ u ∈ bk.cs, AV.ment id u = false := fun {i bk} hi u hu => by
    obtain ⟨j, hj⟩ := List.getElem?_of_mem hu
    cases hm : AV.ment id u with
    | false => rfl
    | true => rw [mentHp_cell hi (mentL_mem hj hm)] at hm2; cases hm2
  have hrep : Rep R β2 G2 ⟨s.fr, hset s.hp id ⟨1000000000, [], false⟩⟩ a (w.alloc (.map #[] 0)) := by
    refine ⟨hr.defers.mono gm, hr.size, fun i x y hx hy => hc (hr.fr i x y hx hy) (mentL_get hm1 hx), ⟨fun b o hb => ?_, fun i bk hi => ?_, fun i j b t t' hi hj hbi hbj => ?_, hr.hp.keeps.alloc _, fun b hb => ?_, fun i hi => ?_⟩⟩
    · simp only [G2] at hb
      split at hb
      · rename_i e; subst e; injection hb with hb; subst hb; exact heap_alloc_new w _
      · rw [heap_alloc_lt w _ (hGlt b o hb)]; exact hr.hp.gs b o hb
    · rw [hget_hset] at hi
      unfold BlkOk
      by_cases hid' : id = i
      · subst hid'
        simp only [if_true, Option.some.injEq] at hi
        subst hi
        rw [hself]
        exact .inr ⟨w.heap.size, #[], 0, rfl, ⟨rfl, rfl, hid⟩, .inl hr.hp.keeps.size, g2s, rfl, fun j x y hx _ => by simp at hx⟩
      · simp only [hid', if_false] at hi
        rw [hoth i (Ne.symm hid')]
        have := hr.hp.blk i bk hi
        unfold BlkOk at this
        cases hβ : β i with
        | no => rw [hβ] at this; exact this
        | nil => rw [hβ] at this; exact this
        | «at» b t =>
          rw [hβ] at this
          obtain ⟨g1, g2, arr', g3, g4, g5, g6, g7⟩ := this
          have hlt := heap_lt g3
          exact ⟨by simp only [G2]; rw [if_neg (by omega)]; exact g1, g2, arr', by rw [heap_alloc_lt w _ hlt]; exact g3, g4, g5, g6, fun j x y hx hy => hc (g7 j x y hx hy) (hcb hi x (List.mem_of_getElem? hx))⟩
        | gh o =>
          rw [hβ] at this
          exact gh_same this gm fun x hx y hcv => hc hcv (hcb hi x hx)
    · have n1 : i ≠ id := fun e => by subst e; rw [hself] at hbi; cases hbi
      have n2 : j ≠ id := fun e => by subst e; rw [hself] at hbj; cases hbj
      rw [hget_hset, if_neg (Ne.symm n1)] at hi
      rw [hget_hset, if_neg (Ne.symm n2)] at hj
      rw [hoth i n1] at hbi
      rw [hoth j n2] at hbj
      exact hr.hp.inj i j b t t' hi hj hbi hbj
    · by_cases e : b = w.heap.size
      · subst e; exact .inr (.inl hr.hp.keeps.size)
      · simp only [G2, e, if_false] at hb; exact hr.hp.dom b hb
    · by_cases e : i = id
      · subst e; rw [hself] at hi; rcases hi with hi | ⟨_, _, hi⟩ <;> cases hi
      · rw [hoth i e] at hi; exact hr.hp.idr i hi
  have hrun : (execOp a.eval ⟨some d, .makeMap t none, ty, pos, aft, g⟩).run P w = .ok (.value (.map (some w.heap.size))) (w.alloc (.map #[] 0)) := by
    simp [execOp, run_makeMap]
  unfold Oper.wp
  rw [hrun, Oper.upon_value]
  have hv : Conc G2 β2 (.mp id) (.map (some w.heap.size)) := .yl (y := mapY) hself
  exact ⟨_, _, _, hk, hrep.put (some d) hv⟩
/-- The only map. -/
def oneMap (id : Nat) (hp : Hp) : Bool := hp.all fun p => Nat.blt p.1 2000000000 || Nat.beq p.1 id
theorem oneMap_get {id : Nat} {hp : Hp} (h : oneMap id hp = true) {i : Nat} {bk : Blk} (hb : hget hp i = some bk) (h1 : 2000000000 ≤ i) : i = id := by
  unfold oneMap at h
  rw [List.all_eq_true] at h
  have key : ∀ hp : Hp, hget hp i = some bk → ∃ b, (i, b) ∈ hp := by
    intro hp
    induction hp with
    | nil => intro h; simp [hget] at h
    | cons p r ih =>
      intro h
      obtain ⟨k, b⟩ := p
      simp only [hget] at h
      split at h
      · rename_i e; subst e; exact ⟨b, by simp⟩
      · obtain ⟨b', hb'⟩ := ih h; exact ⟨b', by simp [hb']⟩
  obtain ⟨b, hm⟩ := key hp hb
  have := h _ hm
  rw [Bool.or_eq_true] at this
  rcases this with h3 | h3
  · rw [Nat.blt_eq] at h3; simp only at h3; omega
  · exact Nat.eq_of_beq_eq_true h3
theorem kvA_app (a b : List (Int × Int)) : kvA (a ++ b) = kvA a ++ kvA b := List.flatMap_append
theorem kvV_app (a b : List (Int × Int)) : kvV (a ++ b) = kvV a ++ kvV b := List.flatMap_append
theorem kv_same {G : Seal} {β : Ids} : ∀ (kv : List (Int × Int)), (kvA kv).length = (kvV kv).length ∧ ∀ (j : Nat) x y, (kvA kv)[j]? = some x → (kvV kv)[j]? = some y → Conc G β x y
  | [] => ⟨rfl, fun j x y hx => by simp [kvA] at hx⟩
  | p :: kv => by
    obtain ⟨h1, h2⟩ := kv_same (G := G) (β := β) kv
    refine ⟨by simp [kvA, kvV], fun j x y hx hy => ?_⟩
    match j, hx, hy with
    | 0, hx, hy => simp [kvA] at hx; simp [kvV] at hy; subst hx; subst hy; exact .v
    | 1, hx, hy => simp [kvA] at hx; simp [kvV] at hy; subst hx; subst hy; exact .v
    | j + 2, hx, hy => exact h2 j x y (by simpa [kvA] using hx) (by simpa [kvV] using hy)
/-- The world and the state after a new entry. -/
theorem Rep.newEntry {R : Rg} {β : Ids} {G : Seal} {s : St} {a : Act} {w : World} (h : Rep R β G s a w) {id b : Nat} {kv : List (Int × Int)} {es : Array MapEntry} {clock : Nat} {k v : Int} (hb : hget s.hp id = some ⟨1000000000, kvA kv, false⟩)
    (hβ : β id = .gh (some (b, mapY))) (hid : 2000000000 ≤ id) (hex : R.w0.heap.size ≤ b ∨ R.ex b) (hG : G b = some (.map es clock)) (hfl : flatE es = kvV kv) (hone : oneMap id s.hp = true) :
    ∃ G2, Rep R β G2 ⟨s.fr, hset s.hp id ⟨1000000000, kvA (kv ++ [(k, v)]), false⟩⟩ a (w.putObj b (.map (es.push { key := .int .i64 k, val := .int .i64 v, born := clock }) (clock + 1))) := by
  obtain ⟨es2, he2⟩ : ∃ es2, es2 = es.push { key := .int .i64 k, val := .int .i64 v, born := clock } := ⟨_, rfl⟩
  rw [← he2]
  have hf2 : flatE es2 = kvV (kv ++ [(k, v)]) := by
    rw [he2, kvV_app, ← hfl]
    simp [flatE, kvV]
  have hlw : b < w.heap.size := heap_lt2 (h.hp.gs b _ hG)
  let G2 : Seal := fun c => if c = b then some (.map es2 (clock + 1)) else G c
  have g2b : G2 b = some (.map es2 (clock + 1)) := by simp [G2]
  have g2n : ∀ c, c ≠ b → G2 c = G c := fun c hc => by simp [G2, hc]
  have hoth : ∀ c, c ≠ b → (w.putObj b (.map es2 (clock + 1))).heap[c]? = w.heap[c]? := fun c hc => World.putObj_heap_other hc
  have hcell : ∀ x z, gcell G x = some z → gcell G2 x = some z := fun x z hx => by
    by_cases he : x.block = b
    · unfold gcell at hx; rw [he, hG] at hx; cases hx
    · unfold gcell at hx ⊢; rw [g2n _ he]; exact hx
  have hc : ∀ {x z}, Conc G β x z → Conc G2 β x z := fun hc => hc.extG (fun _ _ => rfl) hcell
  refine ⟨G2, ?_, h.size, fun i x z hx hz => hc (h.fr i x z hx hz), ⟨fun c o hc' => ?_, fun i bk hi => ?_, fun i j c t t' hi hj hbi hbj => ?_, ?_, fun c hc' => ?_, h.hp.idr⟩⟩
  · obtain ⟨Ds, d1, d2, d3⟩ := h.defers
    refine ⟨Ds, d1, d2, fun X hX => ⟨(d3 X hX).1, ?_⟩⟩
    have hG' := (d3 X hX).2
    rw [g2n X (fun e => by rw [e, hG] at hG'; cases hG')]
    exact hG'
  · by_cases he : c = b
    · subst he; rw [g2b] at hc'; injection hc' with hc'; subst hc'; exact World.putObj_heap_same hlw
    · rw [g2n c he] at hc'; rw [hoth c he]; exact h.hp.gs c o hc'
  · rw [hget_hset] at hi
    split at hi
    · rename_i e; subst e; injection hi with hi; subst hi
      unfold BlkOk
      rw [hβ]
      obtain ⟨q1, q2⟩ := kv_same (G := G2) (β := β) (kv ++ [(k, v)])
      exact .inr ⟨b, es2, clock + 1, rfl, ⟨rfl, rfl, hid⟩, hex, g2b, by rw [hf2]; exact q1, by rw [hf2]; exact q2⟩
    · rename_i hne
      have := h.hp.blk i bk hi
      unfold BlkOk at this ⊢
      cases hβi : β i with
      | no => rw [hβi] at this; exact this
      | nil => rw [hβi] at this; exact this
      | gh o =>
        rw [hβi] at this
        rcases this with ⟨outs, z0, z1, z2, z3, z4⟩ | ⟨c, es', clock', e0, e1, e2, e3, e4, e5⟩
        · refine .inl ⟨outs, z0, z1, ?_, z3, fun j x z hx hz => hc (z4 j x z hx hz)⟩
          cases o with
          | none => exact z2
          | some p =>
            obtain ⟨k0, km, D, k1, k2, k3, k4, k5, k6⟩ := z2
            have n1 : p.1 ≠ b := fun e => by rw [e, hG] at k5; cases k5
            have n2 : D ≠ b := fun e => by rw [e, hG] at k6; cases k6
            exact ⟨k0, km, D, k1, k2, k3, k4, by rw [g2n _ n1]; exact k5, by rw [g2n _ n2]; exact k6⟩
        · exact absurd (oneMap_get hone hi e1.2.2).symm hne
      | «at» c t =>
        rw [hβi] at this
        obtain ⟨g1, g2, arr, g3, g4, g5, g6, g7⟩ := this
        have hcb : c ≠ b := fun e => by rw [e, hG] at g1; cases g1
        exact ⟨by rw [g2n c hcb]; exact g1, g2, arr, by rw [hoth c hcb]; exact g3, g4, g5, g6, fun j x z hx hz => hc (g7 j x z hx hz)⟩
  · have key : ∀ i, (hget (hset s.hp id ⟨1000000000, kvA (kv ++ [(k, v)]), false⟩) i).isSome → (hget s.hp i).isSome := fun i hi => by
      rw [hget_hset] at hi
      split at hi
      · rename_i e; subst e; rw [hb]; rfl
      · exact hi
    exact h.hp.inj i j c t t' (key i hi) (key j hj) hbi hbj
  · have hk := h.hp.keeps
    refine ⟨hk.os, hk.tape, hk.output, by have := hk.size; simpa [World.putObj] using this, fun c h1 h2 => ?_⟩
    rw [hoth c (fun e => by subst e; rcases hex with h3 | h3; omega; exact h2 h3)]; exact hk.block c h1 h2
  · by_cases he : c = b
    · subst he; exact h.hp.dom c (by rw [hG]; simp)
    · rw [g2n c he] at hc'; exact h.hp.dom c hc'
theorem run_mapNew {t kt et : TypeId} {w : World} {b : Nat} {es : Array MapEntry} {clock : Nat} {k : Int} {v : Value} (hu : P.underlying t = some (.map kt et)) (hk : P.underlying kt = some (.int .i64)) (hb : w.heap[b]? = some (.map es clock)) (hf : Instr.findNow (.int .i64) (.int .i64 k) es.toList 0 = some none) :
    (Instr.mapUpdate t (.map (some b)) (.int .i64 k) v).run P w = .ok () (w.putObj b (.map (es.push { key := .int .i64 k, val := v, born := clock }) (clock + 1))) := by
  simp [Instr.mapUpdate, run_underlying hu, MapKept.run_getObj_map hb, MapKept.run_checkKey hk (show MapKept.IsKey (.int .i64) (.int .i64 k) by simp [MapKept.IsKey]), MapKept.run_findKey hk hf, MapKept.run_setObj_map _ hb, Result.andThen, World.putObj]
/-- m[k] = v, the key being new. -/
theorem aop_mapNew {t kt et : TypeId} {m x y : Operand} {id : Nat} {kv : List (Int × Int)} {k v : Int} {ty : TypeId} {pos : String} {aft : Array Edge} {g : Option (Nat × Bool)} {s : St} {K : St → Prop} [hu : TyU P t (.map kt et)] [hkt : TyU P kt (.int .i64)]
    (hm : s.eval m = .mp id) (hb : hget s.hp id = some ⟨1000000000, kvA kv, false⟩) (hx : s.eval x = .int k) (hy : s.eval y = .int v) (hnew : look kv k = none) (hone : oneMap id s.hp = true)
    (hk : K ⟨s.fr, hset s.hp id ⟨1000000000, kvA (kv ++ [(k, v)]), false⟩⟩) : AOp P ⟨none, .mapUpdate t m x y, ty, pos, aft, g⟩ s K ∧ AOp P ⟨none, .insert t m x y, ty, pos, aft, g⟩ s K := by
  have key : ∀ (op : Op), (∀ (a : Act) (p : Nat) (w : World), a.eval m = .map (some p) → (execOp a.eval ⟨none, op, ty, pos, aft, g⟩).run P w = ((Instr.mapUpdate t (a.eval m) (a.eval x) (a.eval y)).run P w).andThen fun _ w => .ok .skip w) → AOp P ⟨none, op, ty, pos, aft, g⟩ s K := by
    intro op hop R β G a w Q hr
    obtain ⟨b, es, clock, h1, hβ, hid, _, hex, hG, h2, hfl, h3⟩ := map_known hr hm hb
    have hxe : a.eval x = .int .i64 k := by
      have := hr.eval x; rw [hx] at this; generalize a.eval x = q at this ⊢; cases this; rfl
    have hye : a.eval y = .int .i64 v := by
      have := hr.eval y; rw [hy] at this; generalize a.eval y = q at this ⊢; cases this; rfl
    obtain ⟨j, hj⟩ := find_look k es.toList kv 0 h3
    rw [hnew] at hj
    obtain ⟨G2, hr2⟩ := hr.newEntry (k := k) (v := v) hb hβ hid hex hG hfl hone
    have hrun := hop a b w h1
    rw [h1, hxe, hye, run_mapNew hu.ok hkt.ok h2 hj] at hrun
    simp only [Result.andThen] at hrun
    unfold Oper.wp
    rw [hrun, Oper.upon_skip]
    exact ⟨β, G2, _, hk, hr2⟩
  exact ⟨key _ fun a p w _ => by simp [execOp, Result.andThen], key _ fun a p w _ => by simp [execOp, Result.andThen]⟩
/-! ### Interface values -/
theorem conc_ifc {G : Seal} {β : Ids} {N T : Nat} {x : AV} {y : Value} (h : Conc G β (.fn N [x]) y) (hN : N = 1000000000 + T) : ∃ v, y = .iface T v ∧ Conc G β x v := by
  generalize hz : AV.fn N [x] = z at h
  cases h with
  | fn xs hf hl hs =>
    injection hz with h1 h2
    subst h1
    exact absurd hf (by rw [hN]; exact Nat.not_le.2 (Nat.lt_of_lt_of_le (by decide) (Nat.le_add_right 1000000000 T)))
  | @ifc _ T' x' v h =>
    injection hz with h1 h2
    injection h2 with h2 _
    subst h2
    have h3 : T' = T := Nat.add_left_cancel (h1.symm.trans hN)
    subst h3
    exact ⟨v, rfl, h⟩
  | _ => cases hz
def notI : TypeDesc → Bool
  | .interface _ => false
  | _ => true
theorem pv_makeInterface {s : St} {t : TypeId} {x : Operand} {d : TypeDesc} [hu : TyU P t d] (hd : notI d = true := by rfl) : PV P (.makeInterface t x) s (.fn (1000000000 + t) [s.eval x]) :=
  pv_of fun R β G a w h => ⟨_, .ifc (h.eval x), fun w' _ _ _ _ _ => by
    have hc : P.concrete t = true := by
      unfold Program.concrete
      rw [hu.ok]
      cases d <;> first | rfl | (cases hd; done)
    simp [execOp, run_makeInterface _ _ _ hc]⟩
theorem pv_typeAssert {s : St} {x : Operand} {xt t : TypeId} {N : Nat} {v : AV} {d : TypeDesc} [hu : TyU P t d] (hx : s.eval x = .fn N [v]) (hN : N = 1000000000 + t) (hd : notI d = true := by rfl) : PV P (.typeAssert x xt t false) s v :=
  pv_of fun R β G a w h => by
    have e1 := h.eval x
    rw [hx] at e1
    obtain ⟨y, hy, hc⟩ := conc_ifc e1 hN
    refine ⟨y, hc, fun w' _ _ _ _ _ => ?_⟩
    have : (Instr.typeAssert (.iface t y) xt t false).run P w' = .ok y w' := by
      simp only [Instr.typeAssert, Sem.run_bind, run_underlying hu.ok, Result.andThen_ok]
      cases d <;> first | (simp; done) | (cases hd; done)
    simp [execOp, hy, this]
/-- The method of a dynamic type, by its name. -/
class TyM (P : Program) (N : Nat) (name : String) (f : outParam FuncId) : Prop where
  ok : ∃ T, N = 1000000000 + T ∧ ∀ (v : Value) (w : World), (method (P.types.size + Made.depth) T v name).run P w = .ok (f, v) w
theorem tyM_of {T : TypeId} {name : String} {f : FuncId} {e : TypeId} [hu : TyU P T (.pointer e)] {i : TypeInfo} {m : Method} (hi : P.info? T = some i) (hm : i.methods.find? (fun m => m.name == name) = some m) (hp : m.path = #[]) (hf : m.func = some (f, true)) : TyM P (1000000000 + T) name f :=
  ⟨T, rfl, fun v w => by
    have e1 : P.types.size + Made.depth = (P.types.size + 99) + 1 := by simp [Made.depth]
    rw [e1]
    simp [method, typeInfo, hi, hm, hp, hf, follow, receiverAt, run_underlying hu.ok, Place.get]⟩
def isM (P : Program) (T : TypeId) (name : String) (f : FuncId) : Bool :=
  match P.info? T with
  | some i => match i.methods.find? (fun m => m.name == name) with
    | some m => m.path.isEmpty && match m.func with
      | some (g, true) => g == f
      | _ => false
    | none => false
  | none => false
theorem tyM_is {T : TypeId} {name : String} {f : FuncId} {e : TypeId} (hu : TyU P T (.pointer e)) (h : isM P T name f = true) : TyM P (1000000000 + T) name f := by
  unfold isM at h
  split at h
  · rename_i i hi
    split at h
    · rename_i m hm
      rw [Bool.and_eq_true] at h
      obtain ⟨h1, h2⟩ := h
      split at h2
      · rename_i g hg
        have : g = f := by simpa using h2
        subst this
        exact tyM_of hi hm (by simpa using h1) hg
      · cases h2
    · cases h
  · cases h
theorem aop_invokeH {d : Option Tmp} {fo : Operand} {N : Nat} {name : String} {f : FuncId} {x0 : AV} {args : Array Operand} {tys : Array TypeId} {ty : TypeId} {pos : String} {aft : Array Edge} {g : Option (Nat × Bool)} {s : St} {K : St → Prop} {hp : Hp} {news pins : List Nat} {Q : AV → Hp → Prop}
    (hf : s.eval fo = .fn N [x0]) [hm : TyM P N name f] [hc : TyC P f]
    (h : HCall P f (x0 :: evalL s args) hp news pins Q) (hin : ∀ id bk, hget hp id = some bk → hget s.hp id = some bk) (hfree : ∀ id ∈ news, s.free id = true) (hps' : (pins.all fun i => memN i (keysH hp)) = true)
    (hk : ∀ x hp', Q x hp' → K ⟨(St.put ⟨AV.fixL (keysH hp ++ news) pins s.fr, []⟩ d x).fr, hp' ++ fixHp (keysH hp ++ news) pins s.hp⟩) (hrec : recOk (keysH hp) s.hp = true := by rfl) (hms : mapSep (keysH hp) s.hp = true := by rfl) :
    AOp P ⟨d, .call { callee := .invoke fo name, args, argTypes := tys }, ty, pos, aft, g⟩ s K := by
  intro R β G a w Q' hr
  have hps : ∀ i ∈ pins, i ∈ keysH hp := fun i hi => memN_iff.1 (List.all_eq_true.1 hps' i hi)
  obtain ⟨β, hr, hno⟩ := hr.drop news hfree
  have e1 := hr.eval fo; rw [hf] at e1
  obtain ⟨T, hN, hmt⟩ := hm.ok
  obtain ⟨v, hv, hcv⟩ := conc_ifc e1 hN
  have hrun : (execOp a.eval ⟨d, .call { callee := .invoke fo name, args, argTypes := tys }, ty, pos, aft, g⟩).run P w = .ok (.enter f (#[v] ++ args.map a.eval)) w := by
    have hx2 : (args.map a.eval).extract 0 args.size = args.map a.eval := by
      apply Array.ext'
      simp
      exact List.take_of_length_le (by simp)
    have h0 : (#[Value.iface T v] ++ args.map a.eval)[0]? = some (Value.iface T v) := by rw [Array.getElem?_append_left (by simp)]; rfl
    have hx1 : (#[Value.iface T v] ++ args.map a.eval).extract 1 (#[Value.iface T v] ++ args.map a.eval).size = args.map a.eval := by
      first | (simp; done) | (simp; exact hx2)
    have hcm : (callMethod (.iface T v) name (args.map a.eval)).run P w = .ok (.enter f (#[v] ++ args.map a.eval)) w := by simp [callMethod, hmt, hc.ok]
    have hiv : (invoke (.fn (.method name) #[]) (#[Value.iface T v] ++ args.map a.eval)).run P w = .ok (.enter f (#[v] ++ args.map a.eval)) w := by
      unfold invoke
      rw [h0]
      dsimp only
      rw [hx1]
      exact hcm
    simp [execOp, resolve, hv, hiv]
  unfold Oper.wp
  rw [hrun, Oper.upon_enter]
  obtain ⟨l1, l2⟩ := evalL_agg hr args
  have hcl : ConcB G β (x0 :: evalL s args) (v :: (args.map a.eval).toList) := by
    refine ⟨by simp [l1], fun j x y hx hy => ?_⟩
    cases j with
    | zero => simp at hx hy; subst hx; subst hy; exact hcv
    | succ j => exact l2 j x y (by simpa using hx) (by simpa using hy)
  have := h (fun id hid => free_lt (hfree id hid)) β G w _ R.out (lpCut R) (lend_many hr.hp hin) hno hcl
  have harr : (v :: (args.map a.eval).toList).toArray = #[v] ++ args.map a.eval := by
    apply Array.ext'; simp
  rw [harr] at this
  refine this.mono fun e w' ⟨y, G', β', x, hp', he, hQ, hwi, hpn, hgr, hcx, hrh⟩ => ?_
  subst he
  obtain ⟨β2, G2, hr2⟩ := hr.lentH hin hfree hrec hms hno hwi hpn hgr hps hcx hrh d
  exact ⟨β2, G2, _, hk x hp' hQ, hr2⟩
/-! ### An element of an array that is at hand -/
theorem pv_indexV {s : St} {x i : Operand} {t el : TypeId} {N b : Nat} {d : TypeDesc} {z : Value} {n : Int} {cs : List AV} {c : AV} [hu : TyU P t (.array N el)] [hd : TyU P el d] [hi : TyI P el z 1 b]
    (hx : s.eval x = .agg cs) (hn : s.eval i = .int n) (h0 : 0 ≤ n) (h1 : n < N) (hc : cs[n.toNat]? = some c) (hda : aggB d = false := by rfl) : PV P (.index t x i) s c :=
  pv_of fun R β G a w hr => by
    have e1 := hr.eval x; rw [hx] at e1
    have e2 := hr.eval i; rw [hn] at e2
    generalize hxv : a.eval x = vx at e1
    cases e1 with
    | agg xs hl hs =>
      have hlt : n.toNat < xs.length := by rw [← hl]; exact lt_of_get hc
      refine ⟨xs[n.toNat], hs _ _ _ hc (List.getElem?_eq_getElem hlt), fun w' d' ty pos aft g => ?_⟩
      simp [execOp, hxv, conc_int e2, Instr.index, run_underlying hu.ok, asIntOf, part, run_isAgg hd.ok, hda, run_sizeOf_i hi, h0, h1, List.getElem?_eq_getElem hlt]
end Go.Ab
