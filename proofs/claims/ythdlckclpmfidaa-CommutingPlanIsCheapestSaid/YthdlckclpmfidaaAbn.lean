/- The abstract layer, fourth half: calls of the library that overwrite an own row. -/
import Derived.Lib.SlicesCompact
import Derived.Sort.Grow
import Derived.Test.YthdlckclpmfidaaAbm
set_option linter.unusedSimpArgs false
set_option linter.unusedVariables false
set_option linter.unusedSimpArgs false
set_option linter.unusedVariables false
namespace Go.Ab
open Go.RowKit Go.Sort
variable {P : Program}
/-- Called with one block of the caller's own, which it overwrites in place. -/
def WCall (P : Program) (f : FuncId) (args : List AV) (id : Nat) (bk : Blk) (Q : AV → Blk → Prop) : Prop :=
  ∀ β G w vals out lp, RepH ⟨w, lentB β id, G, out, lp⟩ β G [(id, bk)] w → ConcB G β args vals → Calls P f vals.toArray w fun e w' =>
    ∃ y G' x bk', e = .returned y ∧ Q x bk' ∧ Only id x ∧ AV.purL bk'.cs = true ∧ Conc G' β x y ∧ RepH ⟨w, lentB β id, G, out, lp⟩ β G' [(id, bk')] w'
/-- .. where the block stays in place. -/
theorem Rep.lentW {R : Rg} {β : Ids} {G : Seal} {s : St} {a : Act} {w : World} (h : Rep R β G s a w) {id : Nat} {bk : Blk} (hb : hget s.hp id = some bk)
    {w' : World} {G' : Seal} {bk' : Blk} {x : AV} {y : Value} (hox : Only id x) (hob : AV.purL bk'.cs = true) (hcx : Conc G' β x y) (hrh : RepH ⟨w, lentB β id, G, R.out, lpCut R⟩ β G' [(id, bk')] w') (d : Option Tmp) :
    ∃ G2, Rep R β G2 ⟨(St.put ⟨s.fr, []⟩ d x).fr, hset s.hp id bk'⟩ (a.put d y) w' := by
  have hkeep := hrh.keeps
  -- the lent block
  have hlent : ∀ b, lentB β id b → G b = none ∧ (R.w0.heap.size ≤ b ∨ R.ex b) ∧ b < w.heap.size := fun b ⟨t, ht⟩ => by
    obtain ⟨g1, g2, arr, g3, _⟩ := h.hp.block hb ht
    exact ⟨g1, g2, heap_lt g3⟩
  have hsame : ∀ b, b < w.heap.size → ¬ lentB β id b → w'.heap[b]? = w.heap[b]? := fun b h1 h2 => hkeep.block b h1 h2
  have hgs : ∀ b o, G b = some o → w'.heap[b]? = some o := fun b o hg => by
    have h1 := h.hp.gs b o hg
    rw [hsame b (heap_lt h1) (fun hl => by have := (hlent b hl).1; rw [hg] at this; cases this)]
    exact h1
  -- the seal
  let G3 : Seal := fun b => match G b with | some o => some o | none => G' b
  have m1 : ∀ b o, G b = some o → G3 b = some o := fun b o hb => by simp [G3, hb]
  have m2 : ∀ b o, G' b = some o → G3 b = some o := fun b o hb => by
    cases hg : G b with
    | none => simp [G3, hg, hb]
    | some o' =>
      have e1 := hgs b o' hg
      have e2 := hrh.gs b o hb
      rw [e1] at e2; injection e2 with e2; subst e2
      exact m1 b _ hg
  have m3 : ∀ b, G3 b ≠ none → G b ≠ none ∨ G' b ≠ none := fun b hb => by
    simp only [G3] at hb
    cases hg : G b with
    | some o => exact .inl (by simp)
    | none => rw [hg] at hb; exact .inr hb
  have hG' : ∀ b, G' b ≠ none → G b ≠ none ∨ w.heap.size ≤ b ∨ lentB β id b := fun b hb => hrh.dom b hb
  have hold : ∀ u v, Conc G β u v → Conc G3 β u v := fun u v hc => hc.mono m1
  have hnew : ∀ u v, Only id u → Conc G' β u v → Conc G3 β u v := fun u v _ hc => hc.mono m2
  have hblk' := hrh.blk id bk' (by simp [hget])
  -- blocks that are not the lent one
  have hother : ∀ i bk0 b t, i ≠ id → hget s.hp i = some bk0 → β i = .at b t → ¬ lentB β id b ∧ b < w.heap.size ∧ G3 b = none := fun i bk0 b t hne hi hβ => by
    obtain ⟨g1, g2, arr, g3, _⟩ := h.hp.block hi hβ
    have hnl : ¬ lentB β id b := fun ⟨t', ht'⟩ => hne (h.hp.inj i id b t t' (by rw [hi]; rfl) (by rw [hb]; rfl) hβ ht')
    refine ⟨hnl, heap_lt g3, ?_⟩
    cases hq : G3 b with
    | none => rfl
    | some o =>
      rcases m3 b (by rw [hq]; simp) with h1 | h1
      · exact absurd g1 h1
      · rcases hG' b h1 with h2 | h2 | h2
        · exact absurd g1 h2
        · have := heap_lt g3; omega
        · exact absurd h2 hnl
  have hnewb : ∀ b t, β id = .at b t → (w.heap.size ≤ b ∨ lentB β id b) ∧ G' b = none := fun b t hβ => by
    unfold BlkOk at hblk'
    rw [hβ] at hblk'
    exact ⟨hblk'.2.1, hblk'.1⟩
  have hpre : Rep R β G3 ⟨s.fr, hset s.hp id bk'⟩ a w' := by
    refine ⟨h.defers.mono m1, h.size, fun i u v hu hv => ?_, ⟨fun b o hb' => ?_, fun i bk0 hi => ?_, fun i j b t t' hi hj hbi hbj => ?_, ?_, fun b hb' => ?_, h.hp.idr⟩⟩
    · exact hold _ _ (h.fr i u v hu hv)
    · simp only [G3] at hb'
      split at hb'
      · rename_i o' hg; injection hb' with hb'; subst hb'; exact hgs b _ hg
      · exact hrh.gs b o hb'
    · rw [hget_hset] at hi
      split at hi
      · rename_i hid; subst hid; injection hi with hi; subst hi
        unfold BlkOk at hblk' ⊢
        cases hβ : β id with
        | no => rw [hβ] at hblk'; exact hblk'
        | nil => rw [hβ] at hblk'; exact hblk'
        | gh o => rw [hβ] at hblk'; exact gh_same (gh_back hblk' h.hp.keeps.size (fun b hb => (hlent b hb).2.1)) m2 fun u hu v hc => hnew u v (fun k hk => by obtain ⟨j, hj⟩ := List.getElem?_of_mem hu; exact mentL_get (mentL_pur hob) hj) hc
        | «at» b t =>
          rw [hβ] at hblk'
          obtain ⟨g1, g2, arr', g3, g4, g5, g6, g7⟩ := hblk'
          refine ⟨?_, ?_, arr', g3, g4, g5, g6, fun j u v hu hv => hnew u v (fun k hk => mentL_get (mentL_pur hob) hu) (g7 j u v hu hv)⟩
          · cases hq : G3 b with
            | none => rfl
            | some o =>
              rcases m3 b (by rw [hq]; simp) with h1 | h1
              · rcases g2 with h2 | h2
                · cases hq2 : G b with
                  | none => exact absurd hq2 h1
                  | some o2 => have := heap_lt (h.hp.gs b o2 hq2); simp only at h2; omega
                · exact absurd (hlent b h2).1 h1
              · exact absurd g1 h1
          · rcases g2 with h2 | h2
            · exact .inl (Nat.le_trans h.hp.keeps.size h2)
            · exact (hlent b h2).2.1
      · rename_i hid
        have hi1 := hi
        have := h.hp.blk i bk0 hi1
        unfold BlkOk at this ⊢
        cases hβ : β i with
        | no => rw [hβ] at this; exact this
        | nil => rw [hβ] at this; exact this
        | gh o => rw [hβ] at this; exact gh_same this m1 fun u _ v hc => hold u v hc
        | «at» b t =>
          obtain ⟨o1, o2, o3⟩ := hother i bk0 b t (Ne.symm hid) hi1 hβ
          rw [hβ] at this
          obtain ⟨g1, g2, arr', g3, g4, g5, g6, g7⟩ := this
          exact ⟨o3, g2, arr', by rw [hsame b o2 o1]; exact g3, g4, g5, g6, fun j u v hu hv => hold _ _ (g7 j u v hu hv)⟩
    · have key : ∀ i b t, i ≠ id → (hget (hset s.hp id bk') i).isSome → β i = .at b t → (hget s.hp i).isSome ∧ β i = .at b t ∧ ¬ lentB β id b ∧ b < w.heap.size := by
        intro i b t hne his hbi
        rw [hget_hset, if_neg (Ne.symm hne)] at his
        obtain ⟨bk2, hb2⟩ := Option.isSome_iff_exists.1 his
        obtain ⟨o1, o2, _⟩ := hother i bk2 b t hne hb2 hbi
        exact ⟨by rw [hb2]; rfl, hbi, o1, o2⟩
      by_cases hi' : i = id
      · by_cases hj' : j = id
        · rw [hi', hj']
        · exfalso
          subst hi'
          obtain ⟨_, _, k3, k4⟩ := key j b t' hj' hj hbj
          rcases (hnewb b t hbi).1 with h1 | h1
          · omega
          · exact k3 h1
      · by_cases hj' : j = id
        · exfalso
          subst hj'
          obtain ⟨_, _, k3, k4⟩ := key i b t hi' hi hbi
          rcases (hnewb b t' hbj).1 with h1 | h1
          · omega
          · exact k3 h1
        · obtain ⟨a1, a2, _⟩ := key i b t hi' hi hbi
          obtain ⟨c1, c2, _⟩ := key j b t' hj' hj hbj
          exact h.hp.inj i j b t t' a1 c1 a2 c2
    · have hk := h.hp.keeps
      refine ⟨hkeep.os.trans hk.os, hkeep.tape.trans hk.tape, hkeep.output.trans hk.output, Nat.le_trans hk.size hkeep.size, fun j h1 h2 => ?_⟩
      rw [hsame j (Nat.lt_of_lt_of_le h1 hk.size) (fun hl => by rcases (hlent j hl).2.1 with h3 | h3; omega; exact h2 h3)]
      exact hk.block j h1 h2
    · rcases m3 b hb' with h1 | h1
      · exact h.hp.dom b h1
      · rcases hG' b h1 with h2 | h2 | h2
        · exact h.hp.dom b h2
        · exact .inr (.inl (Nat.le_trans h.hp.keeps.size h2))
        · exact .inr (hlent b h2).2.1
  refine ⟨G3, ?_⟩
  have := hpre.put d (hnew x y hox hcx)
  cases d <;> exact this
theorem aop_callW {d : Option Tmp} {f : FuncId} {args : Array Operand} {tys : Array TypeId} {ty : TypeId} {pos : String} {aft : Array Edge} {g : Option (Nat × Bool)} {s : St} {K : St → Prop} {id : Nat} {bk : Blk} {Q : AV → Blk → Prop} [hc : TyC P f]
    (h : WCall P f (evalL s args) id bk Q) (hb : hget s.hp id = some bk) (hk : ∀ x bk', Q x bk' → K ⟨(St.put ⟨s.fr, []⟩ d x).fr, hset s.hp id bk'⟩) (hT : bk.T < 1000000000 := by first | decide | exact of_decide_eq_true rfl) :
    AOp P ⟨d, .call { callee := .value (.func f), args, argTypes := tys }, ty, pos, aft, g⟩ s K := by
  intro R β G a w Q' hr
  have hrun : (execOp a.eval ⟨d, .call { callee := .value (.func f), args, argTypes := tys }, ty, pos, aft, g⟩).run P w = .ok (.enter f (args.map a.eval)) w := by
    simp [execOp, resolve, Act.eval, Deferred.ofValue, invoke, hc.ok]
  unfold Oper.wp
  rw [hrun, Oper.upon_enter]
  have := h β G w (args.map a.eval).toList R.out (lpCut R) (lend_one hr.hp hb hT) (evalL_agg hr args)
  simp only [Array.toArray_toList] at this
  refine this.mono fun e w' ⟨y, G', x, bk', he, hQ, hox, hob, hcx, hrh⟩ => ?_
  subst he
  obtain ⟨G2, hr2⟩ := hr.lentW hb hox hob hcx hrh d
  exact ⟨β, G2, _, hk x bk' hQ, hr2⟩
/-! ### Calls of the library that overwrite an own row of integers -/
theorem heap_put (w : World) (b n : Nat) (d : Array Int) (os : Array Obj) (k : Nat) (hk : k < w.heap.size) :
    (grow (putRow (Value.int .i64) (Sort.ahead w n) b 0 d) os).heap[k]? = if b = k then (w.heap[k]?).map (onCells (putCells (Value.int .i64) 0 d)) else w.heap[k]? := by
  have e : (putRow (Value.int .i64) (Sort.ahead w n) b 0 d).heap = w.heap.modify b (onCells (putCells (Value.int .i64) 0 d)) := rfl
  show ((putRow (Value.int .i64) (Sort.ahead w n) b 0 d).heap ++ os)[k]? = _
  rw [e, Array.getElem?_append_left (by simpa using hk), Array.getElem?_modify]
theorem repH_put {out : Nat → Option (List Value)} {lp : Nat → Option (Nat × Nat × YInfo)} {β : Ids} {G : Seal} {id b t : Nat} {T : TypeId} {bk : Blk} {w : World} (h : RepH ⟨w, lentB β id, G, out, lp⟩ β G [(id, bk)] w) (hT : bk.T = T) (hβ : β id = .at b t) (d keep : List Int) (n : Nat) (os : Array Obj) (hd : d.length ≤ t) (hk : keep.length ≤ d.length) (hke : ∀ j (h : j < keep.length), keep[j] = d[j]'(by omega)) :
    RepH ⟨w, lentB β id, G, out, lp⟩ β G [(id, ⟨T, keep.map AV.int, false⟩)] (grow (putRow (Value.int .i64) (Sort.ahead w n) b 0 d.toArray) os) := by
  subst hT
  have hblk := h.blk id bk (by simp [hget])
  unfold BlkOk at hblk
  rw [hβ] at hblk
  obtain ⟨g1, g2, arr, g3, g4, g5, g6, g7⟩ := hblk
  have hsz : (grow (putRow (Value.int .i64) (Sort.ahead w n) b 0 d.toArray) os).heap.size = w.heap.size + os.size := by
    rw [size_grow]; simp [putRow, mapBlock, Sort.ahead]
  refine ⟨fun k o hg => ?_, fun i bk' hi => ?_, fun i j k t t' hi hj hbi hbj => ?_, ⟨rfl, rfl, rfl, ?_, fun k hk1 hk2 => ?_⟩, h.dom, h.idr⟩
  · have h1 := h.gs k o hg
    rw [heap_put _ _ _ _ _ _ (heap_lt h1), if_neg (fun hbk => by rw [← hbk, g1] at hg; cases hg)]
    exact h1
  · obtain ⟨rfl, rfl⟩ := hget_one hi
    unfold BlkOk
    rw [hβ]
    refine ⟨g1, g2, putCells (Value.int .i64) 0 d.toArray arr, ?_, ?_, ?_, fun h => (by cases h), fun j x y hx hy => ?_⟩
    · rw [heap_put _ _ _ _ _ _ (heap_lt g3), if_pos rfl, g3]; rfl
    · rw [← g4]; simp [putCells]
    · simp; omega
    · rw [List.getElem?_map, Option.map_eq_some_iff] at hx
      obtain ⟨z, hz, rfl⟩ := hx
      obtain ⟨hj, rfl⟩ := List.getElem?_eq_some_iff.1 hz
      simp only [putCells, Array.getElem?_mapIdx, Option.map_eq_some_iff] at hy
      obtain ⟨y0, hy0, rfl⟩ := hy
      rw [if_pos ⟨by omega, by simp; omega⟩, Nat.sub_zero, hke j hj]
      have : d.toArray[j]! = d[j]'(by omega) := by
        rw [getElem!_pos _ j (by simp; omega)]; simp
      rw [this]
      exact .v
  · obtain ⟨x, hx⟩ := Option.isSome_iff_exists.1 hi
    obtain ⟨y, hy⟩ := Option.isSome_iff_exists.1 hj
    exact (hget_one hx).1.symm.trans (hget_one hy).1
  · rw [hsz]; simp only; omega
  · have hbk : b ≠ k := fun hbk => hk2 ⟨t, by rw [← hbk]; exact hβ⟩
    rw [heap_put _ _ _ _ _ _ hk1, if_neg hbk]
theorem holds_own {out : Nat → Option (List Value)} {lp : Nat → Option (Nat × Nat × YInfo)} {β : Ids} {G : Seal} {id b t : Nat} {bk : Blk} {w : World} {xs : List Int} (h : RepH ⟨w, lentB β id, G, out, lp⟩ β G [(id, bk)] w) (hβ : β id = .at b t) (hc : bk.cs = xs.map AV.int) :
    Holds (Value.int .i64) w b 0 xs.toArray ∧ b < w.heap.size ∧ xs.length ≤ t := by
  have hblk := h.blk id bk (by simp [hget])
  unfold BlkOk at hblk
  rw [hβ, hc] at hblk
  obtain ⟨g1, g2, arr, g3, g4, g5, g6, g7⟩ := hblk
  simp only [List.length_map] at g5
  refine ⟨fun j hj => ?_, heap_lt g3, g5⟩
  have hj2 : j < xs.length := by simpa using hj
  have hja : j < arr.size := by omega
  have h1 := g7 j (.int xs[j]) arr[j] (by simp [hj2]) (by simp [hja])
  have h2 := conc_v h1
  constructor
  · simp only [World.cell?, g3, Nat.zero_add]
    rw [getElem!_pos _ j hj]
    simp [hja, h2]
  · simp [World.frozen?, g3]
def sortI (xs : List Int) : List Int := xs.mergeSort fun x y => decide (x ≤ y)
theorem wcall_sort {f : FuncId} {id bw : Nat} {T : TypeId} {xs : List Int} {fl : Bool} (hlen : xs.length ≤ 17592186044416)
    (hS : ∀ (blk off cap : Nat) (zs : List Int) (w : World), Holds (Value.int .i64) w blk off zs.toArray → blk < w.heap.size → zs.length < 4611686018427387904 →
      Calls P f #[.slice (some ⟨blk, off, none⟩) zs.length cap] w fun e w' => e = .returned (.tuple #[]) ∧ ∃ n os, w' = grow (putRow (Value.int .i64) (Sort.ahead w n) blk off (zs.mergeSort fun x y => decide (x ≤ y)).toArray) os)
    (hN : ∀ (p : Option Addr) (cap : Nat) (w : World), Calls P f #[.slice p 0 cap] w fun e w' => e = .returned (.tuple #[]) ∧ w' = w) :
    WCall P f [.sl 1 bw id 0 xs.length] id ⟨T, xs.map AV.int, fl⟩ (fun x bk => x = .tup [] ∧ bk = ⟨T, (sortI xs).map AV.int, false⟩) := by
  intro β G w vals out lp hr ⟨hvl, hv⟩
  match vals, hvl, hv with
  | [v], _, hv =>
    have h1 := hv 0 _ _ rfl rfl
    obtain ⟨n0, hn0⟩ : ∃ n, xs.length = n := ⟨_, rfl⟩
    rw [hn0] at h1
    have hsl : (sortI xs).length = xs.length := List.length_mergeSort xs
    cases h1 with
    | slN hb =>
      have hx0 : xs = [] := List.eq_nil_of_length_eq_zero hn0
      subst hx0
      refine (hN none 0 w).mono fun e w' ⟨he, hw⟩ => ?_
      subst hw
      refine ⟨_, G, _, _, he, ⟨rfl, rfl⟩, fun j hj => rfl, by simp [sortI, AV.purL], .tup [] rfl (fun j x y hx => by simp at hx), ?_⟩
      have hb2 := hr.blk id _ (by simp [hget]; rfl)
      refine ⟨hr.gs, fun i bk' hi => ?_, fun i j k t t' hi hj _ _ => ?_, hr.keeps, hr.dom, hr.idr⟩
      · obtain ⟨rfl, rfl⟩ := hget_one hi
        unfold BlkOk
        rw [hb]
        exact ⟨by simp [sortI], rfl⟩
      · obtain ⟨x, hx⟩ := Option.isSome_iff_exists.1 hi
        obtain ⟨y, hy⟩ := Option.isSome_iff_exists.1 hj
        exact (hget_one hx).1.symm.trans (hget_one hy).1
    | sl hb hn ht hm hbb =>
      subst hn0
      obtain ⟨hH, hbw, hxt⟩ := holds_own hr hb rfl
      refine (hS _ 0 _ xs w hH hbw (by omega)).mono fun e w' ⟨he, n, os, hw⟩ => ?_
      subst hw
      refine ⟨_, G, _, _, he, ⟨rfl, rfl⟩, fun j hj => rfl, purL_map AV.int _ fun _ => rfl, .tup [] rfl (fun j x y hx => by simp at hx), ?_⟩
      exact repH_put hr rfl hb (sortI xs) (sortI xs) n os (by omega) (Nat.le_refl _) (fun j hj => rfl)
theorem compact_len (xs : List Int) : (Lib.compact xs).length ≤ xs.length := by
  unfold Lib.compact Lib.compactUpTo
  rw [List.length_map]
  have := List.length_filter_le (Lib.keeps xs.toArray) (List.range xs.length)
  simpa using this
theorem wcall_compact {f : FuncId} {id bw : Nat} {T : TypeId} {xs : List Int} {fl : Bool} (hlen : xs.length ≤ 1000000)
    (hC : ∀ (blk off cap : Nat) (zs : List Int) (w : World), Holds (Value.int .i64) w blk off zs.toArray → zs.length ≤ 9223372036854775807 → zs.length ≤ cap →
      Calls P f #[.slice (some ⟨blk, off, none⟩) zs.length cap] w fun e w' => e = .returned (.slice (some ⟨blk, off, none⟩) (Lib.compact zs).length cap) ∧ ∃ q, w' = putRow (Value.int .i64) (Sort.ahead w q) blk off (Lib.compact zs ++ List.replicate (zs.length - (Lib.compact zs).length) 0).toArray)
    (hN : ∀ (p : Option Addr) (cap : Nat) (w : World), Calls P f #[.slice p 0 cap] w fun e w' => e = .returned (.slice p 0 cap) ∧ w' = w) :
    WCall P f [.sl 1 bw id 0 xs.length] id ⟨T, xs.map AV.int, fl⟩ (fun x bk => x = .sl 1 bw id 0 (Lib.compact xs).length ∧ bk = ⟨T, (Lib.compact xs).map AV.int, false⟩) := by
  intro β G w vals out lp hr ⟨hvl, hv⟩
  have hcl := compact_len xs
  match vals, hvl, hv with
  | [v], _, hv =>
    have h1 := hv 0 _ _ rfl rfl
    obtain ⟨n0, hn0⟩ : ∃ n, xs.length = n := ⟨_, rfl⟩
    rw [hn0] at h1
    have only : Only id (.sl 1 bw id 0 (Lib.compact xs).length) := fun j hj => by simp [AV.ment, Ne.symm hj]
    cases h1 with
    | slN hb =>
      have hx0 : xs = [] := List.eq_nil_of_length_eq_zero hn0
      subst hx0
      refine (hN none 0 w).mono fun e w' ⟨he, hw⟩ => ?_
      subst hw
      refine ⟨_, G, _, _, he, ⟨rfl, rfl⟩, only, rfl, .slN hb, ?_⟩
      refine ⟨hr.gs, fun i bk' hi => ?_, fun i j k t t' hi hj _ _ => ?_, hr.keeps, hr.dom, hr.idr⟩
      · obtain ⟨rfl, rfl⟩ := hget_one hi
        unfold BlkOk
        rw [hb]
        exact ⟨rfl, rfl⟩
      · obtain ⟨x, hx⟩ := Option.isSome_iff_exists.1 hi
        obtain ⟨y, hy⟩ := Option.isSome_iff_exists.1 hj
        exact (hget_one hx).1.symm.trans (hget_one hy).1
    | sl hb hn ht hm hbb =>
      subst hn0
      obtain ⟨hH, hbw, hxt⟩ := holds_own hr hb rfl
      refine (hC _ 0 _ xs w hH (by omega) hn).mono fun e w' ⟨he, q, hw⟩ => ?_
      subst hw
      have hl : (Lib.compact xs ++ List.replicate (xs.length - (Lib.compact xs).length) 0).length = xs.length := by simp; omega
      have key := repH_put hr rfl hb (Lib.compact xs ++ List.replicate (xs.length - (Lib.compact xs).length) 0) (Lib.compact xs) q #[] (by omega) (by simp) (fun j hj => by rw [List.getElem_append_left hj])
      rw [grow_empty] at key
      exact ⟨_, G, _, _, he, ⟨rfl, rfl⟩, only, purL_map AV.int _ fun _ => rfl, .sl hb (by omega) ht hm (Nat.le_trans (Nat.mul_le_mul_right _ hcl) hbb), key⟩
end Go.Ab
