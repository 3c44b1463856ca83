/- The abstract layer, sixth half: the sort of an own row of rows. -/
import Derived.Shelf.SlSortCmp.NoneTotal
import Derived.Test.YtokmhfjledbglaaAbh
set_option linter.unusedSimpArgs false
set_option linter.unusedVariables false
set_option linter.unusedSimpArgs false
set_option linter.unusedVariables false
namespace Go.Ab
open Go.RowKit Go.Sort Go.Proofs
variable {P : Program}
/-! ### slices.SortFunc at an own row of rows of integers, by slices.Compare -/
/-- A value is a slice of these integers, which lie in the world's cells. -/
def RowV (w : World) (v : Value) (xs : List Int) : Prop :=
  ∃ A c, v = .slice A xs.length c ∧ xs.length ≤ c ∧ xs.length ≤ 9223372036854775807 ∧ (0 < xs.length → ∃ b o, A = some ⟨b, o, none⟩ ∧ ∀ j (h : j < xs.length), w.cell? ⟨b, o + j, none⟩ = some (.int .i64 xs[j]))
theorem gcell_cell {G : Seal} {w : World} (hs : ∀ b o, G b = some o → w.heap[b]? = some o) {a : Addr} {v : Value} (h : gcell G a = some v) : w.cell? a = some v := by
  unfold gcell at h
  unfold World.cell?
  split at h
  · rename_i c e f hg
    rw [hs _ _ hg]
    exact h
  · cases h
theorem gcell_dom {G : Seal} {a : Addr} {v : Value} (h : gcell G a = some v) : G a.block ≠ none ∧ a.spot = none := by
  unfold gcell at h
  split at h
  · rename_i c e f hg
    refine ⟨by rw [hg]; simp, ?_⟩
    cases hq : a.spot with
    | none => rfl
    | some s => rw [hq] at h; simp at h
  · cases h
theorem addr_add0 (a : Addr) : a.add 0 = a := by simp [Addr.add]
/-- An immutable row of integers, in every world that has kept the sealed blocks. -/
theorem rowV_of {G : Seal} {β : Ids} {xs : List Int} {v : Value} (h : Conc G β (.isl 1 8 (xs.map AV.int)) v) :
    ∀ w : World, (∀ b o, G b = some o → w.heap[b]? = some o) → RowV w v xs := by
  generalize he : xs.map AV.int = es at h
  cases h with
  | isl ys hu hl2 hc hb hA hr hs =>
    intro w hw
    subst he
    simp only [List.length_map, Nat.mul_one] at hl2 hc hb hA ⊢
    refine ⟨_, _, rfl, hc, by unfold reach at hb; omega, fun h0 => ?_⟩
    have hcell : ∀ j (h : j < xs.length), ∃ a, ‹Option Addr› = some a ∧ gcell G (a.add j) = some (.int .i64 xs[j]) := fun j hj => by
      have hy : j < ys.length := by omega
      obtain ⟨a, ha, hg⟩ := hr j ys[j] (List.getElem?_eq_getElem hy)
      have hfm : ((xs.map AV.int).flatMap AV.cells)[j]? = some (AV.int xs[j]) := by
        have : (xs.map AV.int).flatMap AV.cells = xs.map AV.int := by
          clear hl2 hc hb hA hr hs hu hj h0
          induction xs with
          | nil => rfl
          | cons a r ih => rw [List.map_cons, List.flatMap_cons, ih]; rfl
        rw [this]; simp [hj]
      have := conc_int (hs j _ _ hfm (List.getElem?_eq_getElem hy))
      rw [this] at hg
      exact ⟨a, ha, hg⟩
    obtain ⟨a, ha, hg⟩ := hcell 0 h0
    rw [addr_add0] at hg
    obtain ⟨_, hsp⟩ := gcell_dom hg
    refine ⟨a.block, a.off, ?_, fun j hj => ?_⟩
    · rw [ha]; cases a; simp at hsp; subst hsp; rfl
    · obtain ⟨a', ha', hg'⟩ := hcell j hj
      rw [ha] at ha'
      injection ha' with ha'
      subst ha'
      have := gcell_cell hw hg'
      have e : a.add j = ⟨a.block, a.off + j, none⟩ := by
        cases a
        simp at hsp
        subst hsp
        unfold Addr.add
        split <;> simp_all
      rwa [e] at this
theorem heap_putE (enc : Nat → Value) (w : World) (b n : Nat) (d : Array Nat) (os : Array Obj) (k : Nat) (hk : k < w.heap.size) :
    (sortWorld enc w b 0 n d os).heap[k]? = if b = k then (w.heap[k]?).map (onCells (putCells enc 0 d)) else w.heap[k]? := by
  have e : (putRow enc (Sort.ahead w n) b 0 d).heap = w.heap.modify b (onCells (putCells enc 0 d)) := rfl
  show ((putRow enc (Sort.ahead w n) b 0 d).heap ++ os)[k]? = _
  rw [e, Array.getElem?_append_left (by simpa using hk), Array.getElem?_modify]
theorem repH_putE {out : Nat → Option (List Value)} {lp : Nat → Option (Nat × Nat)} {β : Ids} {G : Seal} {id b t : Nat} {T : TypeId} {bk : Blk} {w : World} (h : RepH ⟨w, lentB β id, G, out, lp⟩ β G [(id, bk)] w) (hT : bk.T = T) (hβ : β id = .at b t)
    (enc : Nat → Value) (d : Array Nat) (cs : List AV) (n : Nat) (os : Array Obj) (hd : d.size ≤ t) (hk : cs.length = d.size) (hke : ∀ (j : Nat) x, cs[j]? = some x → Conc G β x (enc d[j]!)) :
    RepH ⟨w, lentB β id, G, out, lp⟩ β G [(id, ⟨T, cs, false⟩)] (sortWorld enc w b 0 n d os) := by
  subst hT
  have hblk := h.blk id bk (by simp [hget])
  unfold BlkOk at hblk
  rw [hβ] at hblk
  obtain ⟨g1, g2, arr, g3, g4, g5, g6, g7⟩ := hblk
  have hsz : (sortWorld enc w b 0 n d os).heap.size = w.heap.size + os.size := by
    show (grow _ _).heap.size = _
    rw [size_grow]; simp [putRow, mapBlock, Sort.ahead]
  refine ⟨fun k o hg => ?_, fun i bk' hi => ?_, fun i j k t t' hi hj hbi hbj => ?_, ⟨rfl, rfl, rfl, ?_, fun k hk1 hk2 => ?_⟩, h.dom, h.idr⟩
  · have h1 := h.gs k o hg
    rw [heap_putE _ _ _ _ _ _ _ (heap_lt h1), if_neg (fun hbk => by rw [← hbk, g1] at hg; cases hg)]
    exact h1
  · obtain ⟨rfl, rfl⟩ := hget_one hi
    unfold BlkOk
    rw [hβ]
    refine ⟨g1, g2, putCells enc 0 d arr, ?_, ?_, ?_, fun h => (by cases h), fun j x y hx hy => ?_⟩
    · rw [heap_putE _ _ _ _ _ _ _ (heap_lt g3), if_pos rfl, g3]; rfl
    · rw [← g4]; simp [putCells]
    · simp only; omega
    · have hj : j < cs.length := (List.getElem?_eq_some_iff.1 hx).1
      simp only [putCells, Array.getElem?_mapIdx, Option.map_eq_some_iff] at hy
      obtain ⟨y0, hy0, rfl⟩ := hy
      rw [if_pos ⟨by omega, by omega⟩, Nat.sub_zero]
      exact hke j x hx
  · obtain ⟨x, hx⟩ := Option.isSome_iff_exists.1 hi
    obtain ⟨y, hy⟩ := Option.isSome_iff_exists.1 hj
    exact (hget_one hx).1.symm.trans (hget_one hy).1
  · rw [hsz]; simp only; omega
  · have hbk : b ≠ k := fun hbk => hk2 ⟨t, by rw [← hbk]; exact hβ⟩
    rw [heap_putE _ _ _ _ _ _ _ hk1, if_neg hbk]
/-- What slices.Compare answers. -/
def cmpL : List Int → List Int → Int
  | [], [] => 0
  | [], _ :: _ => -1
  | _ :: _, [] => 1
  | a :: x, b :: y => if a < b then -1 else if b < a then 1 else cmpL x y
theorem cmpL_flip : ∀ (x y : List Int), cmpL y x = - cmpL x y
  | [], [] => rfl
  | [], _ :: _ => rfl
  | _ :: _, [] => rfl
  | a :: x, b :: y => by
    have ih := cmpL_flip x y
    unfold cmpL
    by_cases h1 : a < b
    · simp [h1, show ¬ b < a by omega]
    · by_cases h2 : b < a
      · simp [h1, h2]
      · simp [h1, h2, ih]
theorem cmpL_self : ∀ (x : List Int), cmpL x x = 0
  | [] => rfl
  | a :: x => by rw [cmpL, if_neg (by omega), if_neg (by omega), cmpL_self x]
theorem cmpL_zero : ∀ {x y : List Int}, cmpL x y = 0 → x = y
  | [], [], _ => rfl
  | [], _ :: _, h => by simp [cmpL] at h
  | _ :: _, [], h => by simp [cmpL] at h
  | a :: x, b :: y, h => by
    unfold cmpL at h
    split at h
    · cases h
    · split at h
      · cases h
      · rw [cmpL_zero h, show a = b by omega]
theorem cmpL_trans : ∀ {x y z : List Int}, cmpL x y < 0 → cmpL y z < 0 → cmpL x z < 0
  | [], [], _, h, _ => by simp [cmpL] at h
  | [], _ :: _, [], _, h => by simp [cmpL] at h
  | [], _ :: _, _ :: _, _, _ => by simp [cmpL]
  | _ :: _, [], _, h, _ => by simp [cmpL] at h
  | _ :: _, _ :: _, [], _, h => by simp [cmpL] at h
  | a :: x, b :: y, c :: z, h1, h2 => by
    unfold cmpL at h1 h2 ⊢
    split at h1
    · split at h2
      · rw [if_pos (by omega)]; omega
      · split at h2
        · omega
        · rw [if_pos (by omega)]; omega
    · split at h1
      · omega
      · split at h2
        · rw [if_pos (by omega)]; omega
        · split at h2
          · omega
          · rw [if_neg (by omega), if_neg (by omega)]; exact cmpL_trans h1 h2
theorem cmpL_asym (x y : List Int) (h : cmpL x y < 0) : ¬ cmpL y x < 0 := by rw [cmpL_flip]; omega
theorem cmpL_swo {α : Type} (f : α → List Int) : SWO (ltOf fun x y => cmpL (f x) (f y)) where
  irrefl x := by simp [ltOf, cmpL_self]
  trans x y z h1 h2 := by
    simp only [ltOf, decide_eq_true_eq] at *
    exact cmpL_trans h1 h2
  ntrans x y z h1 h2 := by
    simp only [ltOf, decide_eq_false_iff_not] at *
    intro h
    by_cases hxy : f x = f y
    · rw [hxy] at h; exact h2 h
    · have h3 : cmpL (f y) (f x) < 0 := by
        rw [cmpL_flip]
        have : cmpL (f x) (f y) ≠ 0 := fun h0 => hxy (cmpL_zero h0)
        omega
      exact h2 (cmpL_trans h3 h)
theorem perm_map_range {α : Type} [Inhabited α] (d' : Array Nat) (n : Nat) (ls : List α) (hn : ls.length = n) (h : PermIn 0 n (List.range n).toArray d') : (d'.toList.map fun i => ls[i]!).Perm ls := by
  obtain ⟨h1, _, h3⟩ := h
  have hs : d'.size = n := by rw [h1]; simp
  have h3 : d'.toList.Perm (List.range n) := by
    have e1 : d'.extract 0 n = d' := by rw [← hs]; simp
    have e2 : (List.range n).toArray.extract 0 n = (List.range n).toArray := by simp
    rw [e1, e2] at h3
    simpa using h3
  have h4 := h3.map fun i => ls[i]!
  have e : (List.range n).map (fun i => ls[i]!) = ls := by
    apply List.ext_getElem
    · simp [hn]
    · intro i h1 h2
      simp [h2]
  rwa [e] at h4
theorem wcall_sortRows {f g : FuncId} {id bw : Nat} {T : TypeId} {ls : List (List Int)} {fl : Bool} (hlen : ls.length ≤ 1000000)
    (hS : ∀ (enc : Nat → Value) (cf : Nat → Nat → Int) (blk off cap : Nat) (d : Array Nat) (w : World), OneCell enc → SWO (ltOf cf) → CmpLays1 P g #[] enc cf blk off d.size w → Holds enc w blk off d → blk < w.heap.size → d.size < 4611686018427387904 →
      Calls P f #[.slice (some ⟨blk, off, none⟩) d.size cap, .func (.func g) #[] #[]] w fun e w' => e = .returned (.tuple #[]) ∧ ∃ d' n os, PermIn 0 d.size d d' ∧ SortedIn (ltOf cf) 0 d.size d' ∧ w' = sortWorld enc w blk off n d' os)
    (hN : ∀ (p : Option Addr) (cap : Nat) (fv : Value) (w : World), Calls P f #[.slice p 0 cap, fv] w fun e w' => e = .returned (.tuple #[]) ∧ w' = w)
    (hC : ∀ (xs ys : List Int) (x y : Value) (w : World), RowV w x xs → RowV w y ys → Calls P g #[x, y] w fun e w' => e = .returned (.int .i64 (cmpL xs ys)) ∧ ∃ q, w' = w.drewN q) :
    WCall P f [.sl 1 bw id 0 ls.length, .fn g []] id ⟨T, ls.map fun l => .isl 1 8 (l.map AV.int), fl⟩ (fun x bk => x = .tup [] ∧ ∃ ls' : List (List Int), ls'.Perm ls ∧ ls'.Pairwise (fun a b => ¬ cmpL b a < 0) ∧ bk = ⟨T, ls'.map fun l => .isl 1 8 (l.map AV.int), false⟩) := by
  intro β G w vals out lp hr ⟨hvl, hv⟩
  match vals, hvl, hv with
  | [v, v2], _, hv =>
    have h1 := hv 0 _ _ rfl rfl
    have h2 := hv 1 _ _ rfl rfl
    cases h2 with
    | fn xs0 hx0 _ =>
    obtain rfl : xs0 = [] := List.eq_nil_of_length_eq_zero (by simpa using hx0.symm)
    obtain ⟨n0, hn0⟩ : ∃ n, ls.length = n := ⟨_, rfl⟩
    rw [hn0] at h1
    cases h1 with
    | slN hb =>
      have hx0 : ls = [] := List.eq_nil_of_length_eq_zero hn0
      subst hx0
      refine (hN none 0 _ w).mono fun e w' ⟨he, hw⟩ => ?_
      subst hw
      refine ⟨_, G, _, _, he, ⟨rfl, [], List.Perm.refl _, List.Pairwise.nil, rfl⟩, fun j hj => rfl, by simp [AV.purL], .tup [] rfl (fun j x y hx => by simp at hx), ?_⟩
      have hb2 := hr.blk id _ (by simp [hget]; rfl)
      refine ⟨hr.gs, fun i bk' hi => ?_, fun i j k t t' hi hj _ _ => ?_, hr.keeps, hr.dom, hr.idr⟩
      · obtain ⟨rfl, rfl⟩ := hget_one hi
        unfold BlkOk
        rw [hb]
        exact ⟨by simp, rfl⟩
      · obtain ⟨x, hx⟩ := Option.isSome_iff_exists.1 hi
        obtain ⟨y, hy⟩ := Option.isSome_iff_exists.1 hj
        exact (hget_one hx).1.symm.trans (hget_one hy).1
    | sl hb hn ht hm hbb =>
      rename_i cB bB tB _hx
      subst hn0
      have hblk := hr.blk id _ (by simp [hget]; rfl)
      unfold BlkOk at hblk
      rw [hb] at hblk
      obtain ⟨g1, g2, arr, g3, g4, g5, g6, g7⟩ := hblk
      simp only [List.length_map] at g5
      by_cases hz : ls.length = 0
      · obtain rfl : ls = [] := List.eq_nil_of_length_eq_zero hz
        refine (hN _ _ _ w).mono fun e w' ⟨he, hw⟩ => ?_
        subst hw
        refine ⟨_, G, _, _, he, ⟨rfl, [], List.Perm.refl _, List.Pairwise.nil, rfl⟩, fun j hj => rfl, by simp [AV.purL], .tup [] rfl (fun j x y hx => by simp at hx), ?_⟩
        refine ⟨hr.gs, fun i bk' hi => ?_, fun i j k t t' hi hj _ _ => ?_, hr.keeps, hr.dom, hr.idr⟩
        · obtain ⟨rfl, rfl⟩ := hget_one hi
          unfold BlkOk
          rw [hb]
          exact ⟨g1, g2, arr, g3, g4, by simp, fun h => (by cases h), fun j x y hx => by simp at hx⟩
        · obtain ⟨x, hx⟩ := Option.isSome_iff_exists.1 hi
          obtain ⟨y, hy⟩ := Option.isSome_iff_exists.1 hj
          exact (hget_one hx).1.symm.trans (hget_one hy).1
      · -- the values, by number
        let cl : Nat → Nat := fun i => if i < ls.length then i else 0
        have hcl : ∀ i, cl i < ls.length := fun i => by simp only [cl]; split <;> omega
        have hca : ∀ i, cl i < arr.size := fun i => by have := hcl i; omega
        let enc : Nat → Value := fun i => arr[cl i]'(hca i)
        let cf : Nat → Nat → Int := fun i j => cmpL (ls[cl i]'(hcl i)) (ls[cl j]'(hcl j))
        have hconc : ∀ i, Conc G β (.isl 1 8 ((ls[cl i]'(hcl i)).map AV.int)) (enc i) := fun i =>
          g7 (cl i) _ _ (by rw [List.getElem?_map, List.getElem?_eq_getElem (hcl i)]; rfl) (Array.getElem?_eq_getElem (hca i))
        have hone : OneCell enc := fun i => (hconc i).one rfl
        have hbw : bB < w.heap.size := heap_lt g3
        have hd : (List.range ls.length).toArray.size = ls.length := by simp
        have hcmp : CmpLays1 P g #[] enc cf bB 0 (List.range ls.length).toArray.size w := by
          intro m os dk hdk x y
          have hkept : ∀ b' o, G b' = some o → (sortWorld enc w bB 0 m dk os).heap[b']? = some o := fun b' o hg => by
            have h1 := hr.gs b' o hg
            rw [heap_putE _ _ _ _ _ _ _ (heap_lt h1), if_neg (fun hbk => by rw [← hbk, g1] at hg; cases hg)]
            exact h1
          refine (hC _ _ _ _ _ (rowV_of (hconc x) _ hkept) (rowV_of (hconc y) _ hkept)).mono fun e w' ⟨he, q, hq⟩ => ⟨he, q, #[], by rw [hq, grow_empty]⟩
        have hH : Holds enc w bB 0 (List.range ls.length).toArray := fun j hj => by
          have hj2 : j < ls.length := by simpa using hj
          have e : (List.range ls.length).toArray[j]! = j := by rw [getElem!_pos _ j hj]; simp
          have ec : cl j = j := by simp only [cl, hj2, if_true]
          constructor
          · simp only [World.cell?, g3, Nat.zero_add, e]
            simp only [enc, ec]
            simp [show j < arr.size by omega]
          · simp [World.frozen?, g3]
        have key := hS enc cf bB 0 cB (List.range ls.length).toArray w hone (cmpL_swo fun i => ls[cl i]'(hcl i)) hcmp hH hbw (by simp; omega)
        rw [hd] at key
        refine key.mono fun e w' ⟨he, d', n, os, hp, hsd, hw⟩ => ?_
        subst hw
        have hds : d'.size = ls.length := by rw [hp.1]; simp
        have hmem : ∀ j (h : j < d'.size), d'[j] < ls.length := fun j hj => by
          have h3 := hp.2.2
          have e1 : d'.extract 0 ls.length = d' := by rw [← hds]; simp
          rw [e1] at h3
          have := h3.mem_iff (a := d'[j]) |>.1 (by simp)
          simpa using this
        refine ⟨_, G, _, _, he, ⟨rfl, d'.toList.map (fun i => ls[i]!), perm_map_range d' _ ls rfl hp, ?_, rfl⟩, fun j hj => rfl, purL_map (fun l : List Int => .isl 1 8 (l.map AV.int)) _ fun _ => rfl, .tup [] rfl (fun j x y hx => by simp at hx), ?_⟩
        · rw [List.pairwise_iff_getElem]
          intro i j hi hj hij
          simp only [List.length_map, Array.length_toList] at hi hj
          have hs1 := hsd i j (Nat.zero_le _) hij (by omega)
          rw [getElem!_pos d' i hi, getElem!_pos d' j hj] at hs1
          simp only [ltOf, decide_eq_false_iff_not, cf] at hs1
          have ei : cl d'[i] = d'[i] := by simp only [cl, hmem i hi, if_true]
          have ej : cl d'[j] = d'[j] := by simp only [cl, hmem j hj, if_true]
          simp only [ei, ej] at hs1
          simp only [List.getElem_map, Array.getElem_toList]
          rw [getElem!_pos ls d'[i] (hmem i hi), getElem!_pos ls d'[j] (hmem j hj)]
          exact hs1
        · refine repH_putE hr rfl hb enc d' _ n os (by omega) (by simp) fun j x hx => ?_
          rw [List.getElem?_map, Option.map_eq_some_iff] at hx
          obtain ⟨l, hl, rfl⟩ := hx
          rw [List.getElem?_map, Option.map_eq_some_iff] at hl
          obtain ⟨i, hi, rfl⟩ := hl
          obtain ⟨hj, rfl⟩ := List.getElem?_eq_some_iff.1 hi
          simp only [Array.length_toList] at hj
          simp only [Array.getElem_toList]
          rw [getElem!_pos d' j hj, getElem!_pos ls d'[j] (hmem j hj)]
          have ec : cl d'[j] = d'[j] := by simp only [cl, hmem j hj, if_true]
          have := hconc d'[j]
          simp only [ec] at this
          exact this
end Go.Ab
