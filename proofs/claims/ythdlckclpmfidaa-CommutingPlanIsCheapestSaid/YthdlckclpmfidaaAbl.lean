/- The abstract layer, ninth half: regions that call yield under a guard. -/
import Derived.Laws.BitsLemmas
import Derived.Test.YthdlckclpmfidaaAbk
set_option linter.unusedSimpArgs false
set_option linter.unusedVariables false
set_option linter.unusedSimpArgs false
set_option linter.unusedVariables false
set_option maxRecDepth 10000
namespace Go.Ab
open Go.RowKit
variable {P : Program}
/-! ### What was written for the first iterators -/
@[go_sem] theorem ment_yl (i g : Nat) (y : YInfo) : AV.ment i (.yl g y) = (g == i) := rfl
theorem hfin_del {P : Program} {rs : Array ResultVar} {ids pins recs : List Nat} {Q : AV → Hp → Prop} {e : Exit} {s : St} {x : AV} (hrv : RV P rs s x) (he : e = .ret ∨ e = .normal) (hg : hget s.hp 1000000000 = some (ghBlk (pins.map fun i => AV.ptr i 0)))
    (hw : (AV.onl ids x && onlHp ids (hdel s.hp 1000000000)) = true) (hrk : recK (hdel s.hp 1000000000) recs = true) (hQ : Q x (hdel s.hp 1000000000)) : HFin P rs ids pins recs Q e s :=
  hfin_eq (Le.refl _) hrv (fun i bk hi => by
    rw [hget_hdel] at hi
    split at hi
    · cases hi
    · exact hi) hg hw hQ he hrk
def hsets : Hp → Hp → Hp
  | [], h => h
  | (i, b) :: r, h => hsets r (hset h i b)
@[go_sem] theorem hsets_nil (h : Hp) : hsets [] h = h := rfl
@[go_sem] theorem hsets_cons (i : Nat) (b : Blk) (r h : Hp) : hsets ((i, b) :: r) h = hsets r (hset h i b) := rfl
/-- A loop that changes these blocks alone. -/
theorem aw_loop_set {P : Program} {ι : Type} {c : Code} {fr : List AV} {hp : Hp} {Q : Exit → St → Prop} (ws : List Nat) (C : ι → Prop) (μ : ι → Nat) (sl : ι → List (Nat × AV)) (ms : ι → Hp) (i0 : ι) (h0 : C i0)
    (hs : Le ⟨fr, hp⟩ ⟨sets (sl i0) (havoc ws fr), hsets (ms i0) hp⟩)
    (hr : ∀ i, C i → ∀ K : St → Prop, (∀ s', (∃ j, C j ∧ μ j < μ i ∧ Le s' ⟨sets (sl j) (havoc ws fr), hsets (ms j) hp⟩) → K s') → AW P c ⟨sets (sl i) (havoc ws fr), hsets (ms i) hp⟩ (XThen K Q)) : AW P (.loop c) ⟨fr, hp⟩ Q :=
  aw_loop_at ws C μ sl (fun i => hsets (ms i) hp) i0 h0 hs hr
theorem aany_arms1 {ops : Array Oper} {hs : List Nat} {f : Nat} {listed : Array Bool} {s : St} {K : St → Prop} {i : Nat} (hr : Region.ready .any ops listed = [i]) (h : ArmR P ops hs f listed i s K) : AAny P ops hs (f + 1) listed s K := by
  unfold AAny
  intro R β G a w hrep hcl
  refine ⟨fun h => (by rw [hr] at h; cases h), fun k hk => ?_⟩
  have hmem := hk
  rw [hr] at hk
  simp only [List.mem_cons, List.not_mem_nil, or_false] at hk
  subst hk
  exact h R β G a w hrep hcl hmem
theorem hcall_le {f : FuncId} {args args' : List AV} {hp : Hp} {news pins : List Nat} {Q : AV → Hp → Prop} (h : HCall P f args hp news pins Q) (hl : ALeL args' args) : HCall P f args' hp news pins Q := by
  unfold HCall at h ⊢
  exact fun hle β G w vals out lp hH hno hv => h hle β G w vals out lp hH hno ⟨by rw [← (aleL_get hl).1]; exact hv.1, fun j x y hx hy => by
    have hj : j < args'.length := by have := lt_of_get hx; rw [(aleL_get hl).1]; exact this
    exact (aleL_get hl).2 j _ _ (List.getElem?_eq_getElem hj) hx G β y (hv.2 j _ y (List.getElem?_eq_getElem hj) hy)⟩
theorem armR_xY {ops : Array Oper} {hs : List Nat} {f : Nat} {listed : Array Bool} {s : St} {K : St → Prop} {d : Option Tmp} {op : Go.Op} {ty : TypeId} {pos : String} {aft : Array Edge} {j t : Nat} {b : Bool} {i : Nat} (hi : ops[i]? = some ⟨d, op, ty, pos, aft, some (j, b)⟩)
    (ht : (ops[j]?).bind (·.dst) = some t) (hc : s.fr[t]? = some (.bool b))
    (h : ∀ K' : St → Prop, (∀ s', AAny P ops hs f (listed.setIfInBounds i true) s' K → K' s') → AOpX P ⟨d, op, ty, pos, aft, none⟩ s K') : ArmR P ops hs f listed i s K := by
  intro R β G a w hrep hcl hmem
  have g1 := guard_known hrep ht hc
  have h2 := h _ (fun _ h => h)
  have h3 : AOpX P ⟨d, op, ty, pos, aft, some (j, b)⟩ s (fun s' => AAny P ops hs f (listed.setIfInBounds i true) s' K) := by
    unfold AOpX at h2 ⊢; exact h2
  unfold AOpX at h3
  unfold wpOp
  simp only [hi]
  rw [if_pos (by simp [Region.wanted, g1])]
  exact .inl (Oper.wp_mono (fun a' w' ⟨hx, β', G', s', hs', hr'⟩ => ⟨fun _ => hx, (by unfold AAny at hs'; exact hs' R β' G' a' w' hr' (hcl.set hmem))⟩) (h3 R β G a w _ hrep))
theorem armR_oY {ops : Array Oper} {hs : List Nat} {f : Nat} {listed : Array Bool} {s : St} {K : St → Prop} {d : Option Tmp} {op : Go.Op} {ty : TypeId} {pos : String} {aft : Array Edge} {j t : Nat} {b : Bool} {i : Nat} (hi : ops[i]? = some ⟨d, op, ty, pos, aft, some (j, b)⟩) (he : Go.Ab.early ops hs i = false)
    (ht : (ops[j]?).bind (·.dst) = some t) (hc : s.fr[t]? = some (.bool b))
    (h : ∀ K' : St → Prop, (∀ s', AAny P ops hs f (listed.setIfInBounds i true) s' K → K' s') → AOp P ⟨d, op, ty, pos, aft, none⟩ s K') : ArmR P ops hs f listed i s K := by
  intro R β G a w hrep hcl hmem
  have g1 := guard_known hrep ht hc
  have h2 := h _ (fun _ h => h)
  have h3 : AOp P ⟨d, op, ty, pos, aft, some (j, b)⟩ s (fun s' => AAny P ops hs f (listed.setIfInBounds i true) s' K) := by
    unfold AOp at h2 ⊢; exact h2
  unfold AOp at h3
  unfold wpOp
  simp only [hi]
  rw [if_pos (by simp [Region.wanted, g1])]
  exact .inl (Oper.wp_mono (fun a' w' ⟨β', G', s', hs', hr'⟩ => ⟨fun h => (by rw [he] at h; cases h), (by unfold AAny at hs'; exact hs' R β' G' a' w' hr' (hcl.set hmem))⟩) (h3 R β G a w _ hrep))
@[go_sem] theorem ghBlk_cs (cs : List AV) : (ghBlk cs).cs = cs := rfl
/-! ### Regions that call yield under a guard -/
theorem aopsI_unguard {all : Array Oper} {rest : List Oper} {d : Option Tmp} {op : Op} {ty : TypeId} {pos : String} {aft : Array Edge} {s : St} {K : St → Prop} {j t : Nat} {b : Bool}
    (ht : (all[j]?).bind (·.dst) = some t) (hc : s.fr[t]? = some (.bool b)) (h : AOpsI P all (⟨d, op, ty, pos, aft, none⟩ :: rest) s K) : AOpsI P all (⟨d, op, ty, pos, aft, some (j, b)⟩ :: rest) s K := by
  intro ro R β G a w hr
  have h1 := h ro R β G a w hr
  have g1 := guard_known hr ht hc
  have w1 : Region.wanted (⟨d, op, ty, pos, aft, none⟩ : Oper) (yielded all a.tmps) = true := rfl
  have w2 : Region.wanted (⟨d, op, ty, pos, aft, some (j, b)⟩ : Oper) (yielded all a.tmps) = true := by simp [Region.wanted, g1]
  simp only [wpListIn, w1, if_true] at h1
  simp only [wpListIn, w2, if_true]
  exact h1
/-! ### The entries of a map mention nothing -/
@[go_sem] theorem kvA_ment (id : Nat) (kv : List (Int × Int)) : AV.mentL id (kvA kv) = false := mentL_flat id _ kv fun _ => rfl
@[go_sem] theorem kvA_purge (id : Nat) (kv : List (Int × Int)) : AV.purgeL id (kvA kv) = kvA kv := purgeL_flat id _ kv fun _ => rfl
theorem kvA_pur (kv : List (Int × Int)) : AV.purL (kvA kv) = true := purL_flat _ kv fun _ => rfl
@[go_sem] theorem kvA_fix (ids pins : List Nat) (kv : List (Int × Int)) : AV.fixL ids pins (kvA kv) = kvA kv := fixL_pur (kvA_pur kv)
@[go_sem] theorem kvA_onl (ids : List Nat) (kv : List (Int × Int)) : AV.onlL ids (kvA kv) = true := onlL_pur (kvA_pur kv)
theorem pv_lookupSome {s : St} {t kt et : TypeId} {z : Value} {n bw : Nat} {m x : Operand} {id : Nat} {kv : List (Int × Int)} {k v : Int} {fl : Bool} [hu : TyU P t (.map kt et)] [hk : TyU P kt (.int .i64)] [hi : TyI P et z n bw]
    (hl : Go.Ab.look kv k = some v) (hm : s.eval m = .mp id) (hb : hget s.hp id = some ⟨1000000000, kvA kv, fl⟩) (hx : s.eval x = .int k) (hz : z = .int .i64 0) : PV P (.lookup t m x true) s (.tup [.int v, .bool true]) := by
  have := pv_lookupOk (P := P) (t := t) (kt := kt) (et := et) (z := z) (n := n) (bw := bw) hm hb hx hz
  rw [hl] at this
  exact this
theorem pv_lookupNone {s : St} {t kt et : TypeId} {z : Value} {n bw : Nat} {m x : Operand} {id : Nat} {kv : List (Int × Int)} {k : Int} {fl : Bool} [hu : TyU P t (.map kt et)] [hk : TyU P kt (.int .i64)] [hi : TyI P et z n bw]
    (hl : Go.Ab.look kv k = none) (hm : s.eval m = .mp id) (hb : hget s.hp id = some ⟨1000000000, kvA kv, fl⟩) (hx : s.eval x = .int k) (hz : z = .int .i64 0) : PV P (.lookup t m x true) s (.tup [.int 0, .bool false]) := by
  have := pv_lookupOk (P := P) (t := t) (kt := kt) (et := et) (z := z) (n := n) (bw := bw) hm hb hx hz
  rw [hl] at this
  exact this
/-! ### Slots that are forgotten -/
theorem weakL_set : ∀ (l : List AV) (i : Nat), WeakL l (l.set i .any)
  | [], _ => .nil
  | x :: l, 0 => .drop (weakL_refl _)
  | x :: l, i + 1 => .keep (weakL_set l i)
theorem aw_forget {c : Code} {Q : Exit → St → Prop} {hp : Hp} : ∀ (ws : List Nat) {fr : List AV}, AW P c ⟨havoc ws fr, hp⟩ Q → AW P c ⟨fr, hp⟩ Q
  | [], _, h => h
  | i :: r, fr, h => aw_le (le_weak (weakL_set fr i) (fun _ _ h => h)) (aw_forget r h)
/-! ### A call that writes an own block in place, from a walk. The slice lies in the block 1000000000. -/
def WFin (P : Program) (rs : Array ResultVar) (id : Nat) (pin : AV) (Q : AV → Blk → Prop) : Exit → St → Prop
  | .normal, s | .ret, s => ∃ s' x bk', Le s s' ∧ RV P rs s' x ∧ hget s'.hp id = some bk' ∧ hget s'.hp 1000000000 = some (ghBlk [pin]) ∧ Only id x ∧ AV.purL bk'.cs = true ∧ Q x bk'
  | _, _ => False
theorem pin_same {G G2 : Seal} {β β2 : Ids} {sz bw id off n : Nat} {v : Value} (h : Conc G β (.sl sz bw id off n) v) (h2 : Conc G2 β2 (.sl sz bw id off n) v) : β2 id = β id := by
  cases h with
  | slN h => cases h2 with
    | slN h' => rw [h, h']
  | sl h hn ht hm hb => cases h2 with
    | sl h' hn' ht' hm' hb' => rw [h, h', ← ht, ← ht']
theorem wcall_of {f : FuncId} {fn : Func} {c : Code} {args : List AV} {id sz bw off m : Nat} {bk : Blk} {Q : AV → Blk → Prop} {n : Nat} {rs : Array ResultVar} (hf : P.funcs[f]? = some fn) (hb : fn.body = some c) (hn : fn.ntmps = n) (hrs : fn.results = rs)
    (hid : id < 1000000000) (hg : (AV.mentL 1000000000 (.sl sz bw id off m :: args) || mentHp 1000000000 [(id, bk)]) = false)
    (h : AW P c ⟨(.sl sz bw id off m :: args) ++ List.replicate (n - (AV.sl sz bw id off m :: args).length) .any, [(id, bk), (1000000000, ghBlk [.sl sz bw id off m])]⟩ (WFin P rs id (.sl sz bw id off m) Q)) : WCall P f (.sl sz bw id off m :: args) id bk Q := by
  intro β G w vals out lp hH ⟨hl, hc⟩
  subst hn
  simp only [Bool.or_eq_false_iff] at hg
  obtain ⟨hg1, hg2⟩ := hg
  match vals, hl, hc with
  | v :: vs, hl, hc =>
  have hv := hc 0 _ v rfl rfl
  have hpm : AV.mentL 1000000000 [AV.sl sz bw id off m] = false := by
    simp only [AV.mentL, Bool.or_eq_false_iff] at hg1 ⊢
    exact ⟨hg1.1, trivial⟩
  have hH1 := push_gh (lp' := lp) hH 1000000000 1000000000 none (Nat.le_refl _) (Nat.le_refl _) (fr := [AV.sl sz bw id off m]) (tm := [v]) rfl (fun j x y hx hy => by
    match j, hx, hy with
    | 0, hx, hy => simp at hx hy; subst hx; subst hy; exact hv
    | j + 1, hx, hy => simp at hx) hpm hg2 (fun _ _ => rfl) (Nat.sub_self _)
  have hne : id ≠ 1000000000 := by omega
  have hβ1 : (β.set 1000000000 (.gh none)) id = β id := by simp [Ids.set, hne]
  have hc1 : ∀ (j : Nat) x y, (AV.sl sz bw id off m :: args)[j]? = some x → (v :: vs)[j]? = some y → Conc G (β.set 1000000000 (.gh none)) x y := fun j x y hx hy => (hc j x y hx hy).setId (mentL_get hg1 hx) _
  refine calls_of_aw (R := ⟨w, lentB β id, G, fun i => if i = 1000000000 then some [v] else out i, lp⟩) (β := β.set 1000000000 (.gh none)) (G := G) hf hb hrs (rep_start hl hc1 hH1) h fun e s' hq => ?_
  have key : (∃ s'' x bk', Le s' s'' ∧ RV P rs s'' x ∧ hget s''.hp id = some bk' ∧ hget s''.hp 1000000000 = some (ghBlk [AV.sl sz bw id off m]) ∧ Only id x ∧ AV.purL bk'.cs = true ∧ Q x bk') →
      ∃ s'' x, Le s' s'' ∧ RV P rs s'' x ∧ ∀ β2 G2 y w2, Conc G2 β2 x y → RepH ⟨w, lentB β id, G, fun i => if i = 1000000000 then some [v] else out i, lp⟩ β2 G2 s''.hp w2 →
      (fun (e : Ending) (w' : World) => ∃ y G' x bk', e = Ending.returned y ∧ Q x bk' ∧ Only id x ∧ AV.purL bk'.cs = true ∧ Conc G' β x y ∧ RepH ⟨w, lentB β id, G, out, lp⟩ β G' [(id, bk')] w') (.returned y) w2 := by
    rintro ⟨s'', x, bk', hle, hrv, hbk, hgh, ho, hpu, hQ⟩
    refine ⟨s'', x, hle, hrv, fun β2 G2 y w2 hcy hH2 => ?_⟩
    obtain ⟨o, ho', h7⟩ := gh_id hH2 hgh
    rcases h7 with ⟨outs, k0, _, _, _, k4⟩ | ⟨_, _, _, _, ⟨_, _, h8⟩, _⟩
    rotate_left
    · omega
    simp only [if_true] at k0
    injection k0 with k0
    subst k0
    have hpv := k4 0 (AV.sl sz bw id off m) v (by simp [ghBlk]) (by simp)
    have e := pin_same hv hpv
    have hcell : ∀ u ∈ bk'.cs, ∀ z, Conc G2 β2 u z → Conc G2 β u z := fun u hu z hz => by
      obtain ⟨j, hj⟩ := List.getElem?_of_mem hu
      exact hz.toNob (purL_get hpu hj) β
    refine ⟨y, G2, x, bk', rfl, hQ, ho, hpu, hcy.ext (fun j hj => ?_) (fun _ _ h => h), hH2.gs, fun i b hi => ?_, fun i j b t t' hi hj _ _ => ?_, ⟨hH2.keeps.os, hH2.keeps.tape, hH2.keeps.output, hH2.keeps.size, hH2.keeps.block⟩, hH2.dom, hH.idr⟩
    · by_cases hji : j = id
      · subst hji; exact e.symm
      · rw [ho j hji] at hj; cases hj
    · obtain ⟨rfl, rfl⟩ := hget_one hi
      have := hH2.blk _ _ hbk
      unfold BlkOk at this ⊢
      rw [← e]
      cases hβ : β2 id with
      | no => rw [hβ] at this; exact this
      | nil => rw [hβ] at this; exact this
      | «at» b t =>
        rw [hβ] at this
        obtain ⟨g1, g2, arr, g3, g4, g5, g6, g7⟩ := this
        exact ⟨g1, g2, arr, g3, g4, g5, g6, fun j u z hu hz => hcell u (List.mem_of_getElem? hu) z (g7 j u z hu hz)⟩
      | gh o =>
        rw [hβ] at this
        rcases gh_same this (fun _ _ h => h) hcell with ⟨outs, k0, k1, k2, k3⟩ | hm
        · refine .inl ⟨outs, by simpa [hne] using k0, k1, ?_, k3⟩
          cases o with
          | none => exact k2
          | some p => exact k2
        · exact .inr hm
    · obtain ⟨x, hx⟩ := Option.isSome_iff_exists.1 hi
      obtain ⟨y, hy⟩ := Option.isSome_iff_exists.1 hj
      exact (hget_one hx).1.symm.trans (hget_one hy).1
  cases e with
  | normal => exact ⟨.inl rfl, key hq⟩
  | ret => exact ⟨.inr rfl, key hq⟩
  | _ => exact hq.elim
theorem enterW {f : FuncId} {fn : Func} {c : Code} {args fr : List AV} {id sz bw off m : Nat} {bk : Blk} {Q : AV → Blk → Prop} {n : Nat} {rs : Array ResultVar} (hf : P.funcs[f]? = some fn) (hn : fn.ntmps = n)
    (h : AW P c ⟨fr, [(id, bk), (1000000000, ⟨1000000000, [.sl sz bw id off m], false⟩)]⟩ (WFin P rs id (.sl sz bw id off m) Q)) (hb : fn.body = some c := by rfl) (hrs : fn.results = rs := by rfl) (hid : id < 1000000000 := by decide)
    (hg : (AV.mentL 1000000000 (.sl sz bw id off m :: args) || mentHp 1000000000 [(id, bk)]) = false := by first | rfl | (simp only [go_sem, Nat.reduceBEq, Bool.or_self, Bool.or_false, Bool.false_or]; done))
    (he : (.sl sz bw id off m :: args) ++ List.replicate (n - (AV.sl sz bw id off m :: args).length) .any = fr := by simp only [go_sem, Nat.reduceAdd, Nat.reduceSub, List.replicate_succ, List.replicate_zero]; exact rfl) : WCall P f (.sl sz bw id off m :: args) id bk Q :=
  wcall_of hf hb hn hrs hid hg (by rw [he]; exact h)
theorem wfin_eq {rs : Array ResultVar} {id : Nat} {pin : AV} {Q : AV → Blk → Prop} {e : Exit} {s s' : St} {x : AV} {bk' : Blk} (hle : Le s s') (hrv : RV P rs s' x) (hbk : hget s'.hp id = some bk') (hg : hget s'.hp 1000000000 = some ⟨1000000000, [pin], false⟩)
    (ho : Only id x) (hpu : AV.purL bk'.cs = true) (hQ : Q x bk') (he : e = .ret ∨ e = .normal := by first | exact .inl rfl | exact .inr rfl) : WFin P rs id pin Q e s := by
  have : ∃ s' x bk', Le s s' ∧ RV P rs s' x ∧ hget s'.hp id = some bk' ∧ hget s'.hp 1000000000 = some (ghBlk [pin]) ∧ Only id x ∧ AV.purL bk'.cs = true ∧ Q x bk' := ⟨s', x, bk', hle, hrv, hbk, hg, ho, hpu, hQ⟩
  rcases he with rfl | rfl <;> exact this
/-! ### Words of bits -/
theorem wraps_i64 (n : Int) (h₀ : 0 ≤ n) (h₁ : n < 2 ^ 62) : IntKind.i64.wrap n = n := by rw [IntKind.wrap_i64]; omega
theorem wraps_u32 (n : Int) (h₀ : 0 ≤ n) (h₁ : n < 2 ^ 32) : IntKind.u32.wrap n = n := by rw [IntKind.wrap_u32]; omega
theorem bits_or64_pow {a : Nat} {x : Int} (hx : 0 ≤ x) (hx2 : x ≤ 61) (ha : a < 2 ^ x.toNat) : bits .or .i64 (a : Int) (1 * 2 ^ x.toNat) = ((a + 2 ^ x.toNat : Nat) : Int) := by
  have h1 : 2 ^ x.toNat < 2 ^ 62 := Nat.pow_lt_pow_right (by decide) (by omega)
  have e : (1 * 2 ^ x.toNat : Int) = ((2 ^ x.toNat : Nat) : Int) := by rw [Int.one_mul, Int.natCast_pow]; rfl
  rw [e, (bits_nat .i64 62 (by decide) wraps_i64 _ _ (by omega) h1).2]
  have := Nat.two_pow_add_eq_or_of_lt ha 1
  rw [Nat.mul_one] at this
  rw [Nat.or_comm, ← this, Nat.add_comm]
theorem bits_or32_pow {a : Nat} {x : Int} (hx : 0 ≤ x) (hx2 : x ≤ 31) (ha : a < 2 ^ x.toNat) : bits .or .u32 (a : Int) (1 * 2 ^ x.toNat) = ((a + 2 ^ x.toNat : Nat) : Int) := by
  have h1 : 2 ^ x.toNat < 2 ^ 32 := Nat.pow_lt_pow_right (by decide) (by omega)
  have e : (1 * 2 ^ x.toNat : Int) = ((2 ^ x.toNat : Nat) : Int) := by rw [Int.one_mul, Int.natCast_pow]; rfl
  rw [e, (bits_nat .u32 32 (by decide) wraps_u32 _ _ (by omega) h1).2]
  have := Nat.two_pow_add_eq_or_of_lt ha 1
  rw [Nat.mul_one] at this
  rw [Nat.or_comm, ← this, Nat.add_comm]
end Go.Ab
