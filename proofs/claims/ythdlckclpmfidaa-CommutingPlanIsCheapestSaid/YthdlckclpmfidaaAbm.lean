/- The abstract layer, third half: blocks that are lent and written, seals within structs. -/
import Derived.Laws.CopyRow
import Derived.Lib.SliceRun
import Derived.Test.YthdlckclpmfidaaAb
set_option linter.unusedSimpArgs false
set_option linter.unusedVariables false
namespace Go.Ab
open Go.RowKit
variable {P : Program}
/-! ### A call that is lent a block of the caller's own and may write into it -/
def Only (id : Nat) (x : AV) : Prop := ∀ j, j ≠ id → AV.ment j x = false
def OnlyL (id : Nat) (l : List AV) : Prop := ∀ j, j ≠ id → AV.mentL j l = false
def ConcB (G : Seal) (β : Ids) (args : List AV) (vals : List Value) : Prop := args.length = vals.length ∧ ∀ (j : Nat) x y, args[j]? = some x → vals[j]? = some y → Conc G β x y
def lentB (β : Ids) (id : Nat) : Nat → Prop := fun b => ∃ t, β id = .at b t
/-- Called with one block of the caller's own, of which it may hand back a part. -/
def MCall (P : Program) (f : FuncId) (args : List AV) (id : Nat) (bk : Blk) (Q : AV → Blk → Prop) : Prop :=
  ∀ β G w vals out lp, RepH ⟨w, lentB β id, G, out, lp⟩ β G [(id, bk)] w → ConcB G β args vals → Calls P f vals.toArray w fun e w' =>
    ∃ y G' β' x bk', e = .returned y ∧ Q x bk' ∧ Only id x ∧ AV.purL bk'.cs = true ∧ Conc G' β' x y ∧ RepH ⟨w, lentB β id, G, out, lp⟩ β' G' [(id, bk')] w'
theorem hget_one {id i : Nat} {bk bk' : Blk} (h : hget [(id, bk)] i = some bk') : id = i ∧ bk = bk' := by
  simp only [hget] at h
  split at h
  · rename_i hi; exact ⟨hi, by injection h⟩
  · cases h
theorem lend_one {R : Rg} {β : Ids} {G : Seal} {hp : Hp} {w : World} (h : RepH R β G hp w) {id : Nat} {bk : Blk} (hb : hget hp id = some bk) (hT : bk.T < 1000000000) : RepH ⟨w, lentB β id, G, R.out, lpCut R⟩ β G [(id, bk)] w := by
  refine ⟨h.gs, fun i bk' hi => ?_, fun i j b t t' hi hj _ _ => ?_, ⟨rfl, rfl, rfl, Nat.le_refl _, fun _ _ _ => rfl⟩, fun b hb => .inl hb, h.idr⟩
  · obtain ⟨rfl, rfl⟩ := hget_one hi
    have := h.blk _ _ hb
    unfold BlkOk at this ⊢
    cases hβ : β id with
    | no => rw [hβ] at this; exact this
    | nil => rw [hβ] at this; exact this
    | «at» b t =>
      rw [hβ] at this
      obtain ⟨g1, _, g3⟩ := this
      exact ⟨g1, .inr ⟨t, hβ⟩, g3⟩
    | gh o => rw [hβ] at this; exact absurd hT (Nat.not_lt.2 (GhB.big this).2)
  · obtain ⟨x, hx⟩ := Option.isSome_iff_exists.1 hi
    obtain ⟨y, hy⟩ := Option.isSome_iff_exists.1 hj
    exact (hget_one hx).1.symm.trans (hget_one hy).1
/-- The state once the block has been written and handed back. -/
theorem Rep.lent {R : Rg} {β : Ids} {G : Seal} {s : St} {a : Act} {w : World} (h : Rep R β G s a w) {id : Nat} {bk : Blk} (hb : hget s.hp id = some bk)
    {w' : World} {G' : Seal} {β' : Ids} {bk' : Blk} {x : AV} {y : Value} (hox : Only id x) (hob : AV.purL bk'.cs = true) (hcx : Conc G' β' x y) (hrh : RepH ⟨w, lentB β id, G, R.out, lpCut R⟩ β' G' [(id, bk')] w') (d : Option Tmp) :
    ∃ β2 G2, Rep R β2 G2 ⟨(St.put ⟨AV.purgeL id s.fr, []⟩ d x).fr, hset (purgeHp id s.hp) id bk'⟩ (a.put d y) w' := by
  have hkeep := hrh.keeps
  -- the lent block
  have hlent : ∀ b, lentB β id b → G b = none ∧ (R.w0.heap.size ≤ b ∨ R.ex b) ∧ b < w.heap.size := fun b ⟨t, ht⟩ => by
    obtain ⟨g1, g2, arr, g3, _⟩ := h.hp.block hb ht
    exact ⟨g1, g2, heap_lt g3⟩
  have hsame : ∀ b, b < w.heap.size → ¬ lentB β id b → w'.heap[b]? = w.heap[b]? := fun b h1 h2 => hkeep.block b h1 h2
  have hgs : ∀ b o, G b = some o → w'.heap[b]? = some o := fun b o hg => by
    have h1 := h.hp.gs b o hg
    rw [hsame b (heap_lt h1) (fun hl => by have := (hlent b hl).1; rw [hg] at this; cases this)]
    exact h1
  -- the seal
  let G3 : Seal := fun b => match G b with | some o => some o | none => G' b
  have m1 : ∀ b o, G b = some o → G3 b = some o := fun b o hb => by simp [G3, hb]
  have m2 : ∀ b o, G' b = some o → G3 b = some o := fun b o hb => by
    cases hg : G b with
    | none => simp [G3, hg, hb]
    | some o' =>
      have e1 := hgs b o' hg
      have e2 := hrh.gs b o hb
      rw [e1] at e2; injection e2 with e2; subst e2
      exact m1 b _ hg
  have m3 : ∀ b, G3 b ≠ none → G b ≠ none ∨ G' b ≠ none := fun b hb => by
    simp only [G3] at hb
    cases hg : G b with
    | some o => exact .inl (by simp)
    | none => rw [hg] at hb; exact .inr hb
  have hG' : ∀ b, G' b ≠ none → G b ≠ none ∨ w.heap.size ≤ b ∨ lentB β id b := fun b hb => hrh.dom b hb
  let β2 : Ids := fun i => if i = id then β' id else β i
  have b1 : β2 id = β' id := by simp [β2]
  have b2 : ∀ i, i ≠ id → β2 i = β i := fun i hi => by simp [β2, hi]
  have hold : ∀ u v, Conc G β u v → Conc G3 β2 (AV.purge id u) v := fun u v hc => (hc.mono m1).purged b2
  have hnew : ∀ u v, Only id u → Conc G' β' u v → Conc G3 β2 u v := fun u v ho hc => hc.ext (fun i hm => by
    by_cases hi : i = id
    · subst hi; exact b1
    · rw [ho i hi] at hm; cases hm) m2
  have hblk' := hrh.blk id bk' (by simp [hget])
  -- blocks that are not the lent one
  have hother : ∀ i bk0 b t, i ≠ id → hget s.hp i = some bk0 → β i = .at b t → ¬ lentB β id b ∧ b < w.heap.size ∧ G3 b = none := fun i bk0 b t hne hi hβ => by
    obtain ⟨g1, g2, arr, g3, _⟩ := h.hp.block hi hβ
    have hnl : ¬ lentB β id b := fun ⟨t', ht'⟩ => hne (h.hp.inj i id b t t' (by rw [hi]; rfl) (by rw [hb]; rfl) hβ ht')
    refine ⟨hnl, heap_lt g3, ?_⟩
    cases hq : G3 b with
    | none => rfl
    | some o =>
      rcases m3 b (by rw [hq]; simp) with h1 | h1
      · exact absurd g1 h1
      · rcases hG' b h1 with h2 | h2 | h2
        · exact absurd g1 h2
        · have := heap_lt g3; omega
        · exact absurd h2 hnl
  have hnewb : ∀ b t, β' id = .at b t → (w.heap.size ≤ b ∨ lentB β id b) ∧ G' b = none := fun b t hβ => by
    unfold BlkOk at hblk'
    rw [hβ] at hblk'
    exact ⟨hblk'.2.1, hblk'.1⟩
  have hpre : Rep R β2 G3 ⟨AV.purgeL id s.fr, hset (purgeHp id s.hp) id bk'⟩ a w' := by
    refine ⟨h.defers.mono m1, by simp [purgeL_len, h.size], fun i u v hu hv => ?_, ⟨fun b o hb' => ?_, fun i bk0 hi => ?_, fun i j b t t' hi hj hbi hbj => ?_, ?_, fun b hb' => ?_, fun i hi => ?_⟩⟩
    · rw [purgeL_get, Option.map_eq_some_iff] at hu
      obtain ⟨u0, hu0, rfl⟩ := hu
      exact hold _ _ (h.fr i u0 v hu0 hv)
    · simp only [G3] at hb'
      split at hb'
      · rename_i o' hg; injection hb' with hb'; subst hb'; exact hgs b _ hg
      · exact hrh.gs b o hb'
    · rw [hget_hset] at hi
      split at hi
      · rename_i hid; subst hid; injection hi with hi; subst hi
        unfold BlkOk at hblk' ⊢
        rw [b1]
        cases hβ : β' id with
        | no => rw [hβ] at hblk'; exact hblk'
        | nil => rw [hβ] at hblk'; exact hblk'
        | gh o => rw [hβ] at hblk'; exact gh_same (gh_back hblk' h.hp.keeps.size (fun b hb => (hlent b hb).2.1)) m2 fun u hu v hc => hnew u v (fun k hk => by obtain ⟨j, hj⟩ := List.getElem?_of_mem hu; exact mentL_get (mentL_pur hob) hj) hc
        | «at» b t =>
          rw [hβ] at hblk'
          obtain ⟨g1, g2, arr', g3, g4, g5, g6, g7⟩ := hblk'
          refine ⟨?_, ?_, arr', g3, g4, g5, g6, fun j u v hu hv => hnew u v (fun k hk => mentL_get (mentL_pur hob) hu) (g7 j u v hu hv)⟩
          · cases hq : G3 b with
            | none => rfl
            | some o =>
              rcases m3 b (by rw [hq]; simp) with h1 | h1
              · rcases g2 with h2 | h2
                · cases hq2 : G b with
                  | none => exact absurd hq2 h1
                  | some o2 => have := heap_lt (h.hp.gs b o2 hq2); simp only at h2; omega
                · exact absurd (hlent b h2).1 h1
              · exact absurd g1 h1
          · rcases g2 with h2 | h2
            · exact .inl (Nat.le_trans h.hp.keeps.size h2)
            · exact (hlent b h2).2.1
      · rename_i hid
        rw [hget_purgeHp, if_neg hid, Option.map_eq_some_iff] at hi
        obtain ⟨bk1, hi1, rfl⟩ := hi
        have := h.hp.blk i bk1 hi1
        unfold BlkOk at this ⊢
        rw [b2 i (Ne.symm hid)]
        cases hβ : β i with
        | no => rw [hβ] at this; exact this
        | nil => rw [hβ] at this; exact ⟨by rw [this.1]; rfl, this.2⟩
        | gh o => rw [hβ] at this; exact gh_mono this m1 (AV.purge id) (fun u _ v hc => hold u v hc) _ (purgeL_eq _ _)
        | «at» b t =>
          obtain ⟨o1, o2, o3⟩ := hother i bk1 b t (Ne.symm hid) hi1 hβ
          rw [hβ] at this
          obtain ⟨g1, g2, arr', g3, g4, g5, g6, g7⟩ := this
          refine ⟨o3, g2, arr', by rw [hsame b o2 o1]; exact g3, g4, by simpa [purgeL_len] using g5, by simpa [purgeL_len] using g6, fun j u v hu hv => ?_⟩
          simp only [purgeL_get, Option.map_eq_some_iff] at hu
          obtain ⟨u0, hu0, rfl⟩ := hu
          exact hold _ _ (g7 j u0 v hu0 hv)
    · have key : ∀ i b t, i ≠ id → (hget (hset (purgeHp id s.hp) id bk') i).isSome → β2 i = .at b t → (hget s.hp i).isSome ∧ β i = .at b t ∧ ¬ lentB β id b ∧ b < w.heap.size := by
        intro i b t hne his hbi
        rw [hget_hset, if_neg (Ne.symm hne), hget_purgeHp, if_neg (Ne.symm hne)] at his
        rw [b2 i hne] at hbi
        obtain ⟨bk1, hb1⟩ := Option.isSome_iff_exists.1 his
        rw [Option.map_eq_some_iff] at hb1
        obtain ⟨bk2, hb2, _⟩ := hb1
        obtain ⟨o1, o2, _⟩ := hother i bk2 b t hne hb2 hbi
        exact ⟨by rw [hb2]; rfl, hbi, o1, o2⟩
      by_cases hi' : i = id
      · by_cases hj' : j = id
        · rw [hi', hj']
        · exfalso
          subst hi'
          rw [b1] at hbi
          obtain ⟨_, _, k3, k4⟩ := key j b t' hj' hj hbj
          rcases (hnewb b t hbi).1 with h1 | h1
          · omega
          · exact k3 h1
      · by_cases hj' : j = id
        · exfalso
          subst hj'
          rw [b1] at hbj
          obtain ⟨_, _, k3, k4⟩ := key i b t hi' hi hbi
          rcases (hnewb b t' hbj).1 with h1 | h1
          · omega
          · exact k3 h1
        · obtain ⟨a1, a2, _⟩ := key i b t hi' hi hbi
          obtain ⟨c1, c2, _⟩ := key j b t' hj' hj hbj
          exact h.hp.inj i j b t t' a1 c1 a2 c2
    · have hk := h.hp.keeps
      refine ⟨hkeep.os.trans hk.os, hkeep.tape.trans hk.tape, hkeep.output.trans hk.output, Nat.le_trans hk.size hkeep.size, fun j h1 h2 => ?_⟩
      rw [hsame j (Nat.lt_of_lt_of_le h1 hk.size) (fun hl => by rcases (hlent j hl).2.1 with h3 | h3; omega; exact h2 h3)]
      exact hk.block j h1 h2
    · rcases m3 b hb' with h1 | h1
      · exact h.hp.dom b h1
      · rcases hG' b h1 with h2 | h2 | h2
        · exact h.hp.dom b h2
        · exact .inr (.inl (Nat.le_trans h.hp.keeps.size h2))
        · exact .inr (hlent b h2).2.1
    · by_cases he : i = id
      · subst he; rw [b1] at hi; exact hrh.idr _ hi
      · rw [b2 i he] at hi; exact h.hp.idr i hi
  refine ⟨β2, G3, ?_⟩
  have := hpre.put d (hnew x y hox hcx)
  cases d <;> exact this
theorem aop_callM {d : Option Tmp} {f : FuncId} {args : Array Operand} {tys : Array TypeId} {ty : TypeId} {pos : String} {aft : Array Edge} {g : Option (Nat × Bool)} {s : St} {K : St → Prop} {id : Nat} {bk : Blk} {Q : AV → Blk → Prop} [hc : TyC P f]
    (h : MCall P f (evalL s args) id bk Q) (hb : hget s.hp id = some bk) (hk : ∀ x bk', Q x bk' → K ⟨(St.put ⟨AV.purgeL id s.fr, []⟩ d x).fr, hset (purgeHp id s.hp) id bk'⟩) (hT : bk.T < 1000000000 := by decide) :
    AOp P ⟨d, .call { callee := .value (.func f), args, argTypes := tys }, ty, pos, aft, g⟩ s K := by
  intro R β G a w Q' hr
  have hrun : (execOp a.eval ⟨d, .call { callee := .value (.func f), args, argTypes := tys }, ty, pos, aft, g⟩).run P w = .ok (.enter f (args.map a.eval)) w := by
    simp [execOp, resolve, Act.eval, Deferred.ofValue, invoke, hc.ok]
  unfold Oper.wp
  rw [hrun, Oper.upon_enter]
  have := h β G w (args.map a.eval).toList R.out (lpCut R) (lend_one hr.hp hb hT) (evalL_agg hr args)
  simp only [Array.toArray_toList] at this
  refine this.mono fun e w' ⟨y, G', β', x, bk', he, hQ, hox, hob, hcx, hrh⟩ => ?_
  subst he
  obtain ⟨β2, G2, hr2⟩ := hr.lent hb hox hob hcx hrh d
  exact ⟨β2, G2, _, hk x bk' hQ, hr2⟩
end Go.Ab

set_option linter.unusedSimpArgs false
namespace Go.Ab
open Go.RowKit
variable {P : Program}
def MFin (P : Program) (rs : Array ResultVar) (id : Nat) (Q : AV → Blk → Prop) : Exit → St → Prop
  | .normal, s | .ret, s => ∃ s' x bk', Le s s' ∧ RV P rs s' x ∧ hget s'.hp id = some bk' ∧ Only id x ∧ AV.purL bk'.cs = true ∧ Q x bk'
  | _, _ => False
theorem mcall_of {f : FuncId} {fn : Func} {c : Code} {args : List AV} {id : Nat} {bk : Blk} {Q : AV → Blk → Prop} {n : Nat} {rs : Array ResultVar} (hf : P.funcs[f]? = some fn) (hb : fn.body = some c) (hn : fn.ntmps = n) (hrs : fn.results = rs)
    (h : AW P c ⟨args ++ List.replicate (n - args.length) .any, [(id, bk)]⟩ (MFin P rs id Q)) : MCall P f args id bk Q := by
  intro β G w vals out lp hH ⟨hl, hc⟩
  subst hn
  refine calls_of_aw (R := ⟨w, lentB β id, G, out, lp⟩) (β := β) (G := G) hf hb hrs (rep_start hl hc hH) h fun e s' hq => ?_
  have key : (∃ s'' x bk', Le s' s'' ∧ RV P rs s'' x ∧ hget s''.hp id = some bk' ∧ Only id x ∧ AV.purL bk'.cs = true ∧ Q x bk') → ∃ s'' x, Le s' s'' ∧ RV P rs s'' x ∧ ∀ β2 G2 y w2, Conc G2 β2 x y → RepH ⟨w, lentB β id, G, out, lp⟩ β2 G2 s''.hp w2 →
      (fun (e : Ending) (w' : World) => ∃ y G' β' x bk', e = Ending.returned y ∧ Q x bk' ∧ Only id x ∧ AV.purL bk'.cs = true ∧ Conc G' β' x y ∧ RepH ⟨w, lentB β id, G, out, lp⟩ β' G' [(id, bk')] w') (.returned y) w2 := by
    rintro ⟨s'', x, bk', hle, hrv, hbk, ho, hpu, hQ⟩
    refine ⟨s'', x, hle, hrv, fun β2 G2 y w2 hcy hH => ⟨y, G2, β2, x, bk', rfl, hQ, ho, hpu, hcy, hH.gs, fun i b hi => ?_, fun i j b t t' hi hj _ _ => ?_, hH.keeps, hH.dom, hH.idr⟩⟩
    · obtain ⟨rfl, rfl⟩ := hget_one hi
      exact hH.blk _ _ hbk
    · obtain ⟨x, hx⟩ := Option.isSome_iff_exists.1 hi
      obtain ⟨y, hy⟩ := Option.isSome_iff_exists.1 hj
      exact (hget_one hx).1.symm.trans (hget_one hy).1
  cases e with
  | normal => exact ⟨.inl rfl, key hq⟩
  | ret => exact ⟨.inr rfl, key hq⟩
  | _ => exact hq.elim
theorem enterM {f : FuncId} {fn : Func} {c : Code} {args fr : List AV} {id : Nat} {bk : Blk} {Q : AV → Blk → Prop} {n : Nat} {rs : Array ResultVar} (hf : P.funcs[f]? = some fn) (hn : fn.ntmps = n)
     (h : AW P c ⟨fr, [(id, bk)]⟩ (MFin P rs id Q)) (hb : fn.body = some c := by rfl) (hrs : fn.results = rs := by rfl) (he : args ++ List.replicate (n - args.length) .any = fr := by simp only [go_sem, Nat.reduceAdd, Nat.reduceSub, List.replicate_succ, List.replicate_zero]; exact rfl) : MCall P f args id bk Q := mcall_of hf hb hn hrs (by rw [he]; exact h)
theorem mfin_le {rs : Array ResultVar} {id : Nat} {Q : AV → Blk → Prop} {e : Exit} {s s' : St} {x : AV} {bk' : Blk} (hle : Le s s') (hrv : RV P rs s' x) (hb : hget s'.hp id = some bk') (ho : Only id x) (hp : AV.purL bk'.cs = true) (hQ : Q x bk')
    (he : e = .ret ∨ e = .normal := by first | exact .inl rfl | exact .inr rfl) : MFin P rs id Q e s := by
  have : ∃ s' x bk', Le s s' ∧ RV P rs s' x ∧ hget s'.hp id = some bk' ∧ Only id x ∧ AV.purL bk'.cs = true ∧ Q x bk' := ⟨s', x, bk', hle, hrv, hb, ho, hp, hQ⟩
  rcases he with rfl | rfl <;> exact this
theorem only_sl {sz bw id off n : Nat} : Only id (.sl sz bw id off n) := fun j hj => by simp [AV.ment, Ne.symm hj]

/-! An own block is written in place. -/
theorem setRow_grown {w : World} {b : Nat} {arr arr' : Array Value} {T : TypeId} (_hb : w.heap[b]? = some (.cells arr T (0, 0))) : w.grownBy (w.setRow b arr') (some b) :=
  ⟨rfl, rfl, rfl, by simp, fun k _ hk => setRow_other w b k arr' (fun e => hk (by rw [e]))⟩
def PW (G : Seal) (β : Ids) (cs : List AV) (l : List Value) : Prop := ∀ (i : Nat) x y, cs[i]? = some x → l[i]? = some y → Conc G β x y
theorem PW.take {G : Seal} {β : Ids} {cs : List AV} {l : List Value} (h : PW G β cs l) (n : Nat) : PW G β (cs.take n) (l.take n) := fun i x y hx hy => by
  rw [List.getElem?_take] at hx hy
  split at hx
  · rename_i hi; rw [if_pos hi] at hy; exact h i x y hx hy
  · cases hx
theorem PW.drop {G : Seal} {β : Ids} {cs : List AV} {l : List Value} (h : PW G β cs l) (n : Nat) : PW G β (cs.drop n) (l.drop n) := fun i x y hx hy => by
  rw [List.getElem?_drop] at hx hy; exact h _ x y hx hy
theorem PW.append {G : Seal} {β : Ids} {a b : List AV} {l m : List Value} (h : PW G β a l) (k : PW G β b m) (hl : a.length = l.length) : PW G β (a ++ b) (l ++ m) := fun i x y hx hy => by
  by_cases hi : i < a.length
  · rw [List.getElem?_append_left hi] at hx
    rw [List.getElem?_append_left (by omega)] at hy
    exact h i x y hx hy
  · rw [List.getElem?_append_right (by omega)] at hx
    rw [List.getElem?_append_right (by omega)] at hy
    exact k _ x y hx (by rw [hl]; exact hy)
theorem conc_pur {G : Seal} {β β' : Ids} {x : AV} {y : Value} (h : Conc G β x y) (hp : x.pur = true) : Conc G β' x y := h.toNob hp β'
theorem aop_appendTail {d : Tmp} {t el : TypeId} {x y : Operand} {sz bw id m j k : Nat} {z : Value} {bk : Blk} {ty : TypeId} {pos : String} {aft : Array Edge} {g : Option (Nat × Bool)} {s : St} {K : St → Prop}
    [hu : TyU P t (.slice el)] [hi : TyI P el z sz bw]
    (hx : s.eval x = .sl sz bw id 0 m) (hb : hget s.hp id = some bk) (hy : s.eval y = slW sz bw id (j * sz) k) (hT : bk.T = el) (hpu : AV.purL bk.cs = true) (h1 : allOne bk.cs = true) (hmj : m ≤ j) (hl : (j + k) * sz ≤ bk.cs.length) (hs : 0 < sz) (hbytes : (m + k) * bw ≤ 140737488355328)
    (hk : K ⟨(AV.purgeL id s.fr).set d (.sl sz bw id 0 (m + k)), hset (purgeHp id s.hp) id ⟨el, bk.cs.take (m * sz) ++ (bk.cs.drop (j * sz)).take (k * sz) ++ bk.cs.drop (m * sz + k * sz), bk.full⟩⟩) :
    AOp P ⟨some d, .call { callee := .builtin .append, args := #[x, y], argTypes := #[t, t] }, ty, pos, aft, g⟩ s K := by
  intro R β G a w Q hr
  have e1 := hr.eval x; rw [hx] at e1
  have e2 := hr.eval y; rw [hy] at e2
  generalize hxv : a.eval x = vx at e1
  generalize hyv : a.eval y = vy at e2
  obtain ⟨i0, hi0, hz0, hs0, hb0⟩ := hi.ok
  have hjk : (j + k) * sz = j * sz + k * sz := Nat.add_mul _ _ _
  have hmjz : m * sz ≤ j * sz := Nat.mul_le_mul_right _ hmj
  have hexec : ∀ r w', (Builtin.append_ #[t, t] ty #[vx, vy]).run P w = .ok r w' → (execOp a.eval ⟨some d, .call { callee := .builtin .append, args := #[x, y], argTypes := #[t, t] }, ty, pos, aft, g⟩).run P w = .ok (.value r) w' := by
    intro r w' h
    simp [execOp, resolve, invoke, builtin, hxv, hyv, h]
  unfold Oper.wp
  cases e1 with
  | slN hβ =>
    have h0 := hr.hp.blk id bk hb
    unfold BlkOk at h0
    rw [hβ] at h0
    have hk0 : k = 0 := by
      rw [h0.1] at hl
      rcases Nat.eq_zero_or_pos k with h | h
      · exact h
      · have : 0 < (j + k) * sz := Nat.mul_pos (by omega) hs
        simp at hl; omega
    subst hk0
    simp only [slW, if_true] at e2
    obtain ⟨A, c, rfl, _⟩ : ∃ A c, vy = .slice A 0 c ∧ True := by
      generalize hq : AV.isl sz bw [] = q at e2
      cases e2 with
      | isl ys hu' hl' => injection hq with _ _ q3; subst q3; exact ⟨_, _, rfl, trivial⟩
      | _ => cases hq
    have hrun : (Builtin.append_ #[t, t] ty #[.slice none 0 0, .slice A 0 c]).run P w = .ok (.slice none 0 0) w := by
      cases A with
      | none => exact run_append_nilsrc (P := P) w t ty el i0 hu.ok hi0 none 0 0 c (fun _ => ⟨rfl, rfl⟩) (Nat.le_refl _)
      | some ad =>
        have hf := run_firstCells_some (P := P) w i0.size 0 ad 0 c [] (by simp) (by simp)
        simp [Builtin.append_, run_underlying hu.ok, sizeOf, typeInfo, hi0, Builtin.lenOf, hf]
    rw [hexec _ _ hrun, Oper.upon_value]
    have hrep := hr.regrow (id := id) (World.grownBy.refl w none) (fun _ h => by cases h) (by rw [hb]; rfl) (hr.hp.idr _ (by first | exact .inl hβ | exact .inr ⟨_, _, hβ⟩)) .nil ⟨el, bk.cs.take (0 * sz) ++ (bk.cs.drop (j * sz)).take (0 * sz) ++ bk.cs.drop (0 * sz + 0 * sz), bk.full⟩ ⟨by simp [h0.1], h0.2⟩
    exact ⟨_, _, _, hk, hrep.put (some d) (.slN (by simp [Ids.set]))⟩
  | @sl _ _ _ _ _ _ cap b tt hβ hn ht hm hbw =>
    obtain ⟨g1, g2, arr, g3, g4, g5, g6, g7⟩ := hr.hp.block hb hβ
    rw [hT] at g3
    have hcs : arr.size = cap * sz := by rw [g4, ← ht]; omega
    have hjc : j + k ≤ cap := by
      have : (j + k) * sz ≤ cap * sz := by omega
      exact Nat.le_of_mul_le_mul_right this hs
    have hrow : ∀ b', some b = some b' → ∃ t, β id = .at b' t := fun b' h => by injection h with h; subst h; exact ⟨tt, hβ⟩
    have hpw : PW G β bk.cs arr.toList := fun i u v hu' hv => g7 i u v hu' (by simpa using hv)
    have hlen : arr.toList.length = arr.size := by simp
    have hcl : bk.cs.length ≤ arr.size := by omega
    have hones : ∀ u ∈ (arr.toList.drop (j * sz)).take (k * sz), u.oneCell' = true := fun u hm => by
      obtain ⟨i, hi⟩ := List.getElem?_of_mem hm
      rw [List.getElem?_take] at hi
      split at hi
      · rename_i hik
        rw [List.getElem?_drop] at hi
        have hlt : j * sz + i < bk.cs.length := by omega
        exact (hpw _ _ u (List.getElem?_eq_getElem hlt) hi).one (allOne_get h1 (List.getElem?_eq_getElem hlt))
      · cases hi
    -- the end
    have fin : ∀ (news : List Value), news = (arr.toList.drop (j * sz)).take (k * sz) → (Builtin.append_ #[t, t] ty #[.slice (some ⟨b, 0, none⟩) m cap, vy]).run P w = .ok (.slice (some ⟨b, 0, none⟩) (m + k) cap) (w.setRow b (arr.toList.take (m * sz) ++ news ++ arr.toList.drop (m * sz + news.length)).toArray) →
        Oper.upon P ⟨some d, .call { callee := .builtin .append, args := #[x, y], argTypes := #[t, t] }, ty, pos, aft, g⟩ a (RK R K) Q ((execOp a.eval ⟨some d, .call { callee := .builtin .append, args := #[x, y], argTypes := #[t, t] }, ty, pos, aft, g⟩).run P w) := by
      intro news hnews hrun
      rw [hexec _ _ hrun, Oper.upon_value]
      have hnl : news.length = k * sz := by rw [hnews]; simp; omega
      rw [hnl]
      have hsz : (arr.toList.take (m * sz) ++ news ++ arr.toList.drop (m * sz + k * sz)).toArray.size = tt := by
        simp only [List.size_toArray, List.length_append, List.length_take, List.length_drop, hnl, hlen]
        omega
      have hrep := hr.regrow (id := id) (setRow_grown (arr' := (arr.toList.take (m * sz) ++ news ++ arr.toList.drop (m * sz + k * sz)).toArray) g3) hrow (by rw [hb]; rfl) (hr.hp.idr _ (by first | exact .inl hβ | exact .inr ⟨_, _, hβ⟩)) (.at b tt)
        ⟨el, bk.cs.take (m * sz) ++ (bk.cs.drop (j * sz)).take (k * sz) ++ bk.cs.drop (m * sz + k * sz), bk.full⟩
        ⟨.inl rfl, _, setRow_heap w b arr _ el (0, 0) g3, hsz, by
          simp only [List.length_append, List.length_take, List.length_drop]; omega, fun hf => by
          have := g6 hf
          simp only [List.length_append, List.length_take, List.length_drop]; omega, fun i u v hu' hv => by
          have hh : PW G β (bk.cs.take (m * sz) ++ (bk.cs.drop (j * sz)).take (k * sz) ++ bk.cs.drop (m * sz + k * sz)) (arr.toList.take (m * sz) ++ news ++ arr.toList.drop (m * sz + k * sz)) := by
            rw [hnews]
            exact ((hpw.take _).append ((hpw.drop _).take _) (by simp only [List.length_take, hlen]; omega)).append (hpw.drop _) (by simp only [List.length_append, List.length_take, List.length_drop, hlen]; omega)
          refine conc_pur (hh i u v hu' (by simpa using hv)) ?_
          have hm2 := List.mem_of_getElem? hu'
          have hm3 : u ∈ bk.cs := by
            rcases List.mem_append.1 hm2 with h | h
            · rcases List.mem_append.1 h with h | h
              · exact List.mem_of_mem_take h
              · exact List.mem_of_mem_drop (List.mem_of_mem_take h)
            · exact List.mem_of_mem_drop h
          obtain ⟨q, hq⟩ := List.getElem?_of_mem hm3
          exact purL_get hpu hq⟩
      exact ⟨_, _, _, hk, hrep.put (some d) (.sl (t := tt) (by simp [Ids.set]) (by omega) ht hm hbytes)⟩
    rcases Nat.eq_zero_or_pos k with hk0 | hk0
    · subst hk0
      simp only [slW, if_true] at e2
      obtain ⟨A, c, rfl, _⟩ : ∃ A c, vy = .slice A 0 c ∧ True := by
        generalize hq : AV.isl sz bw [] = q at e2
        cases e2 with
        | isl ys hu' hl' => injection hq with _ _ q3; subst q3; exact ⟨_, _, rfl, trivial⟩
        | _ => cases hq
      refine fin [] (by simp) ?_
      simp only [List.append_nil, List.length_nil, Nat.add_zero, List.take_append_drop, Array.toArray_toList]
      rw [setRow_self w b arr el (0, 0) g3]
      cases A with
      | none => exact run_append_nilsrc (P := P) w t ty el i0 hu.ok hi0 (some ⟨b, 0, none⟩) m cap c (fun h => by cases h) hn
      | some ad =>
        have hf := run_firstCells_some (P := P) w i0.size 0 ad 0 c [] (by simp) (by simp)
        simp [Builtin.append_, run_underlying hu.ok, sizeOf, typeInfo, hi0, Builtin.lenOf, hf, hn, storeCells]
    · rw [slW, if_neg (by omega)] at e2
      obtain ⟨c, rfl, hkc⟩ : ∃ c, vy = .slice (some ⟨b, j * sz, none⟩) k c ∧ k ≤ c := by
        generalize j * sz = o at e2 ⊢
        cases e2 with
        | slN h => rw [hβ] at h; cases h
        | sl h hn' => rw [hβ] at h; injection h with h1 h2; subst h1; exact ⟨_, rfl, hn'⟩
      refine fin _ rfl ?_
      refine run_append_room (P := P) w t ty el i0 hu.ok hi0 b m cap arr g3 ⟨b, j * sz, none⟩ k c _ (by rw [hs0]; simp; omega) (fun i u hu' => ?_) hones (by omega) (by rw [hs0]; simp; omega) |>.trans (by rw [hs0])
      rw [List.getElem?_take] at hu'
      split at hu'
      · rw [List.getElem?_drop] at hu'
        rw [Addr.add_none]
        simp only [World.cell?, g3]
        simpa using hu'
      · cases hu'
theorem RepH.rewrite {R : Rg} {β : Ids} {G : Seal} {hp : Hp} {w w' : World} (h : RepH R β G hp w) {id : Nat} {bk bk' : Blk} {row : Option Nat} (hb : hget hp id = some bk) (hg : w.grownBy w' row) (hrow : ∀ b, row = some b → ∃ t, β id = .at b t)
    (hk : match β id with | .no => False | .gh _ => False | .nil => bk'.cs = [] ∧ bk'.full = false | .at b t => ∃ arr : Array Value, w'.heap[b]? = some (.cells arr bk'.T (0, 0)) ∧ arr.size = t ∧ bk'.cs.length ≤ t ∧
      (bk'.full = true → bk'.cs.length = t) ∧ ∀ (j : Nat) x y, bk'.cs[j]? = some x → arr[j]? = some y → Conc G β x y) : RepH R β G (hset hp id bk') w' := by
  have hrb : ∀ b, row = some b → G b = none ∧ (R.w0.heap.size ≤ b ∨ R.ex b) ∧ b < w.heap.size := fun b hb' => by
    obtain ⟨t, ht⟩ := hrow b hb'
    obtain ⟨g1, g2, arr, g3, _⟩ := h.block hb ht
    exact ⟨g1, g2, heap_lt g3⟩
  have his : ∀ i, (hget (hset hp id bk') i).isSome → (hget hp i).isSome := fun i hi => by
    rw [hget_hset] at hi
    split at hi
    · rename_i e; subst e; rw [hb]; rfl
    · exact hi
  refine ⟨fun b o hb' => ?_, fun i bk1 hi => ?_, fun i j b t t' hi hj hbi hbj => h.inj i j b t t' (his i hi) (his j hj) hbi hbj, ?_, h.dom, h.idr⟩
  · have h1 := h.gs b o hb'
    rw [hg.block b (heap_lt h1) (fun e => by have := (hrb b e.symm).1; rw [hb'] at this; cases this)]
    exact h1
  · rw [hget_hset] at hi
    split at hi
    · rename_i e
      subst e
      injection hi with hi; subst hi
      have h0 := h.blk id bk hb
      unfold BlkOk at h0 ⊢
      cases hβ : β id with
      | no => rw [hβ] at hk; exact hk
      | gh o => rw [hβ] at hk; exact hk.elim
      | nil => rw [hβ] at hk; exact hk
      | «at» b t =>
        rw [hβ] at hk h0
        exact ⟨h0.1, h0.2.1, hk⟩
    · rename_i hne
      have := h.blk i bk1 hi
      unfold BlkOk at this ⊢
      cases hβ : β i with
      | no => rw [hβ] at this; exact this
      | gh o => rw [hβ] at this; exact this
      | nil => rw [hβ] at this; exact this
      | «at» b t =>
        rw [hβ] at this
        obtain ⟨g1, g2, arr', g3, g4⟩ := this
        refine ⟨g1, g2, arr', ?_, g4⟩
        rw [hg.block b (heap_lt g3) (fun e => by
          obtain ⟨t', ht'⟩ := hrow b e.symm
          exact hne (h.inj id i b t' t (by rw [hb]; rfl) (by rw [hi]; rfl) ht' hβ))]
        exact g3
  · have hk := h.keeps
    refine ⟨hg.os.trans hk.os, hg.tape.trans hk.tape, hg.output.trans hk.output, Nat.le_trans hk.size hg.size, fun j h1 h2 => ?_⟩
    rw [hg.block j (Nat.lt_of_lt_of_le h1 hk.size) (fun e => by rcases (hrb j e.symm).2.1 with h3 | h3; omega; exact h2 h3)]
    exact hk.block j h1 h2
theorem aop_clearTail {t el : TypeId} {x : Operand} {sz bw id l k : Nat} {z : Value} {bk : Blk} {ty : TypeId} {pos : String} {aft : Array Edge} {g : Option (Nat × Bool)} {s : St} {K : St → Prop}
    [hu : TyU P t (.slice el)] [hi : TyI P el z sz bw]
    (hb : hget s.hp id = some bk) (hx : s.eval x = slW sz bw id (l * sz) k) (hT : bk.T = el) (hz : z.cells.toList.all (·.oneCell') = true) (hzs : z.cells.size = sz) (hl : (l + k) * sz ≤ bk.cs.length)
    (hk : K ⟨s.fr, hset s.hp id ⟨el, bk.cs.take (l * sz), false⟩⟩) (hel : el < 1000000000 := by decide) :
    AOp P ⟨none, .call { callee := .builtin .clear, args := #[x], argTypes := #[t] }, ty, pos, aft, g⟩ s K := by
  intro R β G a w Q hr
  have e1 := hr.eval x; rw [hx] at e1
  generalize hxv : a.eval x = vx at e1
  obtain ⟨i0, hi0, hz0, hs0, hb0⟩ := hi.ok
  have hexec : ∀ r w', (Builtin.clear_ #[t] ty #[vx]).run P w = .ok r w' → (execOp a.eval ⟨none, .call { callee := .builtin .clear, args := #[x], argTypes := #[t] }, ty, pos, aft, g⟩).run P w = .ok (.value r) w' := by
    intro r w' h
    simp [execOp, resolve, invoke, builtin, hxv, h]
  have hlk : (l + k) * sz = l * sz + k * sz := Nat.add_mul _ _ _
  have hblk := hr.hp.blk id bk hb
  unfold Oper.wp
  -- the end, nothing written or k elements
  have fin : ∀ (w' : World) (row : Option Nat), (Builtin.clear_ #[t] ty #[vx]).run P w = .ok (.tuple #[]) w' → w.grownBy w' row → (∀ b, row = some b → ∃ t, β id = .at b t) →
      (∀ b tt, β id = .at b tt → ∃ arr' : Array Value, w'.heap[b]? = some (.cells arr' el (0, 0)) ∧ arr'.size = tt ∧ ∀ arr : Array Value, w.heap[b]? = some (.cells arr el (0, 0)) → arr'.toList.take (l * sz) = arr.toList.take (l * sz)) → (∀ b tt, β id = .at b tt → row = some b) →
      Oper.upon P ⟨none, .call { callee := .builtin .clear, args := #[x], argTypes := #[t] }, ty, pos, aft, g⟩ a (RK R K) Q ((execOp a.eval ⟨none, .call { callee := .builtin .clear, args := #[x], argTypes := #[t] }, ty, pos, aft, g⟩).run P w) := by
    intro w' row hrun hgr hrow hat hrb
    rw [hexec _ _ hrun, Oper.upon_value]
    unfold BlkOk at hblk
    cases hβ : β id with
    | no => rw [hβ] at hblk; exact hblk.elim
    | gh o => rw [hβ] at hblk; have hbig := (GhB.big hblk).2; rw [hT] at hbig; exact absurd hel (Nat.not_lt.2 hbig)
    | nil =>
      rw [hβ] at hblk
      have hrep := hr.hp.rewrite (bk' := ⟨el, bk.cs.take (l * sz), false⟩) hb hgr hrow (by rw [hβ]; exact ⟨by simp [hblk.1], rfl⟩)
      exact ⟨_, _, _, hk, ⟨hr.defers, hr.size, hr.fr, hrep⟩⟩
    | «at» b tt =>
      rw [hβ] at hblk
      obtain ⟨g1, g2, arr, g3, g4, g5, g6, g7⟩ := hblk
      obtain ⟨arr', a1, a2, a3⟩ := hat b tt hβ
      have hrep := hr.hp.rewrite (bk' := ⟨el, bk.cs.take (l * sz), false⟩) hb hgr hrow (by
        rw [hβ]
        refine ⟨arr', a1, a2, by simp only [List.length_take]; omega, (fun h => by cases h), fun i u v hu' hv => ?_⟩
        have hi : i < l * sz := by have := lt_of_get hu'; simp at this; omega
        rw [List.getElem?_take, if_pos hi] at hu'
        have h4 : arr'.toList[i]? = arr.toList[i]? := by
          have := congrArg (fun q => q[i]?) (a3 arr (by rw [← hT]; exact g3))
          simpa [List.getElem?_take, hi] using this
        refine g7 i u v hu' ?_
        have h5 : arr'.toList[i]? = some v := by simpa using hv
        rw [h4] at h5; simpa using h5)
      exact ⟨_, _, _, hk, ⟨hr.defers, hr.size, hr.fr, hrep⟩⟩
  have hsame : ∀ (b tt : Nat), β id = .at b tt → ∃ arr' : Array Value, w.heap[b]? = some (.cells arr' el (0, 0)) ∧ arr'.size = tt ∧ ∀ arr : Array Value, w.heap[b]? = some (.cells arr el (0, 0)) → arr'.toList.take (l * sz) = arr.toList.take (l * sz) := by
    intro b tt hβ
    obtain ⟨g1, g2, arr, g3, g4, g5, g6, g7⟩ := hr.hp.block hb hβ
    refine ⟨arr, by rw [← hT]; exact g3, g4, fun arr2 h2 => ?_⟩
    rw [hT] at g3
    rw [g3] at h2; injection h2 with h2; injection h2 with h2; subst h2; rfl
  rcases Nat.eq_zero_or_pos k with hk0 | hk0
  · subst hk0
    simp only [slW, if_true] at e1
    obtain ⟨A, c, rfl, _⟩ : ∃ A c, vx = .slice A 0 c ∧ True := by
      generalize hq : AV.isl sz bw [] = q at e1
      cases e1 with
      | isl ys hu' hl' => injection hq with _ _ q3; subst q3; exact ⟨_, _, rfl, trivial⟩
      | _ => cases hq
    have hrun : (Builtin.clear_ #[t] ty #[.slice A 0 c]).run P w = .ok (.tuple #[]) w := by
      cases A <;> simp [Builtin.clear_, run_underlying hu.ok]
    cases hβ : β id with
    | no => unfold BlkOk at hblk; rw [hβ] at hblk; exact hblk.elim
    | gh o => unfold BlkOk at hblk; rw [hβ] at hblk; have hbig := (GhB.big hblk).2; rw [hT] at hbig; exact absurd hel (Nat.not_lt.2 hbig)
    | nil => exact fin w none hrun (World.grownBy.refl w none) (fun _ h => by cases h) hsame (fun b tt h => by rw [hβ] at h; cases h)
    | «at» b tt => exact fin w (some b) hrun (World.grownBy.refl w (some b)) (fun b' h => by injection h with h; subst h; exact ⟨tt, hβ⟩) hsame (fun b' tt' h => by rw [hβ] at h; injection h with h1 h2; rw [h1])
  · rw [slW, if_neg (by omega)] at e1
    obtain ⟨c, b, tt, hβ, rfl⟩ : ∃ c b tt, β id = .at b tt ∧ vx = .slice (some ⟨b, l * sz, none⟩) k c := by
      generalize l * sz = o at e1 ⊢
      cases e1 with
      | slN hβ => exact absurd hk0 (Nat.lt_irrefl 0)
      | sl h => exact ⟨_, _, _, h, rfl⟩
    · obtain ⟨g1, g2, arr, g3, g4, g5, g6, g7⟩ := hr.hp.block hb hβ
      rw [hT] at g3
      have hzv : (Builtin.zeroCells z.cells k).size = k * sz := by rw [size_zeroCells, hzs]
      have hst := run_storeCells_at P b (l * sz) el (Builtin.zeroCells z.cells k).toList 0 arr w g3 (by simp [hzv]; omega) (fun v hv => by
        simp only [Builtin.zeroCells, Array.toList_map, List.mem_map] at hv
        obtain ⟨i, hi', rfl⟩ := hv
        have hlt : i % z.cells.size < z.cells.size := by
          apply Nat.mod_lt
          rw [hzs]
          rcases Nat.eq_zero_or_pos sz with h | h
          · subst h
            simp [hzs] at hi'
          · exact h
        rw [getElem!_pos z.cells _ hlt]
        exact List.all_eq_true.1 hz _ (by simp))
      have hzval : (zeroValue el).run P w = .ok z w := run_zero_i hi w
      obtain ⟨k', rfl⟩ : ∃ k', k = k' + 1 := ⟨k - 1, by omega⟩
      have hrun : (Builtin.clear_ #[t] ty #[.slice (some ⟨b, l * sz, none⟩) (k' + 1) c]).run P w = .ok (.tuple #[]) (w.setRow b (arr.toList.take (l * sz) ++ (Builtin.zeroCells z.cells (k' + 1)).toList ++ arr.toList.drop (l * sz + (k' + 1) * sz)).toArray) := by
        simp only [Nat.add_zero, Array.length_toList, hzv] at hst
        simp [Builtin.clear_, run_underlying hu.ok, hzval, hst]
      refine fin _ (some b) hrun (setRow_grown g3) (fun b' h => by injection h with h; subst h; exact ⟨tt, hβ⟩) (fun b' tt' h => ?_) (fun b' tt' h => by rw [hβ] at h; injection h with h1 h2; rw [h1])
      rw [hβ] at h; injection h with h1 h2; subst h1; subst h2
      refine ⟨_, setRow_heap w b arr _ el (0, 0) g3, ?_, fun arr2 h2 => ?_⟩
      · simp only [List.size_toArray, List.length_append, List.length_take, List.length_drop, Array.length_toList, hzv]
        omega
      · rw [g3] at h2; injection h2 with h2; injection h2 with h2; subst h2
        have h5 : (arr.toList.take (l * sz)).length = l * sz := by simp; omega
        show ((arr.toList.take (l * sz) ++ (Builtin.zeroCells z.cells (k' + 1)).toList) ++ arr.toList.drop (l * sz + (k' + 1) * sz)).take (l * sz) = _
        rw [List.append_assoc, List.take_append_of_le_length (by omega), List.take_of_length_le (by omega)]
end Go.Ab

set_option linter.unusedSimpArgs false
set_option linter.unusedVariables false
namespace Go.Ab
open Go.RowKit
variable {P : Program}
/-! ### Sealing, within structs and cells too -/
mutual
def AV.sealD (id sz bw n : Nat) (es : List AV) : AV → AV
  | .agg cs => .agg (AV.sealDL id sz bw n es cs)
  | .tup cs => .tup (AV.sealDL id sz bw n es cs)
  | .fn f cs => .fn f (AV.sealDL id sz bw n es cs)
  | .ptr i o => if i = id then .any else .ptr i o
  | .yl i y => if i = id then .any else .yl i y
  | .sl a b i o k => if i = id then (if a = sz ∧ b = bw ∧ o = 0 ∧ k = n then .isl sz bw es else .any) else .sl a b i o k
  | .any => .any
  | .v x => .v x
  | .isl a b l => .isl a b l
  | .iptr l => .iptr l
def AV.sealDL (id sz bw n : Nat) (es : List AV) : List AV → List AV
  | [] => []
  | x :: r => AV.sealD id sz bw n es x :: AV.sealDL id sz bw n es r
end
def sealDHp (id sz bw n : Nat) (es : List AV) : Hp → Hp
  | [] => []
  | (i, b) :: r => if i = id then sealDHp id sz bw n es r else (i, { b with cs := AV.sealDL id sz bw n es b.cs }) :: sealDHp id sz bw n es r
theorem sealDL_get (id sz bw n : Nat) (es : List AV) : ∀ (l : List AV) (i : Nat), (AV.sealDL id sz bw n es l)[i]? = l[i]?.map (AV.sealD id sz bw n es)
  | [], i => by simp [AV.sealDL]
  | x :: r, 0 => by simp [AV.sealDL]
  | x :: r, i+1 => by simp [AV.sealDL, sealDL_get id sz bw n es r i]
theorem sealDL_len (id sz bw n : Nat) (es l : List AV) : (AV.sealDL id sz bw n es l).length = l.length := by
  induction l with
  | nil => rfl
  | cons x r ih => simp [AV.sealDL, ih]
theorem sealDL_eq (id sz bw n : Nat) (es l : List AV) : AV.sealDL id sz bw n es l = l.map (AV.sealD id sz bw n es) := by
  induction l with
  | nil => rfl
  | cons x r ih => simp [AV.sealDL, ih]
theorem hget_sealDHp (id sz bw n : Nat) (es : List AV) (hp : Hp) (i : Nat) : hget (sealDHp id sz bw n es hp) i = if id = i then none else (hget hp i).map fun b => { b with cs := AV.sealDL id sz bw n es b.cs } := by
  induction hp with
  | nil => simp [sealDHp, hget]
  | cons p r ih =>
    obtain ⟨j, b⟩ := p
    by_cases hj : j = id
    · subst hj
      simp only [sealDHp, if_true, ih, hget]
      split <;> rfl
    · simp only [sealDHp, hj, if_false, hget, ih]
      by_cases hji : j = i
      · subst hji; simp [Ne.symm hj]
      · simp [hji]
mutual
theorem sealD_pur {id sz bw n : Nat} {es : List AV} : ∀ {x : AV}, x.pur = true → AV.sealD id sz bw n es x = x
  | .agg cs, h => by simp only [AV.sealD]; rw [sealDL_pur (by simpa [AV.pur] using h)]
  | .tup cs, h => by simp only [AV.sealD]; rw [sealDL_pur (by simpa [AV.pur] using h)]
  | .fn f cs, h => by simp only [AV.sealD]; rw [sealDL_pur (by simpa [AV.pur] using h)]
  | .ptr i o, h => by simp [AV.pur] at h
  | .yl i y, h => by simp [AV.pur] at h
  | .sl a b i o k, h => by simp [AV.pur] at h
  | .any, _ => rfl
  | .v x, _ => rfl
  | .isl a b l, _ => rfl
  | .iptr l, _ => rfl
theorem sealDL_pur {id sz bw n : Nat} {es : List AV} : ∀ {l : List AV}, AV.purL l = true → AV.sealDL id sz bw n es l = l
  | [], _ => rfl
  | x :: r, h => by
    simp only [AV.purL, Bool.and_eq_true] at h
    simp only [AV.sealDL]
    rw [sealD_pur h.1, sealDL_pur h.2]
end
theorem Conc.sealD {G G' : Seal} {β β' : Ids} {x : AV} {y : Value} (h : Conc G β x y) {id sz bw n : Nat} {es : List AV} (hβ : ∀ j, j ≠ id → β' j = β j) (hG : ∀ b o, G b = some o → G' b = some o)
    (hc : ∀ y, Conc G β (.sl sz bw id 0 n) y → Conc G' nob (.isl sz bw es) y) : Conc G' β' (AV.sealD id sz bw n es x) y := by
  have key : ∀ {β0 x y}, Conc G β0 x y → β0 = β → Conc G' β' (AV.sealD id sz bw n es x) y := by
    intro β0 x y h
    induction h with
    | any => intro _; exact .any
    | v => intro _; exact .v
    | agg xs hl hs ih =>
      intro e
      refine .agg xs (by rw [sealDL_len]; exact hl) fun j u v hu hv => ?_
      rw [sealDL_get, Option.map_eq_some_iff] at hu
      obtain ⟨u0, hu0, rfl⟩ := hu
      exact ih j u0 v hu0 hv e
    | tup xs hl hs ih =>
      intro e
      refine .tup xs (by rw [sealDL_len]; exact hl) fun j u v hu hv => ?_
      rw [sealDL_get, Option.map_eq_some_iff] at hu
      obtain ⟨u0, hu0, rfl⟩ := hu
      exact ih j u0 v hu0 hv e
    | fn xs hf hl hs ih =>
      intro e
      refine .fn xs hf (by rw [sealDL_len]; exact hl) fun j u v hu hv => ?_
      rw [sealDL_get, Option.map_eq_some_iff] at hu
      obtain ⟨u0, hu0, rfl⟩ := hu
      exact ih j u0 v hu0 hv e
    | ifc _ ih => intro e; simp only [AV.sealD, AV.sealDL]; exact .ifc (ih e)
    | @ptr β1 i off b t hb =>
      intro e
      subst e
      simp only [AV.sealD]
      split
      · exact .any
      · rename_i hi; exact .ptr (by rw [hβ i hi]; exact hb)
    | @yl β1 i y l hb =>
      intro e
      subst e
      simp only [AV.sealD]
      split
      · exact .any
      · rename_i hi; exact .yl (by rw [hβ i hi]; exact hb)
    | @slN β1 a b i hb =>
      intro e
      subst e
      simp only [AV.sealD]
      split
      · rename_i hi; subst hi
        split
        · rename_i hq; obtain ⟨rfl, rfl, _, rfl⟩ := hq
          exact (hc _ (.slN hb)).free _
        · exact .any
      · rename_i hi; exact .slN (by rw [hβ i hi]; exact hb)
    | @sl β1 a b i off k c bb t hb hn ht hm hbw =>
      intro e
      subst e
      simp only [AV.sealD]
      split
      · rename_i hi; subst hi
        split
        · rename_i hq; obtain ⟨rfl, rfl, rfl, rfl⟩ := hq
          exact (hc _ (.sl hb hn ht hm hbw)).free _
        · exact .any
      · rename_i hi; exact .sl (by rw [hβ i hi]; exact hb) hn ht hm hbw
    | isl ys hu hl hc' hb hA hr hs _ => intro _; exact (Conc.isl (β := β) ys hu hl hc' hb hA hr hs).ext (fun _ h => by simp [AV.ment] at h) hG
    | iptr ys hl hr hs _ => intro _; exact (Conc.iptr (β := β) ys hl hr hs).ext (fun _ h => by simp [AV.ment] at h) hG
  exact key h rfl
theorem le_sealD {f : List AV} {hp : Hp} (id sz bw n : Nat) {bk : Blk} (es : List AV) (hb : hget hp id = some bk) (hes : es.flatMap AV.cells = bk.cs)
    (hu : ∀ e ∈ es, e.cells.length = sz) (hn : es.length = n) (hp1 : AV.purL bk.cs = true) (hsz : 0 < sz) : Le ⟨f, hp⟩ ⟨AV.sealDL id sz bw n es f, sealDHp id sz bw n es hp⟩ := by
  intro R β G a w h
  have h0 := h.hp.blk id bk hb
  unfold BlkOk at h0
  have hoth : ∀ j, j ≠ id → (β.set id .no) j = β j := fun j hj => by simp [Ids.set, hj]
  -- the state without the id, over a grown seal
  have fin : ∀ (G' : Seal), (∀ b o, G b = some o → G' b = some o) → (∀ b o, G' b = some o → w.heap[b]? = some o) → (∀ b, G' b ≠ none → R.g0 b ≠ none ∨ R.w0.heap.size ≤ b ∨ R.ex b) →
      (∀ j bk' b t, j ≠ id → hget hp j = some bk' → β j = .at b t → G' b = none) → (∀ y, Conc G β (.sl sz bw id 0 n) y → Conc G' nob (.isl sz bw es) y) → ∃ β' G', Rep R β' G' ⟨AV.sealDL id sz bw n es f, sealDHp id sz bw n es hp⟩ a w := by
    intro G' hm hgs hdom hfree hc
    refine ⟨β.set id .no, G', h.defers.mono hm, by rw [sealDL_len]; exact h.size, fun j x y hj hy => ?_, ⟨hgs, fun j bk' hj => ?_, fun j k b t t' hj hk hbj hbk => ?_, h.hp.keeps, hdom, h.hp.idr.gone⟩⟩
    · rw [sealDL_get, Option.map_eq_some_iff] at hj
      obtain ⟨x0, hx0, rfl⟩ := hj
      exact (h.fr j x0 y hx0 hy).sealD hoth hm hc
    · rw [hget_sealDHp] at hj
      by_cases hid : id = j
      · simp [hid] at hj
      · simp only [hid, if_false, Option.map_eq_some_iff] at hj
        obtain ⟨bk1, hj1, rfl⟩ := hj
        have := h.hp.blk j bk1 hj1
        unfold BlkOk at this ⊢
        rw [hoth j (Ne.symm hid)]
        cases hβ : β j with
        | no => rw [hβ] at this; exact this
        | nil => rw [hβ] at this; exact ⟨by rw [this.1]; rfl, this.2⟩
        | «at» b t =>
          rw [hβ] at this
          obtain ⟨g1, g2, arr, g3, g4, g5, g6, g7⟩ := this
          refine ⟨hfree j bk1 b t (Ne.symm hid) hj1 hβ, g2, arr, g3, g4, by simpa [sealDL_len] using g5, by simpa [sealDL_len] using g6, fun k x y hx hy => ?_⟩
          simp only [sealDL_get, Option.map_eq_some_iff] at hx
          obtain ⟨x0, hx0, rfl⟩ := hx
          exact (g7 k x0 y hx0 hy).sealD hoth hm hc
        | gh o => rw [hβ] at this; exact gh_mono this hm (AV.sealD id sz bw n es) (fun x _ y hx => hx.sealD hoth hm hc) _ (sealDL_eq _ _ _ _ _ _)
    · have key : ∀ j b t, (β.set id .no) j = .at b t → j ≠ id := fun j b t hb e => by subst e; simp [Ids.set] at hb
      have n1 := key j b t hbj
      have n2 := key k b t' hbk
      rw [hoth j n1] at hbj
      rw [hoth k n2] at hbk
      rw [hget_sealDHp, if_neg (Ne.symm n1)] at hj
      rw [hget_sealDHp, if_neg (Ne.symm n2)] at hk
      exact h.hp.inj j k b t t' (by simpa using hj) (by simpa using hk) hbj hbk
  cases hβ : β id with
  | no => rw [hβ] at h0; exact h0.elim
  | gh o =>
    refine fin G (fun _ _ h => h) h.hp.gs h.hp.dom (fun j bk' b t _ hj hbj => (h.hp.block hj hbj).1) fun y hc => ?_
    cases hc with
    | slN hb' => rw [hβ] at hb'; cases hb'
    | sl hb' => rw [hβ] at hb'; cases hb'
  | nil =>
    rw [hβ] at h0
    have he : es = [] := by
      cases es with
      | nil => rfl
      | cons e es =>
        have h1 := hes
        rw [h0.1, List.flatMap_cons] at h1
        have h2 : e.cells = [] := (List.append_eq_nil_iff.1 h1).1
        have := hu e (by simp)
        rw [h2] at this; simp at this; omega
    refine fin G (fun _ _ h => h) h.hp.gs h.hp.dom (fun j bk' b t _ hj hbj => (h.hp.block hj hbj).1) fun y hc => ?_
    subst he
    cases hc with
    | slN _ => exact .isl (es := []) [] (by simp) (by simp) (by simp) (by simp) (by simp) (by simp) (by simp)
    | sl hb' => rw [hβ] at hb'; cases hb'
  | «at» b t =>
    rw [hβ] at h0
    obtain ⟨g1, g2, arr, g3, g4, g5, g6, g7⟩ := h0
    have hm : ∀ k o, G k = some o → (G.set b (.cells arr bk.T (0, 0))) k = some o := fun k o hk => by
      simp only [Seal.set]; rw [if_neg (by rintro rfl; rw [g1] at hk; cases hk)]; exact hk
    refine fin (G.set b (.cells arr bk.T (0, 0))) hm (fun k o hk => ?_) (fun k hk => ?_) (fun j bk' b' t' hne hj hbj => ?_) fun y hc => ?_
    · simp only [Seal.set] at hk
      split at hk
      · rename_i e; subst e; injection hk with hk; subst hk; exact g3
      · exact h.hp.gs k o hk
    · simp only [Seal.set] at hk
      split at hk
      · rename_i e; subst e; exact .inr g2
      · exact h.hp.dom k hk
    · have hbb : b' ≠ b := fun e => by subst e; exact hne (h.hp.inj j id b' t' t (by rw [hj]; rfl) (by rw [hb]; rfl) hbj hβ)
      simp only [Seal.set]; rw [if_neg hbb]
      exact (h.hp.block hj hbj).1
    · cases hc with
      | slN hb' => rw [hβ] at hb'; cases hb'
      | @sl _ _ _ _ _ _ c b' t' hb' hnc ht hcm hbw =>
        rw [hβ] at hb'; injection hb' with e1 e2; subst e1; subst e2
        subst hn
        have hfl : (es.flatMap AV.cells).length = es.length * sz := flat_len hu
        have hle : es.length * sz ≤ arr.size := by rw [← hfl, hes, g4]; exact g5
        refine .isl (arr.toList.take (es.length * sz)) hu (by simp; omega) hnc hbw (fun _ => by simp) (fun j v hv => ⟨_, rfl, ?_⟩) (fun j u v hu' hv => ?_)
        · have hj : j < es.length * sz := by have := lt_of_get hv; simp at this; omega
          simp only [List.getElem?_take, hj, if_true, Array.getElem?_toList] at hv
          rw [Addr.add_none]
          simpa [gcell, Seal.set] using hv
        · have hj : j < es.length * sz := by have := lt_of_get hv; simp at this; omega
          simp only [List.getElem?_take, hj, if_true, Array.getElem?_toList] at hv
          rw [hes] at hu'
          exact ((g7 j u v hu' hv).toNob (purL_get hp1 hu') nob).mono hm

theorem le_sealDM {α : Type} {f : α → AV} {fr : List AV} {hp : Hp} (id sz bw n : Nat) {T : TypeId} {cs : List AV} {full : Bool} (xs : List α) (hb : hget hp id = some ⟨T, cs, full⟩) (hcs : (xs.map f).flatMap AV.cells = cs) (hn : xs.length = n)
    (hc : ∀ a, (f a).cells.length = sz) (hpu : ∀ a, AV.purL (f a).cells = true) (hs : 0 < sz) : Le ⟨fr, hp⟩ ⟨AV.sealDL id sz bw n (xs.map f) fr, sealDHp id sz bw n (xs.map f) hp⟩ :=
  le_sealD id sz bw n (xs.map f) hb hcs (fun e he => by obtain ⟨a, _, rfl⟩ := List.mem_map.1 he; exact hc a) (by simpa using hn) (by
    subst hcs; rw [List.flatMap_map]; exact purL_flat _ xs hpu) hs
theorem le_sealDI {fr : List AV} {hp : Hp} (id n : Nat) {T : TypeId} {full : Bool} (xs : List Int) (hb : hget hp id = some ⟨T, xs.map AV.int, full⟩) (hn : xs.length = n) :
    Le ⟨fr, hp⟩ ⟨AV.sealDL id 1 8 n (xs.map AV.int) fr, sealDHp id 1 8 n (xs.map AV.int) hp⟩ :=
  le_sealDM (f := AV.int) id 1 8 n xs hb (flat_ints xs) hn (fun _ => rfl) (fun _ => rfl) (by omega)
section
variable (id sz bw n : Nat) (es : List AV)
theorem sealD_agg (l : List AV) : AV.sealD id sz bw n es (.agg l) = .agg (AV.sealDL id sz bw n es l) := rfl
theorem sealD_tup (l : List AV) : AV.sealD id sz bw n es (.tup l) = .tup (AV.sealDL id sz bw n es l) := rfl
theorem sealD_fn (f : FuncId) (l : List AV) : AV.sealD id sz bw n es (.fn f l) = .fn f (AV.sealDL id sz bw n es l) := rfl
theorem sealD_ptr (i o : Nat) : AV.sealD id sz bw n es (.ptr i o) = if i = id then .any else .ptr i o := rfl
theorem sealD_sl (a b i o k : Nat) : AV.sealD id sz bw n es (.sl a b i o k) = if i = id then (if a = sz ∧ b = bw ∧ o = 0 ∧ k = n then .isl sz bw es else .any) else .sl a b i o k := rfl
theorem sealD_any : AV.sealD id sz bw n es .any = .any := rfl
theorem sealD_v (x : Value) : AV.sealD id sz bw n es (.v x) = .v x := rfl
theorem sealD_isl (a b : Nat) (l : List AV) : AV.sealD id sz bw n es (.isl a b l) = .isl a b l := rfl
theorem sealD_iptr (l : List AV) : AV.sealD id sz bw n es (.iptr l) = .iptr l := rfl
theorem sealDL_nil : AV.sealDL id sz bw n es [] = [] := rfl
theorem sealDL_cons (x : AV) (r : List AV) : AV.sealDL id sz bw n es (x :: r) = AV.sealD id sz bw n es x :: AV.sealDL id sz bw n es r := rfl
theorem sealDL_ints (xs : List Int) : AV.sealDL id sz bw n es (xs.map AV.int) = xs.map AV.int := sealDL_pur (purL_map AV.int xs fun _ => rfl)
theorem sealDL_bools (xs : List Bool) : AV.sealDL id sz bw n es (xs.map AV.bool) = xs.map AV.bool := sealDL_pur (purL_map AV.bool xs fun _ => rfl)
theorem sealDHp_nil : sealDHp id sz bw n es [] = [] := rfl
theorem sealDHp_cons (i : Nat) (T : TypeId) (cs : List AV) (fl : Bool) (r : Hp) : sealDHp id sz bw n es ((i, ⟨T, cs, fl⟩) :: r) = if i = id then sealDHp id sz bw n es r else (i, ⟨T, AV.sealDL id sz bw n es cs, fl⟩) :: sealDHp id sz bw n es r := rfl
end
attribute [go_sem] sealD_agg sealD_tup sealD_fn sealD_ptr sealD_sl sealD_any sealD_v sealD_isl sealD_iptr sealDL_nil sealDL_cons sealDL_ints sealDL_bools sealDHp_nil sealDHp_cons
/-! A nil slice in a cell becomes an own empty row. -/
theorem le_virtH {f : List AV} {hp : Hp} (p i id sz bw : Nat) (T : TypeId) {bk0 : Blk} (hb : hget hp p = some bk0) (hx : bk0.cs[i]? = some .nilS) (hf : St.free ⟨f, hp⟩ id = true) : Le ⟨f, hp⟩ ⟨f, hset (hset hp p { bk0 with cs := bk0.cs.set i (.sl sz bw id 0 0) }) id ⟨T, [], false⟩⟩ := by
  intro R β G a w h
  obtain ⟨f1, f2, f3⟩ := ment_of_free hf
  have hself : (β.set id .nil) id = .nil := by simp [Ids.set]
  have hoth : ∀ j, j ≠ id → (β.set id .nil) j = β j := fun j hj => by simp [Ids.set, hj]
  have hpid : p ≠ id := fun e => by subst e; rw [hb] at f2; cases f2
  refine ⟨β.set id .nil, G, h.defers, h.size, fun j x y hj hy => (h.fr j x y hj hy).setId (f1 j x hj) _, ⟨h.hp.gs, fun j bk hj => ?_, fun j k b t t' hj hk hbj hbk => ?_, h.hp.keeps, h.hp.dom, h.hp.idr.set _ (free_lt hf)⟩⟩
  · rw [hget_hset] at hj
    by_cases hid : id = j
    · subst hid
      simp only [if_true, Option.some.injEq] at hj
      subst hj
      unfold BlkOk
      rw [hself]
      exact ⟨rfl, rfl⟩
    · simp only [hid, if_false] at hj
      rw [hget_hset] at hj
      by_cases hpj : p = j
      · subst hpj
        simp only [if_true, Option.some.injEq] at hj
        subst hj
        have := h.hp.blk p bk0 hb
        unfold BlkOk at this ⊢
        rw [hoth p hpid]
        cases hβ : β p with
        | no => rw [hβ] at this; exact this
        | nil => rw [hβ] at this; rw [this.1] at hx; simp at hx
        | gh o =>
          rw [hβ] at this
          obtain ⟨outs, k3, k4, kk⟩ := GhB.view this
          refine kk _ _ (by simpa using k3) (fun k x y hx' hy => ?_)
          simp only at hx'
          rw [List.getElem?_set] at hx'
          by_cases hik : i = k
          · subst hik
            simp only [if_true] at hx'
            split at hx' <;> simp at hx'
            subst hx'
            have := conc_v (k4 i _ y hx hy)
            rw [this]
            exact .slN hself
          · simp only [hik, if_false] at hx'
            exact (k4 k x y hx' hy).setId (f3 p bk0 k x hb hx') _
        | «at» b t =>
          rw [hβ] at this
          obtain ⟨g1, g2, arr, g3, g4, g5, g6, g7⟩ := this
          refine ⟨g1, g2, arr, g3, g4, by simpa using g5, by simpa using g6, fun k x y hx' hy => ?_⟩
          simp only at hx'
          rw [List.getElem?_set] at hx'
          by_cases hik : i = k
          · subst hik
            simp only [if_true] at hx'
            split at hx' <;> simp at hx'
            subst hx'
            have := conc_v (g7 i _ y hx hy)
            rw [this]
            exact .slN hself
          · simp only [hik, if_false] at hx'
            exact (g7 k x y hx' hy).setId (f3 p bk0 k x hb hx') _
      · simp only [hpj, if_false] at hj
        have := h.hp.blk j bk hj
        unfold BlkOk at this ⊢
        rw [hoth j (Ne.symm hid)]
        cases hβ : β j with
        | no => rw [hβ] at this; exact this
        | nil => rw [hβ] at this; exact this
        | «at» b t =>
          rw [hβ] at this
          obtain ⟨g1, g2, arr, g3, g4, g5, g6, g7⟩ := this
          exact ⟨g1, g2, arr, g3, g4, g5, g6, fun k x y hx hy => (g7 k x y hx hy).setId (f3 j bk k x hj hx) _⟩
        | gh o =>
          rw [hβ] at this
          exact gh_same this (fun _ _ h => h) fun x hx y hc => by
            obtain ⟨k, hk⟩ := List.getElem?_of_mem hx
            exact hc.setId (f3 j bk k x hj hk) _
  · have key : ∀ j b t, (β.set id .nil) j = .at b t → j ≠ id := fun j b t hb e => by subst e; rw [hself] at hb; cases hb
    have n1 := key j b t hbj
    have n2 := key k b t' hbk
    rw [hoth j n1] at hbj
    rw [hoth k n2] at hbk
    have key2 : ∀ j, j ≠ id → (hget (hset (hset hp p { bk0 with cs := bk0.cs.set i (.sl sz bw id 0 0) }) id ⟨T, [], false⟩) j).isSome → (hget hp j).isSome := by
      intro j hne hj
      rw [hget_hset, if_neg (Ne.symm hne), hget_hset] at hj
      split at hj
      · rename_i e; subst e; rw [hb]; rfl
      · exact hj
    exact h.hp.inj j k b t t' (key2 j n1 hj) (key2 k n2 hk) hbj hbk
/-! One abstract value says less than another. -/
def ALe (x y : AV) : Prop := ∀ G β v, Conc G β x v → Conc G β y v
theorem ALe.rfl' (x : AV) : ALe x x := fun _ _ _ h => h
theorem ALe.nil (sz bw : Nat) : ALe .nilS (.isl sz bw []) := fun G β v h => by
  cases h
  exact .isl [] (by simp) (by simp) (by simp) (by simp) (by simp) (by simp) (by simp)
def ALeL : List AV → List AV → Prop
  | [], [] => True
  | x :: r, y :: q => ALe x y ∧ ALeL r q
  | _, _ => False
theorem aleL_get : ∀ {xs ys : List AV}, ALeL xs ys → xs.length = ys.length ∧ ∀ (j : Nat) x y, xs[j]? = some x → ys[j]? = some y → ALe x y
  | [], [], _ => ⟨rfl, by simp⟩
  | x :: xs, y :: ys, h => by
    obtain ⟨h1, h2⟩ := aleL_get h.2
    refine ⟨by simp [h1], fun j a b ha hb => ?_⟩
    cases j with
    | zero => simp at ha hb; subst ha; subst hb; exact h.1
    | succ j => exact h2 j a b (by simpa using ha) (by simpa using hb)
  | [], _ :: _, h => h.elim
  | _ :: _, [], h => h.elim
theorem ALe.agg {xs ys : List AV} (h : ALeL xs ys) : ALe (.agg xs) (.agg ys) := fun G β v hc => by
  obtain ⟨h1, h2⟩ := aleL_get h
  cases hc with
  | agg vs hl hs =>
    refine .agg vs (by omega) fun j x y hx hy => ?_
    have hj : j < xs.length := by have := lt_of_get hx; omega
    exact h2 j _ _ (List.getElem?_eq_getElem hj) hx G β y (hs j _ y (List.getElem?_eq_getElem hj) hy)
theorem ALe.isl {sz bw : Nat} {es fs : List AV} (hl : es.length = fs.length) (hf : ∀ e ∈ fs, e.cells.length = sz) (h : ALeL (es.flatMap AV.cells) (fs.flatMap AV.cells)) : ALe (.isl sz bw es) (.isl sz bw fs) := fun G β v hc => by
  obtain ⟨h1, h2⟩ := aleL_get h
  generalize hq : AV.isl sz bw es = q at hc
  cases hc with
  | isl ys hu hl' hc' hb hA hr hs =>
    injection hq with q1 q2 q3
    subst q1; subst q2; subst q3
    rw [hl] at hl' hc' hb hA ⊢
    refine .isl ys hf hl' hc' hb hA hr fun j x y hx hy => ?_
    have hj : j < (es.flatMap AV.cells).length := by have := lt_of_get hx; omega
    exact h2 j _ _ (List.getElem?_eq_getElem hj) hx G nob y (hs j _ y (List.getElem?_eq_getElem hj) hy)
  | _ => cases hq
theorem pcall_le {f : FuncId} {args args' : List AV} {Q : AV → Prop} (h : PCall P f args Q) (hl : ALeL args' args) : PCall P f args' Q := fun G w vals hG hv =>
  h G w vals hG ⟨by rw [← (aleL_get hl).1]; exact hv.1, fun j x y hx hy => by
    have hj : j < args'.length := by have := lt_of_get hx; rw [(aleL_get hl).1]; exact this
    exact (aleL_get hl).2 j _ _ (List.getElem?_eq_getElem hj) hx G nob y (hv.2 j _ y (List.getElem?_eq_getElem hj) hy)⟩
theorem pcall_res {f : FuncId} {args : List AV} {r r' : AV} (h : PCall P f args (fun x => x = r)) (hl : ALe r r') : PCall P f args (fun x => x = r') := fun G w vals hG hv =>
  (h G w vals hG hv).mono fun _ _ ⟨y, G', _, h1, h2, h3, h4⟩ => ⟨y, G', r', h1, rfl, hl _ _ _ (h2 ▸ h3), h4⟩
theorem pcall_eq {f : FuncId} {args : List AV} {a b : AV} (h : PCall P f args (fun r => r = a)) (e : a = b) : PCall P f args (fun r => r = b) := e ▸ h
theorem fin_weak {rs : Array ResultVar} {Q : AV → Prop} {e : Exit} {s s' : St} (hle : Le s s') (h : Ab.Fin P rs Q e s') : Ab.Fin P rs Q e s := by
  cases e <;> first
    | exact h.elim
    | (obtain ⟨s2, x, h1, h2⟩ := h; exact ⟨s2, x, hle.trans h1, h2⟩)
theorem aleL_of : ∀ {xs ys : List AV}, xs.length = ys.length → (∀ (j : Nat) x y, xs[j]? = some x → ys[j]? = some y → ALe x y) → ALeL xs ys
  | [], [], _, _ => trivial
  | x :: xs, y :: ys, hl, h => ⟨h 0 x y rfl rfl, aleL_of (by simpa using hl) fun j a b ha hb => h (j + 1) a b (by simpa using ha) (by simpa using hb)⟩
  | [], _ :: _, hl, _ => by simp at hl
  | _ :: _, [], hl, _ => by simp at hl
theorem ALeL.rfl' (xs : List AV) : ALeL xs xs := aleL_of rfl fun j x y hx hy => by rw [hx] at hy; injection hy with hy; subst hy; exact ALe.rfl' x
theorem ALeL.set {xs : List AV} {i : Nat} {x y : AV} (h : ALe x y) : ALeL (xs.set i x) (xs.set i y) := aleL_of (by simp) fun j a b ha hb => by
  rw [List.getElem?_set] at ha hb
  split at ha
  · rename_i e
    subst e
    simp only [if_true] at hb
    split at ha
    · rename_i hl
      rw [if_pos hl] at hb
      injection ha with ha; injection hb with hb; subst ha; subst hb; exact h
    · cases ha
  · rename_i e; rw [if_neg e] at hb; rw [ha] at hb; injection hb with hb; subst hb; exact ALe.rfl' a
/-- The cells of a block say less. -/
theorem le_ale {f : List AV} {hp : Hp} (id : Nat) {T : TypeId} {cs cs' : List AV} {fl : Bool} (hb : hget hp id = some ⟨T, cs, fl⟩) (h : ALeL cs cs') : Le ⟨f, hp⟩ ⟨f, hset hp id ⟨T, cs', fl⟩⟩ := by
  intro R β G a w hr
  obtain ⟨h1, h2⟩ := aleL_get h
  refine ⟨β, G, hr.defers, hr.size, hr.fr, ⟨hr.hp.gs, fun i bk hi => ?_, fun i j b t t' hi hj => ?_, hr.hp.keeps, hr.hp.dom, hr.hp.idr⟩⟩
  · rw [hget_hset] at hi
    by_cases hid : id = i
    · subst hid
      simp only [if_true, Option.some.injEq] at hi
      subst hi
      have := hr.hp.blk id _ hb
      unfold BlkOk at this ⊢
      cases hβ : β id with
      | no => rw [hβ] at this; exact this
      | nil =>
        rw [hβ] at this
        refine ⟨?_, this.2⟩
        have := this.1
        simp only at this
        subst this
        exact List.eq_nil_of_length_eq_zero h1.symm
      | gh o =>
        rw [hβ] at this
        obtain ⟨outs, k3, k4, kk⟩ := GhB.view this
        refine kk _ _ (h1.symm.trans k3) (fun j x y hx hy => ?_)
        have hj : j < cs.length := by have h7 : j < cs'.length := lt_of_get hx; omega
        exact h2 j _ _ (List.getElem?_eq_getElem hj) hx G β y (k4 j _ y (List.getElem?_eq_getElem hj) hy)
      | «at» b t =>
        rw [hβ] at this
        obtain ⟨g1, g2, arr, g3, g4, g5, g6, g7⟩ := this
        have g5' : cs.length ≤ t := g5
        refine ⟨g1, g2, arr, g3, g4, show cs'.length ≤ t by omega, fun hf => show cs'.length = t by have h6 : cs.length = t := g6 hf; omega, fun j x y hx hy => ?_⟩
        have hj : j < cs.length := by have h7 : j < cs'.length := lt_of_get hx; omega
        exact h2 j _ _ (List.getElem?_eq_getElem hj) hx G β y (g7 j _ y (List.getElem?_eq_getElem hj) hy)
    · simp only [hid, if_false] at hi
      exact hr.hp.blk i bk hi
  · have key : ∀ i, (hget (hset hp id ⟨T, cs', fl⟩) i).isSome → (hget hp i).isSome := fun i hi => by
      rw [hget_hset] at hi
      split at hi
      · rename_i e; subst e; rw [hb]; rfl
      · exact hi
    exact hr.hp.inj i j b t t' (key i hi) (key j hj)
/-! Results that are the caller's own, with what else lies in the heap left out. -/
theorem RepH.sub {R : Rg} {β : Ids} {G : Seal} {hp hp' : Hp} {w : World} (h : RepH R β G hp w) (hs : hsub hp hp') : RepH R β G hp' w := by
  refine ⟨h.gs, fun i bk hi => h.blk i bk (hs i bk hi), fun i j b t t' hi hj => ?_, h.keeps, h.dom, h.idr⟩
  have key : ∀ i, (hget hp' i).isSome → (hget hp i).isSome := fun i hi => by
    obtain ⟨b, hb⟩ := Option.isSome_iff_exists.1 hi
    rw [hs i b hb]; rfl
  exact h.inj i j b t t' (key i hi) (key j hj)
def OFin2 (P : Program) (rs : Array ResultVar) (ids : List Nat) (Q : AV → Hp → Prop) : Exit → St → Prop
  | .normal, s | .ret, s => ∃ s' x hp', Le s s' ∧ RV P rs s' x ∧ hsub s'.hp hp' ∧ Within ids x hp' ∧ Q x hp'
  | _, _ => False
theorem ocall_of2 {f : FuncId} {fn : Func} {c : Code} {args : List AV} {ids : List Nat} {Q : AV → Hp → Prop} {n : Nat} {rs : Array ResultVar} (hf : P.funcs[f]? = some fn) (hb : fn.body = some c) (hn : fn.ntmps = n) (hrs : fn.results = rs)
    (h : AW P c ⟨args ++ List.replicate (n - args.length) .any, []⟩ (OFin2 P rs ids Q)) : OCall P f args ids Q := by
  intro _ G w vals hG ⟨hl, hc⟩
  subst hn
  refine calls_of_aw (R := ⟨w, fun _ => False, G, fun _ => none, fun _ => none⟩) (β := nob) (G := G) hf hb hrs (rep_start hl hc ⟨hG, fun id bk h => by simp [hget] at h, fun i j b t t' h => by simp [hget] at h, ⟨rfl, rfl, rfl, Nat.le_refl _, fun _ _ _ => rfl⟩, fun b h => .inl h, idr_nob⟩) h fun e s' hq => ?_
  have key : (∃ s'' x hp', Le s' s'' ∧ RV P rs s'' x ∧ hsub s''.hp hp' ∧ Within ids x hp' ∧ Q x hp') → ∃ s'' x, Le s' s'' ∧ RV P rs s'' x ∧ ∀ β2 G2 y w2, Conc G2 β2 x y → RepH ⟨w, fun _ => False, G, fun _ => none, fun _ => none⟩ β2 G2 s''.hp w2 →
      (fun (e : Ending) (w' : World) => ∃ y G' β' x hp, e = Ending.returned y ∧ Q x hp ∧ Within ids x hp ∧ Conc G' β' x y ∧ RepH ⟨w, fun _ => False, G, fun _ => none, fun _ => none⟩ β' G' hp w') (.returned y) w2 := by
    rintro ⟨s'', x, hp', hle, hrv, hsu, hp, hQ⟩
    exact ⟨s'', x, hle, hrv, fun β2 G2 y w2 hcy hH => ⟨y, G2, β2, x, hp', rfl, hQ, hp, hcy, hH.sub hsu⟩⟩
  cases e with
  | normal => exact ⟨.inl rfl, key hq⟩
  | ret => exact ⟨.inr rfl, key hq⟩
  | _ => exact hq.elim
theorem enterO2 {f : FuncId} {fn : Func} {c : Code} {args fr : List AV} {ids : List Nat} {Q : AV → Hp → Prop} {n : Nat} {rs : Array ResultVar} (hf : P.funcs[f]? = some fn) (hn : fn.ntmps = n)
     (h : AW P c ⟨fr, []⟩ (OFin2 P rs ids Q)) (hb : fn.body = some c := by rfl) (hrs : fn.results = rs := by rfl) (he : args ++ List.replicate (n - args.length) .any = fr := by simp only [go_sem, Nat.reduceAdd, Nat.reduceSub, List.replicate_succ, List.replicate_zero]; exact rfl) : OCall P f args ids Q := ocall_of2 hf hb hn hrs (by rw [he]; exact h)
theorem ofin2_le {rs : Array ResultVar} {ids : List Nat} {Q : AV → Hp → Prop} {e : Exit} {s s' : St} {x : AV} {hp' : Hp} (hle : Le s s') (hrv : RV P rs s' x) (hs : hsub s'.hp hp') (hw : Within ids x hp') (hQ : Q x hp')
    (he : e = .ret ∨ e = .normal := by first | exact .inl rfl | exact .inr rfl) : OFin2 P rs ids Q e s := by
  have : ∃ s' x hp', Le s s' ∧ RV P rs s' x ∧ hsub s'.hp hp' ∧ Within ids x hp' ∧ Q x hp' := ⟨s', x, hp', hle, hrv, hs, hw, hQ⟩
  rcases he with rfl | rfl <;> exact this
theorem ofin2_eq {rs : Array ResultVar} {ids : List Nat} {Q : AV → Hp → Prop} {e : Exit} {s s' : St} {x x' : AV} {hp' : Hp} (hle : Le s s') (hrv : RV P rs s' x) (hx : x = x') (hs : hsub s'.hp hp') (hw : Within ids x' hp') (hQ : Q x' hp')
    (he : e = .ret ∨ e = .normal := by first | exact .inl rfl | exact .inr rfl) : OFin2 P rs ids Q e s := by
  subst hx; exact ofin2_le hle hrv hs hw hQ he
end Go.Ab

set_option linter.unusedSimpArgs false
set_option linter.unusedVariables false
namespace Go.Ab
open Go.RowKit
variable {P : Program}
/-! ### Rows of values that lead into own memory -/
theorem aopx_buildSliceO {d : Tmp} {t el : TypeId} {len : Nat} {parts : Array (Nat × Operand)} {z : Value} {m bw : Nat} {ty : TypeId} {pos : String} {aft : Array Edge} {g : Option (Nat × Bool)} {s : St} {K : St → Prop}
    [hu : TyU P t (.slice el)] [hi : TyI P el z m bw] (hsm : decide (0 < len * m) = true ∧ decide (len * m ≤ 16777216) = true ∧ decide (len * bw ≤ 140737488355328) = true)
    (hd : dense 0 (evParts s parts) = true) (hl : (evParts s parts).length = len) (hok : partsOk (fun i => some (i * m, m)) (len * m) (evParts s parts) = true)
    (hf : s.free d = true) (hm : AV.mentL d ((evParts s parts).flatMap fun p => p.2.cells) = false)
    (hk : K ⟨s.fr.set d (.sl m bw d 0 len), hset s.hp d ⟨el, (evParts s parts).flatMap (fun p => p.2.cells), true⟩⟩) : AOpX P ⟨some d, .buildSlice t len parts, ty, pos, aft, g⟩ s K := by
  intro R β G a w Q hr
  obtain ⟨s1, s2, s3⟩ := hsm
  simp only [decide_eq_true_eq] at s1 s2 s3
  obtain ⟨ie, hie, hz0, hse, _⟩ := hi.ok
  obtain ⟨p1, p2⟩ := evParts_ok hr parts
  have hps := partsOk_len (m := m) (by intro i o s h; simp at h; exact h.2.symm) _ hok
  have hok' : partsOk (fun i => some (i * m, m)) (List.replicate (len * m) AV.any).length (evParts s parts) = true := by simpa using hok
  obtain ⟨zs', e1, e2, e3⟩ := fill_conc (G := G) (β := β) (place := fun i => some (i * m, m)) (evParts s parts) _ (List.replicate (len * m) .any) ((Array.range (len * m)).map (z.cells[· % z.cells.size]!)) p1 (by simp) hok' p2
    (fun j x y hx hy => by
      rw [List.getElem?_replicate] at hx
      split at hx <;> simp at hx
      subst hx; exact .any)
  have hfill : fillA (fun i => some (i * m)) (List.replicate (len * m) AV.any) (evParts s parts) = (evParts s parts).flatMap fun p => p.2.cells := by
    have := fillA_dense (m := m) (evParts s parts) 0 [] (List.replicate (len * m) AV.any) hd (by simp) (by simp [hl]) hps
    simpa using this
  have e2' : (fillA (fun i => some (i * m)) (List.replicate (len * m) AV.any) (evParts s parts)).length = zs'.size := e2
  have e3' : ∀ (j : Nat) x y, (fillA (fun i => some (i * m)) (List.replicate (len * m) AV.any) (evParts s parts))[j]? = some x → zs'[j]? = some y → Conc G β x y := e3
  rw [hfill] at e2' e3'
  have hrun : (Instr.buildSlice t len (parts.map fun (i, x) => (i, a.eval x))).run P w = .ok (.slice (some ⟨w.heap.size, 0, none⟩) len len) (w.alloc (.cells zs' el)) :=
    run_buildSlice w t el len _ zs' ie z hu.ok hie hz0 (by rw [hse]; omega) (by rw [hse]; omega) (by rw [hse]; exact e1)
  have hzl : zs'.size = len * m := by
    rw [← e2']
    have hes : ∀ e ∈ (evParts s parts).map (·.2), e.cells.length = m := fun e he => by
      obtain ⟨p, hp, rfl⟩ := List.mem_map.1 he
      exact hps p hp
    have hfm : ((evParts s parts).map (·.2)).flatMap AV.cells = (evParts s parts).flatMap fun p => p.2.cells := by rw [List.flatMap_map]
    rw [← hfm, flat_len hes]; simp [hl]
  have h2 := hr.newBlk hf el ((evParts s parts).flatMap fun p => p.2.cells) zs' true (by omega) (fun _ => e2') e3' hm
  unfold Oper.wp
  have hexec : (execOp a.eval ⟨some d, .buildSlice t len parts, ty, pos, aft, g⟩).run P w = .ok (.value (.slice (some ⟨w.heap.size, 0, none⟩) len len)) (w.alloc (.cells zs' el)) := by
    simp only [execOp, Sem.run_bind, hrun, Result.andThen_ok]; rfl
  rw [hexec, Oper.upon_value]
  have hm1 : 0 < m := by
    rcases Nat.eq_zero_or_pos m with h | h
    · subst h; omega
    · exact h
  have hlm : len ≤ maxLen := by
    have : len * 1 ≤ len * m := Nat.mul_le_mul_left _ hm1
    simp only [maxLen]; omega
  exact ⟨(Below.refl _ _).alloc (Nat.le_refl _) _, _, _, _, hk, h2.put (some d) (.sl (t := zs'.size) (by simp [Ids.set]) (Nat.le_refl _) (by rw [hzl]; omega) hlm s3)⟩
/-- append of a row that is own memory itself, of another block -/
theorem aop_appendSrc {d : Tmp} {t el : TypeId} {x y : Operand} {sz bw id id2 n m : Nat} {z : Value} {bk bk2 : Blk} {ty : TypeId} {pos : String} {aft : Array Edge} {g : Option (Nat × Bool)} {s : St} {K : St → Prop}
    [hu : TyU P t (.slice el)] [hi : TyI P el z sz bw]
    (hx : s.eval x = .sl sz bw id 0 n) (hb : hget s.hp id = some bk) (hT : bk.T = el) (hl : bk.cs.length = n * sz) (hy : s.eval y = .sl sz bw id2 0 m) (hb2 : hget s.hp id2 = some bk2) (hf2 : bk2.full = true) (hl2 : bk2.cs.length = m * sz) (h1 : allOne bk2.cs = true) (hm2 : AV.mentL id bk2.cs = false)
    (hz : z.cells.size = sz) (hs : 0 < sz) (hw : 0 < bw) (hbytes : (n + m) * bw ≤ 140737488355328)
    (hk : K ⟨(AV.purgeL id s.fr).set d (.sl sz bw id 0 (n + m)), hset (purgeHp id s.hp) id ⟨el, AV.purgeL id bk.cs ++ bk2.cs, false⟩⟩) :
    AOp P ⟨some d, .call { callee := .builtin .append, args := #[x, y], argTypes := #[t, t] }, ty, pos, aft, g⟩ s K := by
  intro R β G a w Q hr
  have e1 := hr.eval x; rw [hx] at e1
  have e2 := hr.eval y; rw [hy] at e2
  generalize hxv : a.eval x = vx at e1
  generalize hyv : a.eval y = vy at e2
  have hlt : id ≤ 999999999 := hr.hp.idr id (conc_sl_id e1)
  obtain ⟨i0, hi0, hz0, hs0, hb0⟩ := hi.ok
  have hexec : ∀ r w', (Builtin.append_ #[t, t] ty #[vx, vy]).run P w = .ok r w' → (execOp a.eval ⟨some d, .call { callee := .builtin .append, args := #[x, y], argTypes := #[t, t] }, ty, pos, aft, g⟩).run P w = .ok (.value r) w' := by
    intro r w' h
    simp [execOp, resolve, invoke, builtin, hxv, hyv, h]
  have hmax : n + m ≤ maxLen := by
    have h2 : (n + m) * 1 ≤ (n + m) * bw := Nat.mul_le_mul_left _ hw
    simp only [maxLen]; omega
  -- the source
  cases e2 with
  | slN hβ2 =>
    exfalso
    have h0 := hr.hp.blk id2 bk2 hb2
    unfold BlkOk at h0
    rw [hβ2] at h0
    rw [h0.2] at hf2; cases hf2
  | @sl _ _ _ _ _ _ c b2 tt2 hβ2 hn2 ht2 hmx2 hbw2 =>
    obtain ⟨q1, q2, arr2, q3, q4, q5, q6, q7⟩ := hr.hp.block hb2 hβ2
    have hys : arr2.toList.length = m * sz := by have := q6 hf2; simp; omega
    generalize hysd : arr2.toList = ys at hys
    have hyl : ys.length = m * sz := hys
    have hflat : bk2.cs.length = ys.length := by rw [hl2, hyl]
    have hsc : ∀ (j : Nat) x y, bk2.cs[j]? = some x → ys[j]? = some y → Conc G β x y := fun j x y h h' => q7 j x y h (by rw [← hysd] at h'; simpa using h')
    have hones : ∀ u ∈ ys, u.oneCell' = true := fun u hm => by
      obtain ⟨j, hj⟩ := List.getElem?_of_mem hm
      have hjl : j < bk2.cs.length := by rw [hflat]; exact lt_of_get hj
      exact (hsc j _ u (List.getElem?_eq_getElem hjl) hj).one (allOne_get h1 (List.getElem?_eq_getElem hjl))
    have hcells : ∀ (j : Nat) u, ys[j]? = some u → w.cell? ((⟨b2, 0, none⟩ : Addr).add j) = some u := fun j u hj => by
      rw [Addr.add_none]
      rw [← hysd] at hj
      simp only [World.cell?, q3]
      simpa using hj
    have hβne : β id ≠ .no := fun e => by have := hr.hp.blk id bk hb; unfold BlkOk at this; rw [e] at this; exact this
    -- what the new row holds
    have newcells : ∀ (arr0 : Array Value) (arr : Array Value) (k : BK), (∀ (j : Nat) x y, bk.cs[j]? = some x → arr0[j]? = some y → Conc G β x y) → bk.cs.length ≤ arr0.size →
        arr.toList.take ((n + m) * sz) = arr0.toList.take (n * sz) ++ ys → ∀ (j : Nat) x y, (AV.purgeL id bk.cs ++ bk2.cs)[j]? = some x → arr[j]? = some y → Conc G (β.set id k) x y := by
      intro arr0 arr k h0 h0l htake j x' y' hx' hy'
      have hjl : j < n * sz + ys.length := by have := lt_of_get hx'; simp [purgeL_len, hl, hflat] at this; exact this
      have hy2 : (arr0.toList.take (n * sz) ++ ys)[j]? = some y' := by
        rw [← htake, List.getElem?_take, if_pos (by rw [Nat.add_mul, ← hyl]; exact hjl)]
        simpa using hy'
      have hlen0 : (arr0.toList.take (n * sz)).length = n * sz := by simp; omega
      by_cases hj : j < n * sz
      · rw [List.getElem?_append_left (by rw [purgeL_len, hl]; exact hj), purgeL_get, Option.map_eq_some_iff] at hx'
        obtain ⟨x0, hx0, rfl⟩ := hx'
        rw [List.getElem?_append_left (by rw [hlen0]; exact hj), List.getElem?_take, if_pos hj] at hy2
        exact (h0 j x0 y' hx0 (by simpa using hy2)).purged (fun i hi => by simp [Ids.set, hi])
      · rw [List.getElem?_append_right (by rw [purgeL_len, hl]; omega), purgeL_len, hl] at hx'
        rw [List.getElem?_append_right (by rw [hlen0]; omega), hlen0] at hy2
        have hmx : AV.ment id x' = false := mentL_get hm2 hx'
        have hpx : AV.purge id x' = x' := by unfold AV.purge; rw [hmx]; rfl
        have := (hsc _ x' y' hx' hy2).purged (β' := β.set id k) (id := id) (fun i hi => by simp [Ids.set, hi])
        rw [hpx] at this
        exact this
    -- the end
    have fin : ∀ (v' : Value) (w' : World) (row : Option Nat) (arr0 : Array Value), (Builtin.append_ #[t, t] ty #[vx, .slice (some ⟨b2, 0, none⟩) m c]).run P w = .ok v' w' → w.grownBy w' row → (∀ b, row = some b → ∃ t, β id = .at b t) →
        (∀ (j : Nat) x y, bk.cs[j]? = some x → arr0[j]? = some y → Conc G β x y) → bk.cs.length ≤ arr0.size →
        w'.ownsRow R.w0.heap.size el sz v' (n + m) (arr0.toList.take (n * sz) ++ ys) ∨ (∃ b tt cap cur, v' = .slice (some ⟨b, 0, none⟩) (n + m) cap ∧ row = some b ∧ w'.heap[b]? = some (.cells cur el (0, 0)) ∧ n + m ≤ cap ∧ cap ≤ maxLen ∧ cur.size = cap * sz ∧ cur.size = tt ∧ cur.toList.take ((n + m) * sz) = arr0.toList.take (n * sz) ++ ys) →
        (∀ b, v'.ownBlock = some b → row = some b ∨ w.heap.size ≤ b) → RK R K (a.put (some d) v') w' := by
      intro v' w' row arr0 hrun hgrow hrow h0 h0l hown hat
      have hown' : (v' = .slice none 0 0 ∧ n + m = 0) ∨ ∃ b cap cur, v' = .slice (some ⟨b, 0, none⟩) (n + m) cap ∧ w'.heap[b]? = some (.cells cur el (0, 0)) ∧ n + m ≤ cap ∧ cap ≤ maxLen ∧ cur.size = cap * sz ∧ cur.toList.take ((n + m) * sz) = arr0.toList.take (n * sz) ++ ys := by
        rcases hown with hown | ⟨b, tt, cap, cur, h1, h2, h3, h4, h5, h6, h7, h8⟩
        · rcases hown.2 with ⟨h1, h2⟩ | ⟨b, cap, cur, h1, h2, h3, h4, h5, h6, h7⟩
          · exact .inl ⟨h1, h2⟩
          · exact .inr ⟨b, cap, cur, h1, h3, h4, h5, h6, h7⟩
        · exact .inr ⟨b, cap, cur, h1, h3, h4, h5, h6, h8⟩
      rcases hown' with ⟨hv, hn0⟩ | ⟨b, cap, cur, hv, hcur, hcap, hcm, hcs, htake⟩
      · have hn : n = 0 := by omega
        have hel : m = 0 := by omega
        have hes : bk2.cs = [] := List.eq_nil_of_length_eq_zero (by rw [hl2, hel]; simp)
        have hbk : bk.cs = [] := List.eq_nil_of_length_eq_zero (by rw [hl, hn]; simp)
        have hrep := hr.regrow (id := id) hgrow hrow (by rw [hb]; rfl) hlt .nil ⟨el, AV.purgeL id bk.cs ++ bk2.cs, false⟩ ⟨by simp [hbk, hes, AV.purgeL], rfl⟩
        refine ⟨_, _, _, hk, hrep.put (some d) ?_⟩
        rw [hv, hn0]
        exact .slN (by simp [Ids.set])
      · have hrep := hr.regrow (id := id) hgrow hrow (by rw [hb]; rfl) hlt (.at b cur.size) ⟨el, AV.purgeL id bk.cs ++ bk2.cs, false⟩
          ⟨hat b (by rw [hv]; rfl), cur, hcur, rfl, by
            simp only [List.length_append, purgeL_len, hl, hflat, hyl, hcs, ← Nat.add_mul]
            exact Nat.mul_le_mul_right _ hcap, (fun h => by cases h), newcells arr0 cur _ h0 h0l htake⟩
        refine ⟨_, _, _, hk, hrep.put (some d) ?_⟩
        rw [hv]
        exact .sl (t := cur.size) (by simp [Ids.set]) hcap (by rw [hcs]; omega) hcm hbytes
    unfold Oper.wp
    cases e1 with
    | slN hβ =>
      have hbk : bk.cs = [] := by have := hr.hp.blk id bk hb; unfold BlkOk at this; rw [hβ] at this; exact this.1
      obtain ⟨v', w', hrun, hown, hgr, _, hat⟩ := run_append_own_at (P := P) w R.w0.heap.size t ty el i0 z sz bw hu.ok hi0 hz0 hs0 hb0 hz hs (.slice none 0 0) 0 [] (World.ownsRow_nil _ _ _ _) ⟨b2, 0, none⟩ m c ys hyl hcells hones hmax hbytes hr.hp.keeps.size
      rw [hexec _ _ hrun, Oper.upon_value]
      exact fin v' w' none #[] hrun hgr (fun _ h => by cases h) (by simp [hbk]) (by simp [hbk]) (.inl (by simpa using hown)) (fun b h => by
        rcases hat with h' | h'
        · rw [h'] at h; cases h
        · rw [h'] at h; injection h with h; exact .inr (by omega))
    | @sl _ _ _ _ _ _ cap b tt hβ hn ht hm hbw =>
      obtain ⟨g1, g2, arr, g3, g4, g5, g6, g7⟩ := hr.hp.block hb hβ
      have hrow : ∀ b', some b = some b' → ∃ t, β id = .at b' t := fun b' h => by injection h with h; subst h; exact ⟨tt, hβ⟩
      have hcs : arr.size = cap * sz := by rw [g4, ← ht]; omega
      -- the owner's base is the least of both
      have hown0 : w.ownsRow 0 el sz (.slice (some ⟨b, 0, none⟩) n cap) n (arr.toList.take (n * sz)) :=
        ⟨by simp; omega, .inr ⟨b, cap, arr, rfl, Nat.zero_le _, by rw [← hT]; exact g3, hn, hm, hcs, rfl⟩⟩
      obtain ⟨v', w', hrun, hown, hgr, _, hat⟩ := run_append_own_at (P := P) w 0 t ty el i0 z sz bw hu.ok hi0 hz0 hs0 hb0 hz hs _ n _ hown0 ⟨b2, 0, none⟩ m c ys hyl hcells hones hmax hbytes (Nat.zero_le _)
      rw [hexec _ _ hrun, Oper.upon_value]
      have hat' : ∀ b', v'.ownBlock = some b' → some b = some b' ∨ w.heap.size ≤ b' := fun b' h => by
        rcases hat with h' | h'
        · rw [h'] at h; exact .inl h
        · rw [h'] at h; injection h with h; exact .inr (by omega)
      rcases hown.2 with ⟨h1', h2'⟩ | ⟨b', cap', cur', h1', h2', h3', h4', h5', h6', h7'⟩
      · exact fin v' w' (some b) arr hrun hgr hrow g7 (by omega) (.inl ⟨hown.1, .inl ⟨h1', h2'⟩⟩) hat'
      · rcases hat' b' (by rw [h1']; rfl) with hbb' | hbb'
        · injection hbb' with hbb'; subst hbb'
          exact fin v' w' (some b) arr hrun hgr hrow g7 (by omega) (.inr ⟨b, cur'.size, cap', cur', h1', rfl, h3', h4', h5', h6', rfl, h7'⟩) hat'
        · exact fin v' w' (some b) arr hrun hgr hrow g7 (by omega) (.inl ⟨hown.1, .inr ⟨b', cap', cur', h1', Nat.le_trans hr.hp.keeps.size hbb', h3', h4', h5', h6', h7'⟩⟩) hat'
/-- A long region's list is printed as an append of lists: written out here. -/
theorem aw_regL {id : Nat} {l l' : List Oper} {b : Bool} {s : St} {Q : Exit → St → Prop} (h : l = l') (k : AW P (.region id l'.toArray b) s Q) : AW P (.region id l.toArray b) s Q := h ▸ k
end Go.Ab
