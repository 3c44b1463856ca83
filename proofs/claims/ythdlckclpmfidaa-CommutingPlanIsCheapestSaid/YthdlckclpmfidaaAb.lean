/- The abstract layer, second half: calls, closures, regions by computation. -/
import Derived.ChangeKeysEq
import Derived.CheckFast
import Derived.KernelRfl
import Derived.Test.YthdlckclpmfidaaAba
set_option linter.unusedSimpArgs false
set_option linter.unusedVariables false
set_option linter.unusedVariables false
set_option linter.unusedSimpArgs false
namespace Go.Ab
open Go.RowKit
variable {P : Program}

/-! ### Calls whose results are the caller's own -/
/-- All ids that are mentioned are listed. -/
def Within (ids : List Nat) (x : AV) (hp : Hp) : Prop := ∀ id, id ∉ ids → AV.ment id x = false ∧ mentHp id hp = false

/-- Called with arguments that mention no id: what it hands back may be new memory, which then is the caller's own. -/
def OCall (P : Program) (f : FuncId) (args : List AV) (ids : List Nat) (Q : AV → Hp → Prop) : Prop :=
  (∀ id ∈ ids, id ≤ 999999999) → ∀ G w vals, Sealed G w → ConcL G args vals → Calls P f vals.toArray w fun e w' => ∃ y G' β' x hp, e = .returned y ∧ Q x hp ∧ Within ids x hp ∧ Conc G' β' x y ∧ RepH ⟨w, fun _ => False, G, fun _ => none, fun _ => none⟩ β' G' hp w'

def OFin (P : Program) (rs : Array ResultVar) (ids : List Nat) (Q : AV → Hp → Prop) : Exit → St → Prop
  | .normal, s | .ret, s => ∃ s' x, Le s s' ∧ RV P rs s' x ∧ Within ids x s'.hp ∧ Q x s'.hp
  | _, _ => False

theorem ocall_of {f : FuncId} {fn : Func} {c : Code} {args : List AV} {ids : List Nat} {Q : AV → Hp → Prop} {n : Nat} {rs : Array ResultVar} (hf : P.funcs[f]? = some fn) (hb : fn.body = some c) (hn : fn.ntmps = n) (hrs : fn.results = rs)
    (h : AW P c ⟨args ++ List.replicate (n - args.length) .any, []⟩ (OFin P rs ids Q)) : OCall P f args ids Q := by
  intro _ G w vals hG ⟨hl, hc⟩
  subst hn
  refine calls_of_aw (R := ⟨w, fun _ => False, G, fun _ => none, fun _ => none⟩) (β := nob) (G := G) hf hb hrs (rep_start hl hc ⟨hG, fun id bk h => by simp [hget] at h, fun i j b t t' h => by simp [hget] at h, ⟨rfl, rfl, rfl, Nat.le_refl _, fun _ _ _ => rfl⟩, fun b h => .inl h, idr_nob⟩) h fun e s' hq => ?_
  have key : (∃ s'' x, Le s' s'' ∧ RV P rs s'' x ∧ Within ids x s''.hp ∧ Q x s''.hp) → ∃ s'' x, Le s' s'' ∧ RV P rs s'' x ∧ ∀ β2 G2 y w2, Conc G2 β2 x y → RepH ⟨w, fun _ => False, G, fun _ => none, fun _ => none⟩ β2 G2 s''.hp w2 →
      (fun (e : Ending) (w' : World) => ∃ y G' β' x hp, e = Ending.returned y ∧ Q x hp ∧ Within ids x hp ∧ Conc G' β' x y ∧ RepH ⟨w, fun _ => False, G, fun _ => none, fun _ => none⟩ β' G' hp w') (.returned y) w2 := by
    rintro ⟨s'', x, hle, hrv, hp, hQ⟩
    exact ⟨s'', x, hle, hrv, fun β2 G2 y w2 hcy hH => ⟨y, G2, β2, x, s''.hp, rfl, hQ, hp, hcy, hH⟩⟩
  cases e with
  | normal => exact ⟨.inl rfl, key hq⟩
  | ret => exact ⟨.inr rfl, key hq⟩
  | _ => exact hq.elim

theorem hget_append (a b : Hp) (i : Nat) : hget (a ++ b) i = (hget a i).or (hget b i) := by
  induction a with
  | nil => simp [hget]
  | cons p r ih =>
    obtain ⟨j, x⟩ := p
    simp only [List.cons_append, hget]
    split
    · simp
    · exact ih

theorem mentHp_key {hp : Hp} {i : Nat} {bk : Blk} (h : hget hp i = some bk) : mentHp i hp = true := by
  induction hp with
  | nil => simp [hget] at h
  | cons p r ih =>
    obtain ⟨j, x⟩ := p
    simp only [hget] at h
    simp only [mentHp]
    split at h
    · rename_i e; simp [e]
    · simp [ih h]
theorem mentHp_cell {hp : Hp} {i k : Nat} {bk : Blk} (h : hget hp k = some bk) (hm : AV.mentL i bk.cs = true) : mentHp i hp = true := by
  induction hp with
  | nil => simp [hget] at h
  | cons p r ih =>
    obtain ⟨j, x⟩ := p
    simp only [hget] at h
    simp only [mentHp]
    split at h
    · injection h with h; subst h; simp [hm]
    · simp [ih h]

theorem Rep.later2 {R : Rg} {β : Ids} {G G' : Seal} {s : St} {a : Act} {w w' : World} (h : Rep R β G s a w) (he : Ext w w') (hG' : Sealed G' w') (hd : ∀ b, G' b ≠ none → G b ≠ none ∨ w.heap.size ≤ b) :
    ∃ G'', Rep R β G'' s a w' ∧ (∀ b o, G' b = some o → G'' b = some o) ∧ ∀ b, G'' b ≠ none → G b ≠ none ∨ G' b ≠ none := by
  obtain ⟨G'', h1, h2⟩ := h.later he hG' hd
  -- keep only what is needed
  let G3 : Seal := fun b => match G b with | some o => some o | none => G' b
  have hgs : Sealed G w' := sealed_ext h.hp.gs he
  have m1 : ∀ b o, G b = some o → G3 b = some o := fun b o hb => by simp [G3, hb]
  have m2 : ∀ b o, G' b = some o → G3 b = some o := fun b o hb => by
    cases hg : G b with
    | none => simp [G3, hg, hb]
    | some o' =>
      have e1 := hgs b o' hg
      have e2 := hG' b o hb
      rw [e1] at e2; injection e2 with e2; subst e2
      exact m1 b _ hg
  refine ⟨G3, ⟨h.defers.mono m1, h1.size, fun i x y hx hy => (h.fr i x y hx hy).mono m1, ⟨fun b o hb => ?_, fun id bk hi => ?_, h1.hp.inj, h1.hp.keeps, fun b hb => ?_, h1.hp.idr⟩⟩, m2, fun b hb => ?_⟩
  · simp only [G3] at hb
    split at hb
    · rename_i o' hg; injection hb with hb; subst hb; exact hgs b _ hg
    · exact hG' b o hb
  · have := h.hp.blk id bk hi
    unfold BlkOk at this ⊢
    cases hβ : β id with
    | no => rw [hβ] at this; exact this
    | nil => rw [hβ] at this; exact this
    | «at» b t =>
      rw [hβ] at this
      obtain ⟨g1, g2, arr', g3, g4, g5, g6, g7⟩ := this
      refine ⟨?_, g2, arr', by rw [he.block b (heap_lt g3)]; exact g3, g4, g5, g6, fun j x y hx hy => (g7 j x y hx hy).mono m1⟩
      simp only [G3, g1]
      cases hq : G' b with
      | none => rfl
      | some o =>
        rcases hd b (by rw [hq]; simp) with h1 | h1
        · exact absurd g1 h1
        · have := heap_lt g3; omega
    | gh o => rw [hβ] at this; exact gh_same this m1 fun x _ y hc => hc.mono m1
  · simp only [G3] at hb
    cases hg : G b with
    | some o => exact h.hp.dom b (by rw [hg]; simp)
    | none =>
      rw [hg] at hb
      rcases hd b hb with h1 | h1
      · exact absurd hg h1
      · exact .inr (.inl (Nat.le_trans h.hp.keeps.size h1))
  · simp only [G3] at hb
    cases hg : G b with
    | none => rw [hg] at hb; exact .inr hb
    | some o => exact .inl (by simp)

theorem RepH.ext {β : Ids} {G G' : Seal} {hp : Hp} {w w' : World} (h : RepH ⟨w, fun _ => False, G, fun _ => none, fun _ => none⟩ β G' hp w') : Ext w w' :=
  have hk := h.keeps
  ⟨hk.os, hk.tape, hk.output, hk.size, fun k hk' => hk.block k hk' (by simp)⟩

/-- A call of which the results are the caller's own. -/
theorem aopx_callO {d : Option Tmp} {f : FuncId} {args : Array Operand} {tys : Array TypeId} {ty : TypeId} {pos : String} {aft : Array Edge} {g : Option (Nat × Bool)} {s : St} {K : St → Prop} {ids : List Nat} {Q : AV → Hp → Prop} [hc : TyC P f]
    (h : OCall P f (evalL s args) ids Q) (hp : AV.purL (evalL s args) = true) (hfree : ∀ id ∈ ids, s.free id = true) (hk : ∀ x hp, Q x hp → K ⟨(s.put d x).fr, hp ++ s.hp⟩) :
    AOpX P ⟨d, .call { callee := .value (.func f), args, argTypes := tys }, ty, pos, aft, g⟩ s K := by
  intro R β G a w Q' hr
  have hrun : (execOp a.eval ⟨d, .call { callee := .value (.func f), args, argTypes := tys }, ty, pos, aft, g⟩).run P w = .ok (.enter f (args.map a.eval)) w := by
    simp [execOp, resolve, Act.eval, Deferred.ofValue, invoke, hc.ok]
  unfold Oper.wp
  rw [hrun, Oper.upon_enter]
  have := h (fun id hid => free_lt (hfree id hid)) G w (args.map a.eval).toList hr.hp.gs (evalL_conc hr args hp)
  simp only [Array.toArray_toList] at this
  refine this.mono fun e w' ⟨y, G', β', x, hp', he, hQ, hwi, hcx, hrh⟩ => ?_
  subst he
  have hext : Ext w w' := RepH.ext hrh
  obtain ⟨G'', hr', hm, hback⟩ := hr.later2 hext hrh.gs (fun b hb => (hrh.dom b hb).imp id (fun h => h.elim id (fun h => h.elim)))
  refine ⟨hext, ?_⟩
  let β2 : Ids := fun id => if id ∈ ids then β' id else β id
  have b1 : ∀ id, id ∈ ids → β2 id = β' id := fun id h => by simp [β2, h]
  have b2 : ∀ id, id ∉ ids → β2 id = β id := fun id h => by simp [β2, h]
  have hin : ∀ id, AV.ment id x = true ∨ mentHp id hp' = true → id ∈ ids := fun id hm => by
    by_cases hi : id ∈ ids
    · exact hi
    · have := hwi id hi; rcases hm with hm | hm
      · rw [this.1] at hm; cases hm
      · rw [this.2] at hm; cases hm
  have hout : ∀ id, id ∈ ids → (∀ (i : Nat) x, s.fr[i]? = some x → AV.ment id x = false) ∧ hget s.hp id = none ∧ ∀ k bk (j : Nat) x, hget s.hp k = some bk → bk.cs[j]? = some x → AV.ment id x = false := fun id h => ment_of_free (hfree id h)
  have hput : (Rep R β G'' (s.put d .any) (a.put d y) w') := hr'.put d .any
  have hold : ∀ x y, (∀ id, id ∈ ids → AV.ment id x = false) → Conc G'' β x y → Conc G'' β2 x y := fun x y hx hc => hc.ext (fun id hm => by
    by_cases hi : id ∈ ids
    · rw [hx id hi] at hm; cases hm
    · exact b2 id hi) (fun _ _ h => h)
  have hnew : ∀ x y, (∀ id, AV.ment id x = true → id ∈ ids) → Conc G' β' x y → Conc G'' β2 x y := fun x y hx hc => hc.ext (fun id hm => b1 id (hx id hm)) hm
  have hxc := hnew x y (fun id h => hin id (.inl h)) hcx
  have hpre : Rep R β2 G'' ⟨s.fr, hp' ++ s.hp⟩ a w' := by
    refine ⟨hr'.defers, hr'.size, fun i u v hu hv => hold u v (fun id hi => (hout id hi).1 i u hu) (hr'.fr i u v hu hv), ⟨hr'.hp.gs, fun i bk hi => ?_, fun i j b t t' hi hj hbi hbj => ?_, hr'.hp.keeps, hr'.hp.dom, fun i hi => ?_⟩⟩
    · rw [hget_append] at hi
      cases hq : hget hp' i with
      | some bk' =>
        rw [hq] at hi; simp at hi; subst hi
        have hii := hin i (.inr (mentHp_key hq))
        have := hrh.blk i bk' hq
        unfold BlkOk at this ⊢
        rw [b1 i hii]
        cases hβ : β' i with
        | no => rw [hβ] at this; exact this
        | nil => rw [hβ] at this; exact this
        | gh o =>
          rw [hβ] at this
          rcases this with ⟨_, h0, _⟩ | ⟨b, es, clock, e0, e1, e2, e3, e4, e5⟩
          · cases h0
          · exact .inr ⟨b, es, clock, e0, e1, .inl (Nat.le_trans hr.hp.keeps.size (e2.elim (fun h => h) (fun h => h.elim))), hm _ _ e3, e4, fun j u v hu hv => hnew u v (fun id hmm => hin id (.inr (mentHp_cell hq (mentL_mem hu hmm)))) (e5 j u v hu hv)⟩
        | «at» b t =>
          rw [hβ] at this
          obtain ⟨g1, g2, arr', g3, g4, g5, g6, g7⟩ := this
          have hge : w.heap.size ≤ b := g2.elim (fun h => h) (fun h => h.elim)
          refine ⟨?_, .inl (Nat.le_trans hr.hp.keeps.size hge), arr', g3, g4, g5, g6, fun j u v hu hv => hnew u v (fun id hm => hin id (.inr (mentHp_cell hq ?_))) (g7 j u v hu hv)⟩
          · cases hg : G'' b with
            | none => rfl
            | some o =>
              rcases hback b (by rw [hg]; simp) with h1 | h1
              · cases hg1 : G b with
                | none => exact absurd hg1 h1
                | some o1 => have := heap_lt (hr.hp.gs b o1 hg1); omega
              · exact absurd g1 h1
          · exact mentL_mem hu hm
      | none =>
        rw [hq] at hi; simp at hi
        have hni : i ∉ ids := fun h => by rw [(hout i h).2.1] at hi; cases hi
        have := hr'.hp.blk i bk hi
        unfold BlkOk at this ⊢
        rw [b2 i hni]
        cases hβ : β i with
        | no => rw [hβ] at this; exact this
        | nil => rw [hβ] at this; exact this
        | gh o =>
          rw [hβ] at this
          exact gh_same this (fun _ _ h => h) fun u hu v hc => by
            obtain ⟨j, hj⟩ := List.getElem?_of_mem hu
            exact hold u v (fun id hi' => (hout id hi').2.2 i bk j u hi hj) hc
        | «at» b t =>
          rw [hβ] at this
          obtain ⟨g1, g2, arr', g3, g4, g5, g6, g7⟩ := this
          exact ⟨g1, g2, arr', g3, g4, g5, g6, fun j u v hu hv => hold u v (fun id hi' => (hout id hi').2.2 i bk j u hi hu) (g7 j u v hu hv)⟩
    · have key : ∀ i b t, (hget (hp' ++ s.hp) i).isSome → β2 i = .at b t → ((hget hp' i).isSome ∧ β' i = .at b t ∧ w.heap.size ≤ b) ∨ ((hget s.hp i).isSome ∧ β i = .at b t ∧ b < w.heap.size) := by
        intro i b t his hb
        rw [hget_append] at his
        cases hq : hget hp' i with
        | some bk' =>
          have hii := hin i (.inr (mentHp_key hq))
          rw [b1 i hii] at hb
          have := hrh.blk i bk' hq
          unfold BlkOk at this
          rw [hb] at this
          exact .inl ⟨rfl, hb, this.2.1.elim (fun h => h) (fun h => h.elim)⟩
        | none =>
          rw [hq] at his; simp at his
          obtain ⟨bk', hq'⟩ := Option.isSome_iff_exists.1 his
          have hni : i ∉ ids := fun h => by rw [(hout i h).2.1] at hq'; cases hq'
          rw [b2 i hni] at hb
          obtain ⟨_, _, arr', g3, _⟩ := hr.hp.block hq' hb
          exact .inr ⟨his, hb, heap_lt g3⟩
      rcases key i b t hi hbi with ⟨a1, a2, a3⟩ | ⟨a1, a2, a3⟩ <;> rcases key j b t' hj hbj with ⟨c1, c2, c3⟩ | ⟨c1, c2, c3⟩
      · exact hrh.inj i j b t t' a1 c1 a2 c2
      · omega
      · omega
      · exact hr.hp.inj i j b t t' a1 c1 a2 c2
    · by_cases hii : i ∈ ids
      · rw [b1 i hii] at hi; exact hrh.idr i hi
      · rw [b2 i hii] at hi; exact hr.hp.idr i hi
  refine ⟨β2, G'', _, hk x hp' hQ, ?_⟩
  have := hpre.put d hxc
  cases d <;> exact this

theorem aop_callO {d : Option Tmp} {f : FuncId} {args : Array Operand} {tys : Array TypeId} {ty : TypeId} {pos : String} {aft : Array Edge} {g : Option (Nat × Bool)} {s : St} {K : St → Prop} {ids : List Nat} {Q : AV → Hp → Prop} [hc : TyC P f]
    (h : OCall P f (evalL s args) ids Q) (hp : AV.purL (evalL s args) = true) (hfree : ∀ id ∈ ids, s.free id = true) (hk : ∀ x hp, Q x hp → K ⟨(s.put d x).fr, hp ++ s.hp⟩) :
    AOp P ⟨d, .call { callee := .value (.func f), args, argTypes := tys }, ty, pos, aft, g⟩ s K := aop_of_x (aopx_callO h hp hfree hk)

theorem within_sl {i sz bw off n : Nat} {T : TypeId} {cs : List AV} {full : Bool} (h : AV.purL cs = true) : Within [i] (.sl sz bw i off n) [(i, ⟨T, cs, full⟩)] := by
  intro id hid
  have hne : ¬ i = id := fun e => hid (by simp [e])
  have hm : AV.mentL id cs = false := by
    cases hq : AV.mentL id cs with
    | false => rfl
    | true =>
      have := purgeL_pur (id := id) h
      exfalso
      have key : ∀ l : List AV, AV.purL l = true → AV.mentL id l = true → False := by
        intro l
        induction l with
        | nil => intro _ h; simp [AV.mentL] at h
        | cons x r ih =>
          intro hp hm
          simp only [AV.purL, Bool.and_eq_true] at hp
          simp only [AV.mentL, Bool.or_eq_true] at hm
          rcases hm with hm | hm
          · have := purge_of_pur (id := id) hp.1
            unfold AV.purge at this
            rw [if_pos hm] at this
            subst this
            simp [AV.ment] at hm
          · exact ih hp.2 hm
      exact key cs h hq
  exact ⟨by simp [AV.ment, hne], by simp [mentHp, hne, hm]⟩
end Go.Ab

set_option linter.unusedVariables false
set_option linter.unusedSimpArgs false
namespace Go.Ab
open Go.RowKit
variable {P : Program}

/-- `[]T{}`: an empty row of the call's own. -/
theorem aopx_buildSlice0 {d : Tmp} {t el : TypeId} {z : Value} {m bw : Nat} {ty : TypeId} {pos : String} {aft : Array Edge} {g : Option (Nat × Bool)} {s : St} {K : St → Prop}
    [hu : TyU P t (.slice el)] [hi : TyI P el z m bw] (id : Nat) (hf : s.free id = true) (hk : K ⟨s.fr.set d (.sl m bw id 0 0), hset s.hp id ⟨el, [], true⟩⟩) :
    AOpX P ⟨some d, .buildSlice t 0 #[], ty, pos, aft, g⟩ s K := by
  intro R β G a w Q hr
  have h1 := hr.newBlk hf el [] #[] true (by simp) (by simp) (by simp) (by simp [AV.mentL])
  obtain ⟨i, hi1, hi2, hi3, hi4⟩ := hi.ok
  have hrun : (execOp a.eval ⟨some d, .buildSlice t 0 #[], ty, pos, aft, g⟩).run P w = .ok (.value (.slice (some ⟨w.heap.size, 0, none⟩) 0 0)) (w.alloc (.cells #[] el (0, 0))) := by
    have he : ∀ f : Nat → Value, (Array.range 0).map f = #[] := fun f => by apply Array.ext <;> simp
    simp [execOp, Instr.buildSlice, run_underlying hu.ok, sizeOf, typeInfo, hi1, newRow, Instr.fill, he]
  unfold Oper.wp
  rw [hrun, Oper.upon_value]
  exact ⟨(Below.refl _ _).alloc (Nat.le_refl _) _, _, _, _, hk, h1.put (some d) (.sl (t := 0) (c := 0) (by simp [Ids.set]) (Nat.le_refl _) (by simp) (by simp [maxLen]) (by simp))⟩
theorem aop_buildSlice0 {d : Tmp} {t el : TypeId} {z : Value} {m bw : Nat} {ty : TypeId} {pos : String} {aft : Array Edge} {g : Option (Nat × Bool)} {s : St} {K : St → Prop}
    [hu : TyU P t (.slice el)] [hi : TyI P el z m bw] (id : Nat) (hf : s.free id = true) (hk : K ⟨s.fr.set d (.sl m bw id 0 0), hset s.hp id ⟨el, [], true⟩⟩) :
    AOp P ⟨some d, .buildSlice t 0 #[], ty, pos, aft, g⟩ s K := aop_of_x (aopx_buildSlice0 id hf hk)

/-- `make([]T, n)` of elements of one cell. -/
theorem aopx_makeSlice {d : Tmp} {t el : TypeId} {x y : Operand} {n : Int} {z : Value} {bw : Nat} {ty : TypeId} {pos : String} {aft : Array Edge} {g : Option (Nat × Bool)} {s : St} {K : St → Prop}
    [hu : TyU P t (.slice el)] [hi : TyI P el z 1 bw] (hx : s.eval x = .int n) (hy : s.eval y = .int n) (h0 : 0 ≤ n) (hb : n.toNat * bw ≤ 140737488355328) (hw : 0 < bw) (hz : z.cells = #[z]) (id : Nat) (hf : s.free id = true)
    (hk : K ⟨s.fr.set d (.sl 1 bw id 0 n.toNat), hset s.hp id ⟨el, List.replicate n.toNat (.v z), true⟩⟩) :
    AOpX P ⟨some d, .makeSlice t x y, ty, pos, aft, g⟩ s K := by
  intro R β G a w Q hr
  have hmr : ∀ (id : Nat) (z : Value) (n : Nat), AV.mentL id (List.replicate n (.v z)) = false := by
    intro id z n; induction n with
    | zero => rfl
    | succ n ih => simp [List.replicate_succ, AV.mentL, AV.ment, ih]
  have h1 := hr.newBlk hf el (List.replicate n.toNat (.v z)) ((Array.range n.toNat).map fun _ => z) true (by simp) (by simp) (by
    intro j u v hu hv
    rw [List.getElem?_replicate] at hu
    split at hu <;> simp at hu
    subst hu
    rw [Array.getElem?_map] at hv
    rw [Option.map_eq_some_iff] at hv
    obtain ⟨_, _, rfl⟩ := hv
    exact .v) (hmr _ _ _)
  obtain ⟨i, hi1, hi2, hi3, hi4⟩ := hi.ok
  have e1 := hr.eval x; rw [hx] at e1
  have e2 := hr.eval y; rw [hy] at e2
  have hnm : n.toNat ≤ maxLen := by
    have : n.toNat * 1 ≤ n.toNat * bw := Nat.mul_le_mul_left _ hw
    have h2 : n.toNat ≤ 140737488355328 := by omega
    exact Nat.le_trans h2 (by decide)
  have hwr : IntKind.i64.wrap n = n := by
    have : n.toNat * 1 ≤ n.toNat * bw := Nat.mul_le_mul_left _ hw
    exact wrap_in (by omega) (by omega)
  have n2 : ¬ (281474976710656 < (bw : Int) * n) := by
    have : ((n.toNat * bw : Nat) : Int) ≤ 140737488355328 := by omega
    rw [Int.natCast_mul, Int.toNat_of_nonneg h0, Int.mul_comm] at this
    omega
  have hrun : (execOp a.eval ⟨some d, .makeSlice t x y, ty, pos, aft, g⟩).run P w = .ok (.value (.slice (some ⟨w.heap.size, 0, none⟩) n.toNat n.toNat)) (w.alloc (.cells ((Array.range n.toNat).map fun _ => z) el (0, 0))) := by
    have nr : ¬ (140737488355328 < n.toNat * bw) := by omega
    simp only [execOp, conc_int e1, conc_int e2]
    have he : ∀ f : Nat → Value, (Array.range 0).map f = #[] := fun f => by apply Array.ext <;> simp
    by_cases hz0 : n.toNat = 0
    · simp [Instr.makeSlice, run_underlying hu.ok, sizeOf, typeInfo, hi1, hi3, hi4, newRow, asInt, asIntOf, hwr, n2, Int.not_lt.2 h0, askRoom, roomBytes, nr, hz0, he]
    · simp [Instr.makeSlice, run_underlying hu.ok, sizeOf, typeInfo, hi1, hi3, hi4, newRow, asInt, asIntOf, hwr, n2, Int.not_lt.2 h0, askRoom, roomBytes, nr, hz0, zeroValue, hi2, hz, Nat.mod_one]
  unfold Oper.wp
  rw [hrun, Oper.upon_value]
  exact ⟨(Below.refl _ _).alloc (Nat.le_refl _) _, _, _, _, hk, h1.put (some d) (.sl (t := n.toNat) (c := n.toNat) (by simp [Ids.set]) (Nat.le_refl _) (by simp) hnm hb)⟩
theorem aop_makeSlice {d : Tmp} {t el : TypeId} {x y : Operand} {n : Int} {z : Value} {bw : Nat} {ty : TypeId} {pos : String} {aft : Array Edge} {g : Option (Nat × Bool)} {s : St} {K : St → Prop}
    [hu : TyU P t (.slice el)] [hi : TyI P el z 1 bw] (hx : s.eval x = .int n) (hy : s.eval y = .int n) (h0 : 0 ≤ n) (hb : n.toNat * bw ≤ 140737488355328) (hw : 0 < bw) (hz : z.cells = #[z]) (id : Nat) (hf : s.free id = true)
    (hk : K ⟨s.fr.set d (.sl 1 bw id 0 n.toNat), hset s.hp id ⟨el, List.replicate n.toNat (.v z), true⟩⟩) :
    AOp P ⟨some d, .makeSlice t x y, ty, pos, aft, g⟩ s K := aop_of_x (aopx_makeSlice hx hy h0 hb hw hz id hf hk)

/-! ### Fields of a struct that is at hand -/
theorem pv_field {s : St} {x : Operand} {t ft : TypeId} {fs : Array Field} {f : Field} {i off : Nat} {d : TypeDesc} {cs : List AV} {c : AV} [hu : TyU P t (.struct fs)] [hd : TyU P ft d]
    (hx : s.eval x = .agg cs) (hf : fs[i]? = some f) (hft : f.type = ft) (hda : aggB d = false) (hc : cs[f.offset]? = some c) : PV P (.field t x i) s c :=
  pv_of fun R β G a w hr => by
    have e1 := hr.eval x; rw [hx] at e1
    generalize hxv : a.eval x = vx at e1
    cases e1 with
    | agg xs hl hs =>
      have hlt : f.offset < xs.length := by rw [← hl]; exact lt_of_get hc
      refine ⟨xs[f.offset], hs _ _ _ hc (List.getElem?_eq_getElem hlt), fun w' d' ty pos aft g => ?_⟩
      have : xs.toArray[f.offset]? = some xs[f.offset] := by simp [List.getElem?_eq_getElem hlt]
      subst hft
      simp [execOp, hxv, Instr.field, run_underlying hu.ok, hf, asAgg, part, run_isAgg hd.ok, hda, List.getElem?_eq_getElem hlt]

/-! ### Slicing what is sealed -/
theorem conc_cut {G : Seal} {β : Ids} {sz bw l h : Nat} {es : List AV} {A : Option Addr} {c : Nat} (hc : Conc G β (.isl sz bw es) (.slice A es.length c)) (h1 : l ≤ h) (h2 : h ≤ es.length) :
    Conc G β (.isl sz bw ((es.take h).drop l)) (.slice (if c = l then A else A.map (·.add (l * sz))) (h - l) (c - l)) := by
  cases hc with
  | isl ys hu hl hcc hb hA hr hs =>
    have hlen : ((es.take h).drop l).length = h - l := by simp; omega
    have hu' : ∀ e ∈ (es.take h).drop l, e.cells.length = sz := fun e he => hu e (List.mem_of_mem_take (List.mem_of_mem_drop he))
    have hsub : ∀ (j : Nat) x, (((es.take h).drop l).flatMap AV.cells)[j]? = some x → (es.flatMap AV.cells)[l * sz + j]? = some x := by
      intro j x hx
      have e1 : es = es.take l ++ ((es.take h).drop l ++ es.drop h) := by
        have a1 : es.take l = (es.take h).take l := by rw [List.take_take, Nat.min_eq_left h1]
        rw [a1, ← List.append_assoc, List.take_append_drop, List.take_append_drop]
      have hl1 : ((es.take l).flatMap AV.cells).length = l * sz := by
        rw [flat_len (fun e he => hu e (List.mem_of_mem_take he)), List.length_take, Nat.min_eq_left (by omega)]
      rw [e1, List.flatMap_append, List.flatMap_append, List.getElem?_append_right (by omega), hl1, Nat.add_sub_cancel_left, List.getElem?_append_left (lt_of_get hx)]
      exact hx
    have key := Conc.isl (G := G) (β := β) (sz := sz) (bw := bw) (es := (es.take h).drop l) (A := if c = l then A else A.map (·.add (l * sz))) (c := c - l) ((ys.drop (l * sz)).take ((h - l) * sz)) hu'
      (by rw [hlen]; simp only [List.length_take, List.length_drop, hl]
          have : (h - l) * sz + l * sz ≤ es.length * sz := by rw [← Nat.add_mul]; exact Nat.mul_le_mul_right _ (by omega)
          omega)
      (by rw [hlen]; omega) (by rw [hlen]; exact Nat.le_trans (Nat.mul_le_mul_right _ (by omega)) hb)
      (fun h0 => by
        rw [hlen] at h0
        have hne := hA (by omega)
        split
        · exact hne
        · cases A with
          | none => exact absurd rfl hne
          | some a => simp)
      (fun j y hy => by
        have hjl : j < (h - l) * sz := by have := lt_of_get hy; simp at this; omega
        rw [List.getElem?_take, if_pos hjl, List.getElem?_drop] at hy
        obtain ⟨a, ha, hg⟩ := hr _ y hy
        have hcl : ¬ c = l := by
          intro e; have : 0 < h - l := by rcases Nat.eq_zero_or_pos (h - l) with h0 | h0; rw [h0] at hjl; omega; exact h0
          omega
        rw [if_neg hcl, ha]
        refine ⟨_, rfl, ?_⟩
        have : (a.add (l * sz)).add j = a.add (l * sz + j) := by
          unfold Addr.add
          by_cases e1 : l * sz = 0
          · simp [e1]
          · by_cases e2 : j = 0
            · simp [e1, e2]
            · simp [e1, e2, Nat.add_assoc]
        rw [this]; exact hg)
      (fun j x y hx hy => by
        have hjl : j < (h - l) * sz := by have := lt_of_get hy; simp at this; omega
        rw [List.getElem?_take, if_pos hjl, List.getElem?_drop] at hy
        exact hs _ x y (hsub j x hx) hy)
    rw [hlen] at key
    exact key

theorem run_sliceI {t el : TypeId} {z : Value} {sz b : Nat} (hu : TyU P t (.slice el)) (hi : TyI P el z sz b) (A : Option Addr) (len c : Nat) (lo hi' : Option Int) (w : World)
    (h1 : 0 ≤ lo.getD 0) (h2 : lo.getD 0 ≤ hi'.getD len) (h3 : hi'.getD len ≤ c) :
    (Instr.sliceAt t (.slice A len c) (lo.map (.int .i64)) (hi'.map (.int .i64)) none).run P w = .ok (.slice (if c = (lo.getD 0).toNat then A else A.map (·.add ((lo.getD 0).toNat * sz))) ((hi'.getD len).toNat - (lo.getD 0).toNat) (c - (lo.getD 0).toNat)) w := by
  cases lo with
  | none =>
    cases hi' with
    | none => simp [Instr.sliceAt, Instr.slice, run_underlying hu.ok, Instr.sliceBounds, run_sizeOf_i hi]
    | some m =>
      simp only [Option.getD_none, Option.getD_some] at h1 h2 h3
      simp [Instr.sliceAt, Instr.slice, run_underlying hu.ok, Instr.sliceBounds, Instr.sliceBound, run_sizeOf_i hi, asIntOf, h2, h3]
  | some l =>
    cases hi' with
    | none =>
      simp only [Option.getD_none, Option.getD_some] at h1 h2 h3
      simp [Instr.sliceAt, Instr.slice, run_underlying hu.ok, Instr.sliceBounds, Instr.sliceBound, run_sizeOf_i hi, asIntOf, h1, h2]
    | some m =>
      simp only [Option.getD_some] at h1 h2 h3
      have h0 : 0 ≤ m := Int.le_trans h1 h2
      have hl : max m 0 = m := Int.max_eq_left h0
      have hnl : ¬ m < l := by omega
      simp [Instr.sliceAt, Instr.slice, run_underlying hu.ok, Instr.sliceBounds, Instr.sliceBound, run_sizeOf_i hi, asIntOf, h1, h3, hl, h0, h2, hnl]

theorem pv_sliceG {s : St} {t el : TypeId} {x : Operand} {lo hi : Option Operand} {L H : Option Int} {z : Value} {sz bw b : Nat} {es : List AV} [hu : TyU P t (.slice el)] [hT : TyI P el z sz b]
    (hx : s.eval x = .isl sz bw es) (hlo : lo.map s.eval = L.map AV.int) (hhi : hi.map s.eval = H.map AV.int) (h1 : 0 ≤ L.getD 0) (h2 : L.getD 0 ≤ H.getD es.length) (h3 : H.getD es.length ≤ es.length) :
    PV P (.slice t x lo hi none) s (.isl sz bw ((es.take (H.getD es.length).toNat).drop (L.getD 0).toNat)) :=
  pv_of fun R β G a w hr => by
    have e1 := hr.eval x; rw [hx] at e1
    have key : ∀ (o : Option Operand) (X : Option Int), o.map s.eval = X.map AV.int → o.map a.eval = X.map (Value.int .i64) := by
      intro o X h
      cases o with
      | none => cases X with
        | none => rfl
        | some _ => simp at h
      | some o => cases X with
        | none => simp at h
        | some n =>
          simp only [Option.map_some, Option.some.injEq] at h ⊢
          have := hr.eval o; rw [h] at this; exact conc_int this
    generalize hxv : a.eval x = vx at e1
    have e1' := e1
    cases e1' with
    | @isl _ _ _ _ A c ys hu' hl hc hb hA hrd hs =>
      have hcut := conc_cut (l := (L.getD 0).toNat) (h := (H.getD es.length).toNat) e1 (by omega) (by omega)
      refine ⟨_, hcut, fun w' d ty pos aft g => ?_⟩
      have := run_sliceI (P := P) hu hT A es.length c L H w' h1 h2 (by omega)
      simp only [execOp, hxv, key lo L hlo, key hi H hhi, Option.map_none, Sem.run_bind, this, Result.andThen_ok, Sem.run_pure]

theorem pv_sliceLo {s : St} {t el : TypeId} {x l : Operand} {n : Int} {z : Value} {sz bw b : Nat} {es : List AV} [hu : TyU P t (.slice el)] [hT : TyI P el z sz b]
    (hx : s.eval x = .isl sz bw es) (hl : s.eval l = .int n) (h1 : 0 ≤ n) (h2 : n ≤ es.length) : PV P (.slice t x (some l) none none) s (.isl sz bw (es.drop n.toNat)) := by
  have := pv_sliceG (P := P) (t := t) (b := b) (lo := some l) (hi := none) (L := some n) (H := none) hx (by simp [hl]) (by simp) (by simpa using h1) (by simpa using h2) (by simp)
  simpa using this
theorem pv_sliceHi {s : St} {t el : TypeId} {x l : Operand} {n : Int} {z : Value} {sz bw b : Nat} {es : List AV} [hu : TyU P t (.slice el)] [hT : TyI P el z sz b]
    (hx : s.eval x = .isl sz bw es) (hl : s.eval l = .int n) (h1 : 0 ≤ n) (h2 : n ≤ es.length) : PV P (.slice t x none (some l) none) s (.isl sz bw (es.take n.toNat)) := by
  have := pv_sliceG (P := P) (t := t) (b := b) (lo := none) (hi := some l) (L := none) (H := some n) hx (by simp) (by simp [hl]) (by simp) (by simpa using h1) (by simpa using h2)
  simpa using this
theorem pv_slice2 {s : St} {t el : TypeId} {x l h : Operand} {n m : Int} {z : Value} {sz bw b : Nat} {es : List AV} [hu : TyU P t (.slice el)] [hT : TyI P el z sz b]
    (hx : s.eval x = .isl sz bw es) (hl : s.eval l = .int n) (hh : s.eval h = .int m) (h1 : 0 ≤ n) (h2 : n ≤ m) (h3 : m ≤ es.length) : PV P (.slice t x (some l) (some h) none) s (.isl sz bw ((es.take m.toNat).drop n.toNat)) := by
  have := pv_sliceG (P := P) (t := t) (b := b) (lo := some l) (hi := some h) (L := some n) (H := some m) hx (by simp [hl]) (by simp [hh]) (by simpa using h1) (by simpa using h2) (by simpa using h3)
  simpa using this
end Go.Ab
namespace Go.Ab
/-! ### Ids that are in no use -/
theorem mentL_pur {id : Nat} {l : List AV} (h : AV.purL l = true) : AV.mentL id l = false := by
  have h2 := purgeL_pur (id := id) h
  induction l with
  | nil => rfl
  | cons x r ih =>
    simp only [AV.purL, Bool.and_eq_true] at h
    simp only [AV.purgeL, List.cons.injEq] at h2
    simp only [AV.mentL, ih h.2 h2.2, Bool.or_false]
    cases hm : AV.ment id x with
    | false => rfl
    | true =>
      have := h2.1
      unfold AV.purge at this
      rw [if_pos hm] at this
      subst this
      simp [AV.ment] at hm
theorem mentL_map {α : Type} (id : Nat) (f : α → AV) (xs : List α) (h : ∀ a, (f a).pur = true) : AV.mentL id (xs.map f) = false := mentL_pur (purL_map f xs h)
@[simp] theorem mentL_ints (id : Nat) (xs : List Int) : AV.mentL id (xs.map AV.int) = false := mentL_map id _ xs (fun _ => rfl)
@[simp] theorem mentL_bools (id : Nat) (xs : List Bool) : AV.mentL id (xs.map AV.bool) = false := mentL_map id _ xs (fun _ => rfl)
@[simp] theorem mentL_vs (id : Nat) (xs : List Value) : AV.mentL id (xs.map AV.v) = false := mentL_map id _ xs (fun _ => rfl)
@[simp] theorem mentL_append (id : Nat) (a b : List AV) : AV.mentL id (a ++ b) = (AV.mentL id a || AV.mentL id b) := by
  induction a with
  | nil => rfl
  | cons x r ih => simp [AV.mentL, ih, Bool.or_assoc]
@[simp] theorem mentL_replicate (id n : Nat) (x : Value) : AV.mentL id (List.replicate n (.v x)) = false := by
  induction n with
  | zero => rfl
  | succ n ih => simp [List.replicate_succ, AV.mentL, AV.ment, ih]
/-- Rows of structs: the cells of a mapped list. -/
theorem purL_flat {α : Type} (f : α → List AV) (xs : List α) (h : ∀ a, AV.purL (f a) = true) : AV.purL (xs.flatMap f) = true := by
  induction xs with
  | nil => rfl
  | cons x l ih => simp [purL_append, ih, h x]
theorem mentL_flat {α : Type} (id : Nat) (f : α → List AV) (xs : List α) (h : ∀ a, AV.purL (f a) = true) : AV.mentL id (xs.flatMap f) = false := mentL_pur (purL_flat f xs h)
theorem purgeL_flat {α : Type} (id : Nat) (f : α → List AV) (xs : List α) (h : ∀ a, AV.purL (f a) = true) : AV.purgeL id (xs.flatMap f) = xs.flatMap f := purgeL_pur (purL_flat f xs h)
/-- No id of a list is in use. -/
theorem free_one {s : St} {i : Nat} (h : s.free i = true) : ∀ id ∈ [i], s.free id = true := by
  intro id hid; simp only [List.mem_singleton] at hid; subst hid; exact h
end Go.Ab
namespace Go.Ab
variable {P : Program}
theorem aop_le {o : Oper} {s s' : St} {K : St → Prop} (hle : Le s s') (h : AOp P o s' K) : AOp P o s K :=
  fun R β G a w Q hr => let ⟨β', G', hr'⟩ := hle R β G a w hr; h R β' G' a w Q hr'
end Go.Ab
namespace Go.Ab
theorem hsub_keep {i : Nat} {b : Blk} {l l' : Hp} (h : hsub l l') : hsub ((i, b) :: l) ((i, b) :: l') := by
  intro k x hx
  simp only [hget] at hx ⊢
  split
  · rename_i e; rw [if_pos e] at hx; exact hx
  · rename_i e; rw [if_neg e] at hx; exact h k x hx
theorem hsub_drop {i : Nat} {b : Blk} {l l' : Hp} (hn : (hget l' i).isNone = true) (h : hsub l l') : hsub ((i, b) :: l) l' := by
  intro k x hx
  simp only [hget]
  split
  · rename_i e; subst e; rw [hx] at hn; cases hn
  · exact h k x hx
end Go.Ab
namespace Go.Ab
open Go.RowKit
variable {P : Program}
theorem mapM_get {α β : Type} {g : α → Option β} : ∀ {l : List α} {ys : List β}, l.mapM g = some ys → ∀ {j : Nat} {y : β}, ys[j]? = some y → ∃ x, l[j]? = some x ∧ g x = some y
  | [], ys, h, j, y, hy => by simp at h; subst h; simp at hy
  | x :: l, ys, h, j, y, hy => by
    rw [List.mapM_cons] at h
    cases hg : g x with
    | none => rw [hg] at h; simp at h
    | some y0 =>
      cases hm : l.mapM g with
      | none => rw [hg, hm] at h; simp at h
      | some ys0 =>
        rw [hg, hm] at h
        simp at h
        subst h
        cases j with
        | zero => simp at hy; subst hy; exact ⟨x, rfl, hg⟩
        | succ j => simpa using mapM_get hm (by simpa using hy)
theorem tyF_get {t : TypeId} {pl : List (Nat × Nat)} (h : TyF P t pl) {f off n : Nat} (hf : pl[f]? = some (off, n)) : ∃ (fs : Array Field) (fl : Field) (z : Option Value) (b : Nat), P.underlying t = some (.struct fs) ∧ fs[f]? = some fl ∧ fl.offset = off ∧ ∃ i, P.info? fl.type = some i ∧ i.size = n := by
  obtain ⟨fs, h1, h2⟩ := h.ok
  obtain ⟨fl, h3, h4⟩ := mapM_get h2 hf
  cases hi : P.info? fl.type with
  | none => rw [hi] at h4; simp at h4
  | some i =>
    rw [hi] at h4
    simp at h4
    exact ⟨fs, fl, none, 0, h1, by simpa using h3, h4.1, i, hi, h4.2⟩
theorem run_fieldAtF {t : TypeId} {pl : List (Nat × Nat)} (h : TyF P t pl) {f off n : Nat} (hf : pl[f]? = some (off, n)) (hn : n ≠ 0)
    (ad : Addr) (w : World) : (Instr.fieldAt t (.pointer (some ad)) f).run P w = .ok (.pointer (some (ad.add off))) w := by
  obtain ⟨fs, fl, _, _, h1, h2, h3, i, h4, h5⟩ := tyF_get h hf
  subst h3
  simp [Instr.fieldAt, run_underlying h1, h2, Instr.sureAddr, fieldPlace, sizeOf, typeInfo, h4, h5, hn]
theorem pv_fieldAddrF {s : St} {x : Operand} {t : TypeId} {pl : List (Nat × Nat)} {f o n id off : Nat} [hF : TyF P t pl] (hx : s.eval x = .ptr id off)
    (hf : pl[f]? = some (o, n)) (hn : n ≠ 0) : PV P (.fieldAddr t x f) s (.ptr id (off + o)) :=
  pv_of fun _ _ _ a _ h => by
    have h1 := h.eval x; rw [hx] at h1
    generalize he : a.eval x = y at h1
    cases h1 with
    | ptr hb => exact ⟨_, .ptr hb, fun w' _ _ _ _ _ => by simp [execOp, he, run_fieldAtF hF hf hn, Addr.add_none]⟩
theorem pv_fieldAddrIF {s : St} {x : Operand} {t : TypeId} {pl : List (Nat × Nat)} {f o n : Nat} {cs : List AV} [hF : TyF P t pl] (hx : s.eval x = .iptr cs)
    (hf : pl[f]? = some (o, n)) (hn : n ≠ 0) : PV P (.fieldAddr t x f) s (.iptr (cs.drop o)) :=
  pv_of fun _ _ _ a _ h => by
    have h1 := h.eval x; rw [hx] at h1
    generalize he : a.eval x = y at h1
    cases h1 with
    | iptr ys hl hr hs => exact ⟨_, conc_iptr_drop (.iptr ys hl hr hs) _, fun w' _ _ _ _ _ => by simp [execOp, he, run_fieldAtF hF hf hn]⟩
end Go.Ab
namespace Go.Ab
variable {P : Program}
/-- .. of a slice that lies in a block of the call's own. -/
theorem aw_boundH {c : Code} {s : St} {Q : Exit → St → Prop} {id j sz bw : Nat} {bk : Blk} {es : List AV} (hb : hget s.hp id = some bk) (hx : bk.cs[j]? = some (.isl sz bw es)) (h : es.length * bw ≤ 140737488355328 → AW P c s Q) : AW P c s Q := by
  intro ro ho R β G a w hr
  have h0 := hr.hp.blk id bk hb
  unfold BlkOk at h0
  cases hβ : β id with
  | no => rw [hβ] at h0; exact h0.elim
  | nil => rw [hβ] at h0; rw [h0.1] at hx; simp at hx
  | gh o =>
    rw [hβ] at h0
    obtain ⟨outs, g5, g7, _⟩ := GhB.view h0
    have hj : j < outs.length := by have := lt_of_get hx; omega
    have hc := g7 j _ _ hx (List.getElem?_eq_getElem hj)
    generalize outs[j] = y at hc
    cases hc with
    | isl ys hu hl hcc hbb hA hrd hs => exact h hbb ro ho R β G a w hr
  | «at» b t =>
    rw [hβ] at h0
    obtain ⟨_, _, arr, _, g4, g5, _, g7⟩ := h0
    have hj : j < arr.size := by have := lt_of_get hx; omega
    have hc := g7 j _ _ hx (Array.getElem?_eq_getElem hj)
    generalize arr[j] = y at hc
    cases hc with
    | isl ys hu hl hcc hbb hA hrd hs => exact h hbb ro ho R β G a w hr
end Go.Ab

/-! ### Short names for what a walk simplifies with -/
namespace Go.Ab
theorem n1 : type_of% @List.set_cons_zero := @List.set_cons_zero
theorem n2 : type_of% @List.set_cons_succ := @List.set_cons_succ
theorem n3 : type_of% @List.getD_cons_zero := @List.getD_cons_zero
theorem n4 : type_of% @List.getD_cons_succ := @List.getD_cons_succ
theorem n5 : type_of% @List.getElem?_cons_zero := @List.getElem?_cons_zero
theorem n6 : type_of% @List.getElem?_cons_succ := @List.getElem?_cons_succ
theorem n7 : type_of% @List.map_cons := @List.map_cons
theorem n8 : type_of% @List.map_nil := @List.map_nil
theorem n9 : type_of% @List.drop_zero := @List.drop_zero
theorem n10 : type_of% @List.drop_succ_cons := @List.drop_succ_cons
theorem n11 : type_of% @List.take_zero := @List.take_zero
theorem n12 : type_of% @List.take_succ_cons := @List.take_succ_cons
theorem n13 : type_of% @Nat.zero_add := @Nat.zero_add
theorem n14 : type_of% @Nat.add_zero := @Nat.add_zero
theorem n15 : type_of% @if_true := @if_true
theorem n16 : type_of% @if_false := @if_false
theorem n17 : type_of% @Option.map_some := @Option.map_some
theorem n18 : type_of% @Option.map_none := @Option.map_none
theorem n19 : type_of% @List.toList_toArray := @List.toList_toArray
theorem n20 : type_of% @Bool.not_true := @Bool.not_true
theorem n21 : type_of% @Bool.not_false := @Bool.not_false
theorem n22 : type_of% @Bool.false_eq_true := @Bool.false_eq_true
theorem n23 : type_of% @ite_true := @ite_true
theorem n24 : type_of% @ite_false := @ite_false
theorem n25 : type_of% @Bool.if_true_left := @Bool.if_true_left
theorem n26 : type_of% @Bool.if_false_right := @Bool.if_false_right
theorem n27 : type_of% @Int.toNat_natCast := @Int.toNat_natCast
theorem n28 : type_of% @Int.toNat_zero := @Int.toNat_zero
theorem n29 : type_of% @List.length_map := @List.length_map
theorem n30 : type_of% @toNat_pred := @toNat_pred
theorem n31 : type_of% @toNat_succ := @toNat_succ
theorem n32 : type_of% @purge_any := @purge_any
theorem n33 : type_of% @purge_v := @purge_v
theorem n34 : type_of% @purge_isl := @purge_isl
theorem n35 : type_of% @purge_iptr := @purge_iptr
theorem n36 : type_of% @purge_ptr := @purge_ptr
theorem n37 : type_of% @purge_sl := @purge_sl
theorem n38 : type_of% @List.flatMap_cons := @List.flatMap_cons
theorem n39 : type_of% @List.flatMap_nil := @List.flatMap_nil
theorem n40 : type_of% @List.append_nil := @List.append_nil
theorem n41 : type_of% @List.cons_append := @List.cons_append
theorem n42 : type_of% @List.nil_append := @List.nil_append
theorem n43 : type_of% @List.length_cons := @List.length_cons
theorem n44 : type_of% @List.length_nil := @List.length_nil
theorem n45 : type_of% @List.map_append := @List.map_append
theorem n46 : type_of% @List.length_append := @List.length_append
theorem n47 : type_of% @purgeL_map := @purgeL_map
theorem n48 : type_of% @purgeL_ints := @purgeL_ints
theorem n49 : type_of% @purgeL_bools := @purgeL_bools
theorem n50 : type_of% @implies_true := @implies_true
end Go.Ab

set_option linter.unusedVariables false
set_option linter.unusedSimpArgs false
namespace Go.Ab
open Go.RowKit
variable {P : Program}
/-! ### Other names for the ids of a call's results -/
mutual
def AV.ren (m : Nat) : AV → AV
  | .ptr i o => .ptr (i + m) o
  | .sl a b i o n => .sl a b (i + m) o n
  | .yl i y => .yl (i + m) y
  | .agg cs => .agg (AV.renL m cs)
  | .tup cs => .tup (AV.renL m cs)
  | .fn f cs => .fn f (AV.renL m cs)
  | .any => .any
  | .v x => .v x
  | .isl a b es => .isl a b es
  | .iptr cs => .iptr cs
def AV.renL (m : Nat) : List AV → List AV
  | [] => []
  | x :: r => AV.ren m x :: AV.renL m r
end
def renHp (m : Nat) : Hp → Hp
  | [] => []
  | (i, b) :: r => (i + m, { b with cs := AV.renL m b.cs }) :: renHp m r
def renB (m : Nat) (β : Ids) : Ids := fun j => if m ≤ j then β (j - m) else .no
theorem renB_add (m : Nat) (β : Ids) (i : Nat) : renB m β (i + m) = β i := by simp [renB]
theorem renL_get (m : Nat) : ∀ (l : List AV) (i : Nat), (AV.renL m l)[i]? = l[i]?.map (AV.ren m)
  | [], i => by simp [AV.renL]
  | x :: l, 0 => by simp [AV.renL]
  | x :: l, i+1 => by simp [AV.renL, renL_get m l i]
theorem renL_len (m : Nat) (l : List AV) : (AV.renL m l).length = l.length := by
  induction l with
  | nil => rfl
  | cons x l ih => simp [AV.renL, ih]
theorem ren_pur {m : Nat} {x : AV} (h : x.pur = true) : AV.ren m x = x := by
  induction x using AV.rec (motive_2 := fun cs => AV.purL cs = true → AV.renL m cs = cs) with
  | agg cs ih => simp only [AV.pur] at h; simp only [AV.ren, ih h]
  | tup cs ih => simp only [AV.pur] at h; simp only [AV.ren, ih h]
  | fn f cs ih => simp only [AV.pur] at h; simp only [AV.ren, ih h]
  | ptr => simp [AV.pur] at h
  | sl => simp [AV.pur] at h
  | yl => simp [AV.pur] at h
  | nil => rfl
  | cons x r h1 h2 => rename_i h; simp only [AV.purL, Bool.and_eq_true] at h; simp only [AV.renL, h1 h.1, h2 h.2]
  | _ => rfl
theorem renL_pur {m : Nat} {l : List AV} (h : AV.purL l = true) : AV.renL m l = l := by
  induction l with
  | nil => rfl
  | cons x l ih => simp only [AV.purL, Bool.and_eq_true] at h; simp only [AV.renL, ren_pur h.1, ih h.2]
theorem Conc.ren {G : Seal} {β : Ids} {x : AV} {y : Value} (h : Conc G β x y) (m : Nat) : Conc G (renB m β) (x.ren m) y := by
  induction h with
  | any => exact .any
  | v => exact .v
  | agg xs hl _ ih =>
    refine .agg xs (by rw [renL_len]; exact hl) (fun j x y hx hy => ?_)
    rw [renL_get, Option.map_eq_some_iff] at hx
    obtain ⟨x0, hx0, rfl⟩ := hx
    exact ih j x0 y hx0 hy
  | tup xs hl _ ih =>
    refine .tup xs (by rw [renL_len]; exact hl) (fun j x y hx hy => ?_)
    rw [renL_get, Option.map_eq_some_iff] at hx
    obtain ⟨x0, hx0, rfl⟩ := hx
    exact ih j x0 y hx0 hy
  | fn xs hf hl _ ih =>
    refine .fn xs hf (by rw [renL_len]; exact hl) (fun j x y hx hy => ?_)
    rw [renL_get, Option.map_eq_some_iff] at hx
    obtain ⟨x0, hx0, rfl⟩ := hx
    exact ih j x0 y hx0 hy
  | ifc _ ih => simp only [AV.ren, AV.renL]; exact .ifc ih
  | ptr h => exact .ptr (by rw [renB_add]; exact h)
  | slN h => exact .slN (by rw [renB_add]; exact h)
  | yl h => exact .yl (by rw [renB_add]; exact h)
  | sl h hn ht hm hb => exact .sl (by rw [renB_add]; exact h) hn ht hm hb
  | isl ys hu hl hc hb hA hr hs _ => exact .isl ys hu hl hc hb hA hr hs
  | iptr ys hl hr hs _ => exact .iptr ys hl hr hs
theorem ment_ren {m id : Nat} {x : AV} : AV.ment id (x.ren m) = (decide (m ≤ id) && AV.ment (id - m) x) := by
  induction x using AV.rec (motive_2 := fun cs => AV.mentL id (AV.renL m cs) = (decide (m ≤ id) && AV.mentL (id - m) cs)) with
  | agg cs ih => simpa only [AV.ren, AV.ment] using ih
  | tup cs ih => simpa only [AV.ren, AV.ment] using ih
  | fn f cs ih => simpa only [AV.ren, AV.ment] using ih
  | ptr i o =>
    simp only [AV.ren, AV.ment]
    by_cases h : m ≤ id
    · simp only [h, decide_true, Bool.true_and]
      by_cases h2 : i = id - m
      · have : i + m = id := by omega
        rw [beq_iff_eq.2 this, beq_iff_eq.2 h2]
      · have : ¬ i + m = id := by omega
        rw [beq_eq_false_iff_ne.2 this, beq_eq_false_iff_ne.2 h2]
    · have : ¬ i + m = id := by omega
      simp [h, this]
  | yl i y =>
    simp only [AV.ren, AV.ment]
    by_cases h : m ≤ id
    · simp only [h, decide_true, Bool.true_and]
      by_cases h2 : i = id - m
      · have : i + m = id := by omega
        rw [beq_iff_eq.2 this, beq_iff_eq.2 h2]
      · have : ¬ i + m = id := by omega
        rw [beq_eq_false_iff_ne.2 this, beq_eq_false_iff_ne.2 h2]
    · have : ¬ i + m = id := by omega
      simp [h, this]
  | sl a b i o n =>
    simp only [AV.ren, AV.ment]
    by_cases h : m ≤ id
    · simp only [h, decide_true, Bool.true_and]
      by_cases h2 : i = id - m
      · have : i + m = id := by omega
        rw [beq_iff_eq.2 this, beq_iff_eq.2 h2]
      · have : ¬ i + m = id := by omega
        rw [beq_eq_false_iff_ne.2 this, beq_eq_false_iff_ne.2 h2]
    · have : ¬ i + m = id := by omega
      simp [h, this]
  | nil => simp [AV.renL, AV.mentL]
  | cons x r h1 h2 => simp only [AV.renL, AV.mentL, h1, h2, Bool.and_or_distrib_left]
  | any => simp [AV.ren, AV.ment]
  | v => simp [AV.ren, AV.ment]
  | isl => simp [AV.ren, AV.ment]
  | iptr => simp [AV.ren, AV.ment]
theorem mentL_ren {m id : Nat} {cs : List AV} : AV.mentL id (AV.renL m cs) = (decide (m ≤ id) && AV.mentL (id - m) cs) := by
  have := ment_ren (m := m) (id := id) (x := .agg cs)
  simpa only [AV.ren, AV.ment] using this
theorem mentHp_ren {m id : Nat} : ∀ {hp : Hp}, mentHp id (renHp m hp) = (decide (m ≤ id) && mentHp (id - m) hp)
  | [] => by simp [renHp, mentHp]
  | (i, b) :: r => by
    have h := mentHp_ren (m := m) (id := id) (hp := r)
    simp only [renHp, mentHp, mentL_ren, h]
    by_cases hm : m ≤ id
    · simp only [hm, decide_true, Bool.true_and]
      by_cases h2 : i = id - m
      · have : i + m = id := by omega
        rw [beq_iff_eq.2 this, beq_iff_eq.2 h2]
      · have : ¬ i + m = id := by omega
        rw [beq_eq_false_iff_ne.2 this, beq_eq_false_iff_ne.2 h2]
    · have : ¬ i + m = id := by omega
      simp [hm, this]
theorem hget_ren {m : Nat} : ∀ {hp : Hp} {j : Nat} {bk : Blk}, hget (renHp m hp) j = some bk → ∃ i bk0, j = i + m ∧ hget hp i = some bk0 ∧ bk = { bk0 with cs := AV.renL m bk0.cs }
  | [], j, bk, h => by simp [renHp, hget] at h
  | (i, b) :: r, j, bk, h => by
    simp only [renHp, hget] at h
    split at h
    · rename_i e; injection h with h; exact ⟨i, b, e.symm, by simp [hget], h.symm⟩
    · obtain ⟨i', bk0, h1, h2, h3⟩ := hget_ren h
      refine ⟨i', bk0, h1, ?_, h3⟩
      simp only [hget]
      rw [if_neg (by omega)]; exact h2
theorem RepH.ren {R : Rg} {β : Ids} {G : Seal} {hp : Hp} {w : World} (h : RepH R β G hp w) (m : Nat) (hno : ∀ id, R.out id = none) (hidr : IdR (renB m β)) : RepH R (renB m β) G (renHp m hp) w := by
  refine ⟨h.gs, fun id bk hi => ?_, fun i j b t t' hi hj hbi hbj => ?_, h.keeps, h.dom, hidr⟩
  · obtain ⟨i, bk0, rfl, hi0, rfl⟩ := hget_ren hi
    have := h.blk i bk0 hi0
    unfold BlkOk at this ⊢
    rw [renB_add]
    cases hβ : β i with
    | no => rw [hβ] at this; exact this
    | nil => rw [hβ] at this; exact ⟨by rw [this.1]; rfl, this.2⟩
    | gh o =>
      rw [hβ] at this
      rcases this with ⟨_, h0, _⟩ | ⟨b, es, clock, e0, e1, e2, e3, e4, e5⟩
      · rw [hno] at h0; cases h0
      · refine .inr ⟨b, es, clock, e0, ⟨e1.1, e1.2.1, Nat.le_trans e1.2.2 (Nat.le_add_right _ _)⟩, e2, e3, by rw [renL_len]; exact e4, fun j x y hx hy => ?_⟩
        rw [renL_get, Option.map_eq_some_iff] at hx
        obtain ⟨x0, hx0, rfl⟩ := hx
        exact (e5 j x0 y hx0 hy).ren m
    | «at» b t =>
      rw [hβ] at this
      obtain ⟨g1, g2, arr', g3, g4, g5, g6, g7⟩ := this
      refine ⟨g1, g2, arr', g3, g4, by rw [renL_len]; exact g5, by rw [renL_len]; exact g6, fun j x y hx hy => ?_⟩
      rw [renL_get, Option.map_eq_some_iff] at hx
      obtain ⟨x0, hx0, rfl⟩ := hx
      exact (g7 j x0 y hx0 hy).ren m
  · obtain ⟨bi, hbi0⟩ := Option.isSome_iff_exists.1 hi
    obtain ⟨bj, hbj0⟩ := Option.isSome_iff_exists.1 hj
    obtain ⟨i0, b0, rfl, k1, _⟩ := hget_ren hbi0
    obtain ⟨j0, b1, rfl, k2, _⟩ := hget_ren hbj0
    rw [renB_add] at hbi hbj
    rw [h.inj i0 j0 b t t' (by rw [k1]; rfl) (by rw [k2]; rfl) hbi hbj]
/-- Only the ids that are listed. -/
def onlyIds (ids : List Nat) (β : Ids) : Ids := fun i => if i ∈ ids then β i else .no
theorem onlyIds_conc {G : Seal} {β : Ids} {x : AV} {y : Value} {ids : List Nat} (h : Conc G β x y) (hm : ∀ id, AV.ment id x = true → id ∈ ids) : Conc G (onlyIds ids β) x y :=
  h.ext (fun id h => by simp only [onlyIds, hm id h, if_true]) fun _ _ h => h
theorem RepH.onlyIds {R : Rg} {β : Ids} {G : Seal} {hp : Hp} {w : World} {ids : List Nat} (h : RepH R β G hp w) (hm : ∀ id, mentHp id hp = true → id ∈ ids) (hno : ∀ id, R.out id = none) : RepH R (onlyIds ids β) G hp w := by
  refine ⟨h.gs, fun i bk hi => ?_, fun i j b t t' hi hj hbi hbj => ?_, h.keeps, h.dom, fun i hi => ?_⟩
  · have := h.blk i bk hi
    unfold BlkOk at this ⊢
    simp only [Ab.onlyIds, hm i (mentHp_key hi), if_true]
    cases hβ : β i with
    | no => rw [hβ] at this; exact this
    | nil => rw [hβ] at this; exact this
    | gh o =>
      rw [hβ] at this
      rcases this with ⟨_, h0, _⟩ | ⟨b, es, clock, e0, e1, e2, e3, e4, e5⟩
      · rw [hno] at h0; cases h0
      · exact .inr ⟨b, es, clock, e0, e1, e2, e3, e4, fun j x y hx hy => onlyIds_conc (e5 j x y hx hy) fun id hid => hm id (mentHp_cell hi (mentL_mem hx hid))⟩
    | «at» b t =>
      rw [hβ] at this
      obtain ⟨g1, g2, arr', g3, g4, g5, g6, g7⟩ := this
      exact ⟨g1, g2, arr', g3, g4, g5, g6, fun j x y hx hy => onlyIds_conc (g7 j x y hx hy) fun id hid => hm id (mentHp_cell hi (mentL_mem hx hid))⟩
  · simp only [Ab.onlyIds] at hbi hbj
    split at hbi
    · split at hbj
      · exact h.inj i j b t t' hi hj hbi hbj
      · cases hbj
    · cases hbi
  · simp only [Ab.onlyIds] at hi
    split at hi
    · exact h.idr i hi
    · rcases hi with hi | ⟨_, _, hi⟩ <;> cases hi
/-- The same contract under other names. -/
theorem OCall.ren {f : FuncId} {args : List AV} {ids : List Nat} {Q : AV → Hp → Prop} (h : OCall P f args ids Q) (m : Nat) {Q' : AV → Hp → Prop} (hQ : ∀ x hp, Q x hp → Q' (x.ren m) (renHp m hp)) :
    OCall P f args (ids.map (· + m)) Q' := by
  intro hle G w vals h1 h2
  have hle' : ∀ id ∈ ids, id + m ≤ 999999999 := fun id hid => hle _ (List.mem_map.2 ⟨id, hid, rfl⟩)
  refine (h (fun id hid => by have := hle' id hid; omega) G w vals h1 h2).mono fun e w' ⟨y, G', β', x, hp, he, hq, hwi, hcx, hrh⟩ => ?_
  have hin : ∀ id, AV.ment id x = true ∨ mentHp id hp = true → id ∈ ids := fun id hm => by
    by_cases hi : id ∈ ids
    · exact hi
    · have := hwi id hi; rcases hm with hm | hm
      · rw [this.1] at hm; cases hm
      · rw [this.2] at hm; cases hm
  have hcx := onlyIds_conc hcx fun id h => hin id (.inl h)
  have hrh := hrh.onlyIds (fun id h => hin id (.inr h)) fun _ => rfl
  refine ⟨y, G', renB m (onlyIds ids β'), x.ren m, renHp m hp, he, hQ x hp hq, fun id hid => ?_, hcx.ren m, hrh.ren m (fun _ => rfl) fun i hi => ?_⟩
  · by_cases hm : m ≤ id
    · have hni : id - m ∉ ids := fun hi => hid (List.mem_map.2 ⟨id - m, hi, by omega⟩)
      have := hwi (id - m) hni
      rw [ment_ren, mentHp_ren, this.1, this.2]; simp
    · rw [ment_ren, mentHp_ren]; simp [hm]
  · simp only [renB] at hi
    split at hi
    · simp only [onlyIds] at hi
      split at hi
      · rename_i h1 h2; have := hle' _ h2; omega
      · rcases hi with hi | ⟨_, _, hi⟩ <;> cases hi
    · rcases hi with hi | ⟨_, _, hi⟩ <;> cases hi
end Go.Ab
namespace Go.Ab
variable {P : Program}
theorem weakL_refl : ∀ l : List AV, WeakL l l
  | [] => .nil
  | _ :: l => .keep (weakL_refl l)
theorem ofin_le {rs : Array ResultVar} {ids : List Nat} {Q : AV → Hp → Prop} {e : Exit} {s s' : St} (hle : Le s s') (h : OFin P rs ids Q e s') : OFin P rs ids Q e s := by
  cases e with
  | normal => obtain ⟨s2, x, h1, h2⟩ := h; exact ⟨s2, x, hle.trans h1, h2⟩
  | ret => obtain ⟨s2, x, h1, h2⟩ := h; exact ⟨s2, x, hle.trans h1, h2⟩
  | _ => exact h
/-- A slice of the call's own, handed out. -/
theorem ofin_sl {rs : Array ResultVar} {Q : AV → Hp → Prop} {e : Exit} {fr : List AV} {hp : Hp} {i id sz bw n : Nat} {T : TypeId} {cs : List AV} {full : Bool} (hrs : rs = #[.tmp i]) (hx : fr[i]? = some (.sl sz bw id 0 n))
    (hb : hget hp id = some ⟨T, cs, full⟩) (hpu : AV.purL cs = true) (hQ : Q (.sl sz bw id 0 n) [(id, ⟨T, cs, full⟩)]) (he : e = .ret ∨ e = .normal := by first | exact .inl rfl | exact .inr rfl) : OFin P rs [id] Q e ⟨fr, hp⟩ := by
  have hh : hsub hp [(id, ⟨T, cs, full⟩)] := by
    intro k b hk
    simp only [hget] at hk
    split at hk
    · rename_i e; subst e; rw [← hk]; exact hb
    · cases hk
  have key : ∃ s' x, Le ⟨fr, hp⟩ s' ∧ RV P rs s' x ∧ Within [id] x s'.hp ∧ Q x s'.hp :=
    ⟨⟨fr, [(id, ⟨T, cs, full⟩)]⟩, .sl sz bw id 0 n, le_weak (weakL_refl fr) hh, by subst hrs; exact rv_one (rv1_tmp hx), within_sl hpu, hQ⟩
  rcases he with rfl | rfl <;> exact key
/-- Nil where an empty slice is meant. -/
theorem le_nilI {f : List AV} {hp : Hp} (i sz bw : Nat) (hx : f[i]? = some .nilS) : Le ⟨f, hp⟩ ⟨f.set i (.isl sz bw []), hp⟩ := by
  intro R β G a w h
  refine ⟨β, G, h.defers, by simpa using h.size, fun j x y hj hy => ?_, h.hp⟩
  rw [List.getElem?_set] at hj
  by_cases hij : i = j
  · subst hij
    simp only [if_true] at hj
    split at hj <;> simp at hj
    subst hj
    have := conc_v (h.fr i _ y hx hy)
    exact this ▸ .isl (es := []) (c := 0) [] (by simp) (by simp) (by simp) (by simp) (by simp) (by simp) (by simp)
  · simp only [hij, if_false] at hj
    exact h.fr j x y hj hy
end Go.Ab

set_option linter.unusedVariables false
set_option linter.unusedSimpArgs false
namespace Go.Ab
open Go.RowKit
variable {P : Program}
/-! ### Sealing a slice of the call's own in all slots at once -/
def AV.sealS (id sz bw n : Nat) (es : List AV) (x : AV) : AV :=
  match x with
  | .sl a b i o k => if i = id then (if a = sz ∧ b = bw ∧ o = 0 ∧ k = n then .isl sz bw es else .any) else .sl a b i o k
  | x => AV.purge id x
def AV.sealSL (id sz bw n : Nat) (es : List AV) : List AV → List AV
  | [] => []
  | x :: r => AV.sealS id sz bw n es x :: AV.sealSL id sz bw n es r
theorem sealS_any (id sz bw n : Nat) (es : List AV) : AV.sealS id sz bw n es .any = .any := rfl
theorem sealS_v (id sz bw n : Nat) (es : List AV) (x : Value) : AV.sealS id sz bw n es (.v x) = .v x := rfl
theorem sealS_isl (id sz bw n : Nat) (es : List AV) (a b : Nat) (l : List AV) : AV.sealS id sz bw n es (.isl a b l) = .isl a b l := rfl
theorem sealS_iptr (id sz bw n : Nat) (es : List AV) (l : List AV) : AV.sealS id sz bw n es (.iptr l) = .iptr l := rfl
theorem sealS_ptr (id sz bw n : Nat) (es : List AV) (i o : Nat) : AV.sealS id sz bw n es (.ptr i o) = if i = id then .any else .ptr i o := purge_ptr id i o
theorem sealS_sl (id sz bw n : Nat) (es : List AV) (a b i o k : Nat) : AV.sealS id sz bw n es (.sl a b i o k) = if i = id then (if a = sz ∧ b = bw ∧ o = 0 ∧ k = n then .isl sz bw es else .any) else .sl a b i o k := rfl
theorem sealS_agg (id sz bw n : Nat) (es : List AV) (l : List AV) : AV.sealS id sz bw n es (.agg l) = AV.purge id (.agg l) := rfl
theorem sealS_tup (id sz bw n : Nat) (es : List AV) (l : List AV) : AV.sealS id sz bw n es (.tup l) = AV.purge id (.tup l) := rfl
theorem sealS_fn (id sz bw n : Nat) (es : List AV) (f : FuncId) (l : List AV) : AV.sealS id sz bw n es (.fn f l) = AV.purge id (.fn f l) := rfl
theorem purge_agg (id : Nat) (l : List AV) : AV.purge id (.agg l) = if AV.mentL id l then .any else .agg l := rfl
theorem purge_tup (id : Nat) (l : List AV) : AV.purge id (.tup l) = if AV.mentL id l then .any else .tup l := rfl
theorem purge_fn (id : Nat) (f : FuncId) (l : List AV) : AV.purge id (.fn f l) = if AV.mentL id l then .any else .fn f l := rfl
theorem sealSL_get (id sz bw n : Nat) (es : List AV) : ∀ (l : List AV) (i : Nat), (AV.sealSL id sz bw n es l)[i]? = l[i]?.map (AV.sealS id sz bw n es)
  | [], i => by simp [AV.sealSL]
  | x :: l, 0 => by simp [AV.sealSL]
  | x :: l, i+1 => by simp [AV.sealSL, sealSL_get id sz bw n es l i]
theorem sealSL_len (id sz bw n : Nat) (es : List AV) (l : List AV) : (AV.sealSL id sz bw n es l).length = l.length := by
  induction l with
  | nil => rfl
  | cons x l ih => simp [AV.sealSL, ih]
theorem sealS_cases (id sz bw n : Nat) (es : List AV) (x : AV) : AV.sealS id sz bw n es x = AV.purge id x ∨ (x = .sl sz bw id 0 n ∧ AV.sealS id sz bw n es x = .isl sz bw es) := by
  cases x with
  | sl a b i o k =>
    rw [sealS_sl, purge_sl]
    by_cases hi : i = id
    · rw [if_pos hi, if_pos hi]
      by_cases hq : a = sz ∧ b = bw ∧ o = 0 ∧ k = n
      · rw [if_pos hq]; obtain ⟨rfl, rfl, rfl, rfl⟩ := hq; subst hi; exact .inr ⟨rfl, rfl⟩
      · rw [if_neg hq]; exact .inl rfl
    · rw [if_neg hi, if_neg hi]; exact .inl rfl
  | _ => exact .inl rfl
theorem le_sealAll {f : List AV} {hp : Hp} (id sz bw n : Nat) {bk : Blk} (es : List AV) (hb : hget hp id = some bk) (hes : es.flatMap AV.cells = bk.cs)
    (hu : ∀ e ∈ es, e.cells.length = sz) (hn : es.length = n) (hp1 : AV.purL bk.cs = true) (hsz : 0 < sz) : Le ⟨f, hp⟩ ⟨AV.sealSL id sz bw n es f, purgeHp id hp⟩ := by
  intro R β G a w h
  have h0 := h.hp.blk id bk hb
  unfold BlkOk at h0
  have hoth : ∀ j, j ≠ id → (β.set id .no) j = β j := fun j hj => by simp [Ids.set, hj]
  -- the state without the id, over a grown seal
  have fin : ∀ (G' : Seal), (∀ b o, G b = some o → G' b = some o) → (∀ b o, G' b = some o → w.heap[b]? = some o) → (∀ b, G' b ≠ none → R.g0 b ≠ none ∨ R.w0.heap.size ≤ b ∨ R.ex b) →
      (∀ j bk' b t, j ≠ id → hget hp j = some bk' → β j = .at b t → G' b = none) → (∀ y, Conc G β (.sl sz bw id 0 n) y → Conc G' nob (.isl sz bw es) y) → ∃ β' G', Rep R β' G' ⟨AV.sealSL id sz bw n es f, purgeHp id hp⟩ a w := by
    intro G' hm hgs hdom hfree hc
    refine ⟨β.set id .no, G', h.defers.mono hm, by rw [sealSL_len]; exact h.size, fun j x y hj hy => ?_, ⟨hgs, fun j bk' hj => ?_, fun j k b t t' hj hk hbj hbk => ?_, h.hp.keeps, hdom, h.hp.idr.gone⟩⟩
    · rw [sealSL_get, Option.map_eq_some_iff] at hj
      obtain ⟨x0, hx0, rfl⟩ := hj
      rcases sealS_cases id sz bw n es x0 with h1 | ⟨rfl, h1⟩
      · rw [h1]; exact ((h.fr j x0 y hx0 hy).mono hm).purged hoth
      · rw [h1]; exact (hc y (h.fr j _ y hx0 hy)).free _
    · rw [hget_purgeHp] at hj
      by_cases hid : id = j
      · simp [hid] at hj
      · simp only [hid, if_false, Option.map_eq_some_iff] at hj
        obtain ⟨bk1, hj1, rfl⟩ := hj
        have := h.hp.blk j bk1 hj1
        unfold BlkOk at this ⊢
        rw [hoth j (Ne.symm hid)]
        cases hβ : β j with
        | no => rw [hβ] at this; exact this
        | nil => rw [hβ] at this; exact ⟨by rw [this.1]; rfl, this.2⟩
        | «at» b t =>
          rw [hβ] at this
          obtain ⟨g1, g2, arr, g3, g4, g5, g6, g7⟩ := this
          refine ⟨hfree j bk1 b t (Ne.symm hid) hj1 hβ, g2, arr, g3, g4, by simpa [purgeL_len] using g5, by simpa [purgeL_len] using g6, fun k x y hx hy => ?_⟩
          simp only [purgeL_get, Option.map_eq_some_iff] at hx
          obtain ⟨x0, hx0, rfl⟩ := hx
          exact ((g7 k x0 y hx0 hy).mono hm).purged hoth
        | gh o => rw [hβ] at this; exact gh_mono this hm (AV.purge id) (fun x _ y hc => (hc.mono hm).purged hoth) _ (purgeL_eq _ _)
    · have key : ∀ j b t, (β.set id .no) j = .at b t → j ≠ id := fun j b t hb e => by subst e; simp [Ids.set] at hb
      have n1 := key j b t hbj
      have n2 := key k b t' hbk
      rw [hoth j n1] at hbj
      rw [hoth k n2] at hbk
      rw [hget_purgeHp, if_neg (Ne.symm n1)] at hj
      rw [hget_purgeHp, if_neg (Ne.symm n2)] at hk
      exact h.hp.inj j k b t t' (by simpa using hj) (by simpa using hk) hbj hbk
  cases hβ : β id with
  | no => rw [hβ] at h0; exact h0.elim
  | gh o =>
    refine fin G (fun _ _ h => h) h.hp.gs h.hp.dom (fun j bk' b t _ hj hbj => (h.hp.block hj hbj).1) fun y hc => ?_
    cases hc with
    | slN hb' => rw [hβ] at hb'; cases hb'
    | sl hb' => rw [hβ] at hb'; cases hb'
  | nil =>
    rw [hβ] at h0
    have he : es = [] := by
      cases es with
      | nil => rfl
      | cons e es =>
        have h1 := hes
        rw [h0.1, List.flatMap_cons] at h1
        have h2 : e.cells = [] := (List.append_eq_nil_iff.1 h1).1
        have := hu e (by simp)
        rw [h2] at this; simp at this; omega
    refine fin G (fun _ _ h => h) h.hp.gs h.hp.dom (fun j bk' b t _ hj hbj => (h.hp.block hj hbj).1) fun y hc => ?_
    subst he
    cases hc with
    | slN _ => exact .isl (es := []) [] (by simp) (by simp) (by simp) (by simp) (by simp) (by simp) (by simp)
    | sl hb' => rw [hβ] at hb'; cases hb'
  | «at» b t =>
    rw [hβ] at h0
    obtain ⟨g1, g2, arr, g3, g4, g5, g6, g7⟩ := h0
    have hm : ∀ k o, G k = some o → (G.set b (.cells arr bk.T (0, 0))) k = some o := fun k o hk => by
      simp only [Seal.set]; rw [if_neg (by rintro rfl; rw [g1] at hk; cases hk)]; exact hk
    refine fin (G.set b (.cells arr bk.T (0, 0))) hm (fun k o hk => ?_) (fun k hk => ?_) (fun j bk' b' t' hne hj hbj => ?_) fun y hc => ?_
    · simp only [Seal.set] at hk
      split at hk
      · rename_i e; subst e; injection hk with hk; subst hk; exact g3
      · exact h.hp.gs k o hk
    · simp only [Seal.set] at hk
      split at hk
      · rename_i e; subst e; exact .inr g2
      · exact h.hp.dom k hk
    · have hbb : b' ≠ b := fun e => by subst e; exact hne (h.hp.inj j id b' t' t (by rw [hj]; rfl) (by rw [hb]; rfl) hbj hβ)
      simp only [Seal.set]; rw [if_neg hbb]
      exact (h.hp.block hj hbj).1
    · cases hc with
      | slN hb' => rw [hβ] at hb'; cases hb'
      | @sl _ _ _ _ _ _ c b' t' hb' hnc ht hcm hbw =>
        rw [hβ] at hb'; injection hb' with e1 e2; subst e1; subst e2
        subst hn
        have hfl : (es.flatMap AV.cells).length = es.length * sz := flat_len hu
        have hle : es.length * sz ≤ arr.size := by rw [← hfl, hes, g4]; exact g5
        refine .isl (arr.toList.take (es.length * sz)) hu (by simp; omega) hnc hbw (fun _ => by simp) (fun j v hv => ⟨_, rfl, ?_⟩) (fun j u v hu' hv => ?_)
        · have hj : j < es.length * sz := by have := lt_of_get hv; simp at this; omega
          simp only [List.getElem?_take, hj, if_true, Array.getElem?_toList] at hv
          rw [Addr.add_none]
          simpa [gcell, Seal.set] using hv
        · have hj : j < es.length * sz := by have := lt_of_get hv; simp at this; omega
          simp only [List.getElem?_take, hj, if_true, Array.getElem?_toList] at hv
          rw [hes] at hu'
          exact ((g7 j u v hu' hv).toNob (purL_get hp1 hu') nob).mono hm

end Go.Ab
namespace Go.Ab
open Go.RowKit
variable {P : Program}
/-! ### Lending a slice of the own to a call that only reads it and answers a plain value -/
mutual
def AV.plain : AV → Bool
  | .any => true
  | .v _ => true
  | .agg cs => AV.plainL cs
  | .tup cs => AV.plainL cs
  | .fn _ cs => AV.plainL cs
  | .isl _ _ _ => false
  | .iptr _ => false
  | .ptr _ _ => false
  | .yl _ _ => false
  | .sl _ _ _ _ _ => false
def AV.plainL : List AV → Bool
  | [] => true
  | x :: r => AV.plain x && AV.plainL r
end
theorem plainL_get : ∀ {cs : List AV} {j : Nat} {x : AV}, AV.plainL cs = true → cs[j]? = some x → AV.plain x = true
  | [], _, _, _, h => by simp at h
  | c :: cs, 0, x, h, hx => by simp at hx; subst hx; simp [AV.plainL] at h; exact h.1
  | c :: cs, j+1, x, h, hx => by simp at hx; simp [AV.plainL] at h; exact plainL_get h.2 hx
theorem Conc.plain {G G' : Seal} {β β' : Ids} {x : AV} {y : Value} (h : Conc G β x y) (hp : x.plain = true) : Conc G' β' x y := by
  induction h with
  | any => exact .any
  | v => exact .v
  | agg xs hl _ ih => exact .agg xs hl fun j x y hx hy => ih j x y hx hy (plainL_get (by simpa [AV.plain] using hp) hx)
  | tup xs hl _ ih => exact .tup xs hl fun j x y hx hy => ih j x y hx hy (plainL_get (by simpa [AV.plain] using hp) hx)
  | fn xs hf hl _ ih => exact .fn xs hf hl fun j x y hx hy => ih j x y hx hy (plainL_get (by simpa [AV.plain] using hp) hx)
  | ifc _ ih => exact .ifc (ih (by simpa [AV.plain, AV.plainL] using hp))
  | _ => simp [AV.plain] at hp
theorem aopx_callB {d : Option Tmp} {f : FuncId} {args : Array Operand} {tys : Array TypeId} {ty : TypeId} {pos : String} {aft : Array Edge} {g : Option (Nat × Bool)} {s s' : St} {K : St → Prop} {Q : AV → Prop} [hc : TyC P f]
    (hle : Le s s') {L : List AV} (hev : evalL s' args = L) (h : PCall P f L Q) (hp : AV.purL L = true) (hk : ∀ x, Q x → x.plain = true ∧ K (s.put d x)) : AOpX P ⟨d, .call { callee := .value (.func f), args, argTypes := tys }, ty, pos, aft, g⟩ s K := by
  intro R β G a w Q' hr
  have hrun : (execOp a.eval ⟨d, .call { callee := .value (.func f), args, argTypes := tys }, ty, pos, aft, g⟩).run P w = .ok (.enter f (args.map a.eval)) w := by
    simp [execOp, resolve, Act.eval, Deferred.ofValue, invoke, hc.ok]
  unfold Oper.wp
  rw [hrun, Oper.upon_enter]
  subst hev
  obtain ⟨β1, G1, hr1⟩ := hle R β G a w hr
  have := h G1 w (args.map a.eval).toList hr1.hp.gs (evalL_conc hr1 args hp)
  simp only [Array.toArray_toList] at this
  refine this.mono fun e w' ⟨y, G', x, he, hQ, hcx, hd, hG', hext⟩ => ?_
  subst he
  obtain ⟨hpl, hK⟩ := hk x hQ
  obtain ⟨G'', hr', hm⟩ := hr.later hext (sealed_ext hr.hp.gs hext) (fun b hb => .inl hb)
  exact ⟨hext, β, G'', _, hK, hr'.put d (hcx.plain hpl)⟩
theorem aop_callB {d : Option Tmp} {f : FuncId} {args : Array Operand} {tys : Array TypeId} {ty : TypeId} {pos : String} {aft : Array Edge} {g : Option (Nat × Bool)} {s s' : St} {K : St → Prop} {Q : AV → Prop} [hc : TyC P f]
    (hle : Le s s') {L : List AV} (hev : evalL s' args = L) (h : PCall P f L Q) (hp : AV.purL L = true) (hk : ∀ x, Q x → x.plain = true ∧ K (s.put d x)) : AOp P ⟨d, .call { callee := .value (.func f), args, argTypes := tys }, ty, pos, aft, g⟩ s K :=
  aop_of_x (aopx_callB hle hev h hp hk)
theorem le_sealMap {α : Type} {f : α → AV} {fr : List AV} {hp : Hp} (id bw n : Nat) {T : TypeId} {full : Bool} (xs : List α) (hb : hget hp id = some ⟨T, xs.map f, full⟩) (hn : xs.length = n)
    (hc : ∀ a, (f a).cells = [f a]) (hpu : ∀ a, (f a).pur = true) : Le ⟨fr, hp⟩ ⟨AV.sealSL id 1 bw n (xs.map f) fr, purgeHp id hp⟩ :=
  le_sealAll id 1 bw n (xs.map f) hb (flat_one hc xs) (fun e he => by obtain ⟨a, _, rfl⟩ := List.mem_map.1 he; rw [hc]; rfl) (by simpa using hn) (purL_map f xs hpu) (by omega)
theorem le_sealMapM {α : Type} {f : α → AV} {fr : List AV} {hp : Hp} (id sz bw n : Nat) {T : TypeId} {cs : List AV} {full : Bool} (xs : List α) (hb : hget hp id = some ⟨T, cs, full⟩) (hcs : (xs.map f).flatMap AV.cells = cs) (hn : xs.length = n)
    (hc : ∀ a, (f a).cells.length = sz) (hpu : ∀ a, AV.purL (f a).cells = true) (hs : 0 < sz) : Le ⟨fr, hp⟩ ⟨AV.sealSL id sz bw n (xs.map f) fr, purgeHp id hp⟩ :=
  le_sealAll id sz bw n (xs.map f) hb hcs (fun e he => by obtain ⟨a, _, rfl⟩ := List.mem_map.1 he; exact hc a) (by simpa using hn) (by
    subst hcs; rw [List.flatMap_map]; exact purL_flat _ xs hpu) hs
end Go.Ab
namespace Go.Ab
theorem flat_ints (xs : List Int) : (xs.map AV.int).flatMap AV.cells = xs.map AV.int := flat_one (fun _ => rfl) xs
theorem flat_bools (xs : List Bool) : (xs.map AV.bool).flatMap AV.cells = xs.map AV.bool := flat_one (fun _ => rfl) xs
end Go.Ab

/-! ### Regions by computation -/
namespace Go.Ab
open Go.RowKit
variable {P : Program}

inductive TKd where
  | other
  | bool
  | int (k : IntKind)
  | sl (e : Nat)
  | ar (N e : Nat) (i2 : Bool)
  | st (pl : List (Nat × Nat)) (e2 : Bool)
structure TI where
  agg : Bool
  n : Nat
  b : Nat
  z : List AV
  k : TKd
def eq2Ok (P : Program) (t : TypeId) (f1 f2 : Field) : Bool := decide (f1.offset = 0) && decide (f2.offset = 1) && !(f1.name == "_" || f2.name == "_") && !P.stoodInHeld t && !P.eqGuardType P.depth t
def KOk (P : Program) (t : TypeId) (d : TypeDesc) : TKd → Prop
  | .other => True
  | .bool => d = .bool
  | .int k => d = .int k
  | .sl e => d = .slice e
  | .ar N e i2 => d = .array N e ∧ (i2 = true → N = 2 ∧ (∃ k, TyU P e (.int k)) ∧ P.eqGuardType P.depth t = false ∧ P.cellsOf e = 1 ∧ (P.info? e).isSome = true)
  | .st pl e2 => TyF P t pl ∧ (e2 = true → ∃ f1 f2 k1 k2, d = .struct #[f1, f2] ∧ TyU P f1.type (.int k1) ∧ TyU P f2.type (.int k2) ∧ eq2Ok P t f1 f2 = true)
def TIOk (P : Program) (t : TypeId) (i : TI) : Prop := ∃ d z, TyU P t d ∧ TyI P t z i.n i.b ∧ aggB d = i.agg ∧ (AV.ofVal z).cells = i.z ∧ KOk P t d i.k
class Tb (P : Program) (tab : outParam (Nat → Option TI)) : Prop where
  ok : ∀ t i, tab t = some i → TIOk P t i

/-- What an operation yields: a value; a value under a condition; or it is not looked into. -/
inductive PR where
  | ok (x : AV)
  | ex (c : Prop) (f : c → AV)
  | no
def PRok (P : Program) (op : Op) (s : St) : PR → Prop
  | .ok x => PV P op s x
  | .ex c f => ∀ h : c, PV P op s (f h)
  | .no => True

def int2 (f : Int → Int → PR) : AV → AV → PR
  | .v (.int .i64 n), .v (.int .i64 m) => f n m
  | _, _ => .no
def eqC (neg r : Bool) : PR := .ok (.bool (if neg then !r else r))
def eqB (neg : Bool) : Option TI → AV → AV → PR
  | _, .v (.int .i64 n), .v (.int .i64 m) => .ok (.bool (if neg then n != m else n == m))
  | some ⟨_, _, _, _, .bool⟩, .v (.bool a), .v (.bool b) => eqC neg (a == b)
  | some ⟨_, _, _, _, .st _ true⟩, .agg [.v (.int .i64 a), .v (.int .i64 b)], .agg [.v (.int .i64 c), .v (.int .i64 d)] => eqC neg (a == c && b == d)
  | some ⟨_, _, _, _, .ar _ _ true⟩, .agg [.v (.int .i64 a), .v (.int .i64 b)], .agg [.v (.int .i64 c), .v (.int .i64 d)] => eqC neg (a == c && b == d)
  | _, _, _ => .no
def kb : IntKind → Int
  | .i64 => 64
  | .u64 => 64
  | .i32 => 32
  | .u32 => 32
  | .i16 => 16
  | .u16 => 16
  | .i8 => 8
  | .u8 => 8
theorem kb_bits (k : IntKind) : kb k = (k.bits : Int) := by cases k <;> rfl
/-- The numbers of a kind. -/
def rng : IntKind → Int → Prop
  | .i64, n => -9223372036854775808 ≤ n ∧ n ≤ 9223372036854775807
  | .u64, n => 0 ≤ n ∧ n ≤ 18446744073709551615
  | .i32, n => -2147483648 ≤ n ∧ n ≤ 2147483647
  | .u32, n => 0 ≤ n ∧ n ≤ 4294967295
  | .i16, n => -32768 ≤ n ∧ n ≤ 32767
  | .u16, n => 0 ≤ n ∧ n ≤ 65535
  | .i8, n => -128 ≤ n ∧ n ≤ 127
  | .u8, n => 0 ≤ n ∧ n ≤ 255
theorem rng_wrap {k : IntKind} {n : Int} (h : rng k n) : k.wrap n = n := by
  cases k <;> simp only [rng] at h <;> simp [IntKind.wrap, IntKind.bits, IntKind.signed] <;> omega
def pvShl : AV → AV → PR
  | .v (.int k a), .v (.int _ b) => .ex ((0 ≤ b ∧ b ≤ kb k) ∧ rng k (a * 2 ^ b.toNat)) fun _ => .v (.int k (a * 2 ^ b.toNat))
  | _, _ => .no
def pvShr : AV → AV → PR
  | .v (.int k a), .v (.int _ b) => .ex (0 ≤ b ∧ b ≤ kb k) fun _ => .v (.int k (a / 2 ^ b.toNat))
  | _, _ => .no
def pvBin (tab : Nat → Option TI) (op : BinOp) (t : TypeId) (x y : AV) : PR :=
  match op with
  | .lss => int2 (fun n m => .ok (.bool (decide (n < m)))) x y
  | .leq => int2 (fun n m => .ok (.bool (decide (n ≤ m)))) x y
  | .gtr => int2 (fun n m => .ok (.bool (decide (m < n)))) x y
  | .geq => int2 (fun n m => .ok (.bool (decide (m ≤ n)))) x y
  | .add => int2 (fun n m => .ex (-9223372036854775808 ≤ n + m ∧ n + m ≤ 9223372036854775807) fun _ => .int (n + m)) x y
  | .sub => int2 (fun n m => .ex (-9223372036854775808 ≤ n - m ∧ n - m ≤ 9223372036854775807) fun _ => .int (n - m)) x y
  | .mul => int2 (fun n m => .ex (-9223372036854775808 ≤ n * m ∧ n * m ≤ 9223372036854775807) fun _ => .int (n * m)) x y
  | .eql => eqB false (tab t) x y
  | .neq => eqB true (tab t) x y
  | .shl => pvShl x y
  | .shr => pvShr x y
  | .quo => int2 (fun n m => .ex (m ≠ 0 ∧ -9223372036854775808 ≤ n.tdiv m ∧ n.tdiv m ≤ 9223372036854775807) fun _ => .int (n.tdiv m)) x y
  | .rem => int2 (fun n m => .ex (m ≠ 0) fun _ => .int (n.tmod m)) x y
  | .and => int2 (fun n m => .ok (.int (bits .and .i64 n m))) x y
  | .or => int2 (fun n m => .ok (.int (bits .or .i64 n m))) x y
  | .xor => int2 (fun n m => .ok (.int (bits .xor .i64 n m))) x y
  | .andNot => int2 (fun n m => .ok (.int (bits .andNot .i64 n m))) x y
def pvConv : Option TI → Option TI → AV → PR
  | some _, some ⟨_, _, _, _, .int k⟩, .v (.int _ n) => .ex (rng k n) fun _ => .v (.int k n)
  | _, _, _ => .no
def pvNot : AV → PR
  | .v (.bool b) => .ok (.bool (!b))
  | _ => .no
def pvNeg : AV → PR
  | .v (.int .i64 n) => .ex (-9223372036854775808 ≤ -n ∧ -n ≤ 9223372036854775807) fun _ => .int (-n)
  | _ => .no
def pvPick2 (b : Bool) : AV → AV → PR
  | .v (.bool p), .v (.bool q) => .ok (.bool (if b then p else q))
  | x, y => .ok (if b then x else y)
def pvPick : AV → AV → AV → PR
  | .v (.bool b), x, y => pvPick2 b x y
  | _, _, _ => .no
def pvNth : Option AV → PR
  | some c => .ok c
  | none => .no
def pvExtract (i : Nat) : AV → PR
  | .tup cs => pvNth cs[i]?
  | _ => .no
def ldB (i : TI) (off : Nat) : Option Blk → PR
  | some ⟨_, cs, _⟩ => if i.agg = true then .ex (off + i.n ≤ cs.length) (fun _ => .agg ((cs.drop off).take i.n)) else .ex (off < cs.length) (fun h => cs[off]'h)
  | none => .no
def ldI (i : TI) (cs : List AV) : PR :=
  if i.agg = true then .ex (i.n ≤ cs.length) (fun _ => .agg (cs.take i.n)) else .ex (0 < cs.length) (fun h => cs[0]'h)
def pvLoad (hp : Hp) : Option TI → AV → PR
  | some i, .ptr id off => ldB i off (hget hp id)
  | some i, .iptr cs => ldI i cs
  | _, _ => .no
def pvFA2 (x : AV) : Option (Nat × Nat) → PR
  | some (o, n) => if n = 0 then .no else
    match x with
    | .ptr id off => .ok (.ptr id (off + o))
    | .iptr cs => .ok (.iptr (cs.drop o))
    | _ => .no
  | none => .no
def pvFA (f : Nat) : Option TI → AV → PR
  | some ⟨_, _, _, _, .st pl _⟩, x => pvFA2 x pl[f]?
  | _, _ => .no
def idxS : Option TI → Int → AV → PR
  | some i, n, .isl sz _ es => if sz = i.n then .ex (0 ≤ n ∧ n.toNat < es.length) (fun h => .iptr (es[n.toNat]'h.2).cells) else .no
  | some i, n, .sl sz _ id off len => if sz = i.n then .ex (0 ≤ n ∧ n.toNat < len) (fun _ => .ptr id (off + n.toNat * sz)) else .no
  | _, _, _ => .no
def idxA (N : Nat) : Option TI → Int → AV → PR
  | some i, n, .ptr id off => .ex (0 ≤ n ∧ n.toNat < N) (fun _ => .ptr id (off + n.toNat * i.n))
  | some i, n, .iptr cs => .ex (0 ≤ n ∧ n.toNat < N) (fun _ => .iptr (cs.drop (n.toNat * i.n)))
  | _, _, _ => .no
def pvIdx (tab : Nat → Option TI) : Option TI → AV → AV → PR
  | some ⟨_, _, _, _, .sl e⟩, x, .v (.int .i64 n) => idxS (tab e) n x
  | some ⟨_, _, _, _, .ar N e _⟩, x, .v (.int .i64 n) => idxA N (tab e) n x
  | _, _, _ => .no
def pvLen : Option TI → AV → PR
  | some ⟨_, _, _, _, .sl _⟩, .isl _ _ es => .ok (.int es.length)
  | some ⟨_, _, _, _, .sl _⟩, .sl _ _ _ _ n => .ok (.int n)
  | some ⟨_, _, _, _, .sl _⟩, .v (.slice _ n _) => .ok (.int n)
  | _, _ => .no
def pvBuild (tab : Nat → Option TI) (ps : List (Nat × AV)) : Option TI → PR
  | some ⟨_, _, _, z, .st pl _⟩ => .ex (partsOk (fun i => pl[i]?) z.length ps = true) (fun _ => .agg (fillA (fun i => (pl[i]?).map (·.1)) z ps))
  | some ⟨_, _, _, z, .ar _ e _⟩ => match tab e with
    | some i => .ex (partsOk (fun k => some (k * i.n, i.n)) z.length ps = true) (fun _ => .agg (fillA (fun k => some (k * i.n)) z ps))
    | none => .no
  | _ => .no
def pvNil : AV → PR
  | .ptr i o => .ok (.ptr i o)
  | .iptr cs => .ok (.iptr cs)
  | .fn f cs => .ok (.fn f cs)
  | _ => .no
def pvFn (f : FuncId) (caps : List AV) : Bool → PR
  | true => if f ≤ 999999999 then .ok (.fn f caps) else .no
  | false => .no
def slE : Option TI → Option Nat
  | some ⟨_, _, _, _, .sl e⟩ => some e
  | _ => none
/-- A part of an own slice: it may be empty, and then it stands nowhere. -/
def slW (sz bw id off n : Nat) : AV := if n = 0 then .isl sz bw [] else .sl sz bw id off n
def slRoom (off k : Nat) : Option Blk → Prop
  | some b => off + k ≤ b.cs.length
  | none => False
def pvSlice (hp : Hp) (tab : Nat → Option TI) : Option Nat → AV → Option AV → Option AV → PR
  | some e, .isl sz bw es, some (.v (.int .i64 n)), none => match tab e with
    | some i => if sz = i.n then .ex (0 ≤ n ∧ n ≤ es.length) (fun _ => .isl sz bw (es.drop n.toNat)) else .no
    | none => .no
  | some e, .isl sz bw es, none, some (.v (.int .i64 n)) => match tab e with
    | some i => if sz = i.n then .ex (0 ≤ n ∧ n ≤ es.length) (fun _ => .isl sz bw (es.take n.toNat)) else .no
    | none => .no
  | some e, .isl sz bw es, some (.v (.int .i64 n)), some (.v (.int .i64 m)) => match tab e with
    | some i => if sz = i.n then .ex (0 ≤ n ∧ n ≤ m ∧ m ≤ es.length) (fun _ => .isl sz bw ((es.take m.toNat).drop n.toNat)) else .no
    | none => .no
  | some e, .sl sz bw id off k, none, some (.v (.int .i64 m)) => match tab e with
    | some i => if sz = i.n then .ex (0 ≤ m ∧ m ≤ k) (fun _ => .sl sz bw id off m.toNat) else .no
    | none => .no
  | some e, .sl sz bw id off k, some (.v (.int .i64 n)), none => match tab e with
    | some i => if sz = i.n then .ex (0 < sz ∧ 0 ≤ n ∧ n ≤ k) (fun _ => slW sz bw id (off + n.toNat * sz) (k - n.toNat)) else .no
    | none => .no
  | some e, .sl sz bw id off _, some (.v (.int .i64 n)), some (.v (.int .i64 m)) => match tab e with
    | some i => if sz = i.n then .ex (0 < sz ∧ 0 ≤ n ∧ n ≤ m ∧ slRoom off (m.toNat * sz) (hget hp id) ∧ m.toNat * bw ≤ 140737488355328) (fun _ => slW sz bw id (off + n.toNat * sz) (m.toNat - n.toNat)) else .no
    | none => .no
  | _, _, _, _ => .no
def pvSlice3 (tab : Nat → Option TI) : Option Nat → AV → Option AV → Option AV → Option AV → PR
  | some e, .sl sz _ _ _ k, some (.v (.int .i64 n)), some (.v (.int .i64 m)), some (.v (.int .i64 x)) => match tab e with
    | some i => if sz = i.n then .ex (0 ≤ n ∧ n ≤ m ∧ m ≤ x ∧ x ≤ k) (fun _ => .any) else .no
    | none => .no
  | _, _, _, _, _ => .no
def pvField (off : Option Nat) : AV → PR
  | .agg cs => match off with
    | some o => pvNth cs[o]?
    | none => .no
  | _ => .no

def pvo (tab : Nat → Option TI) (op : Op) (s : St) : PR :=
  match op with
  | .move x => .ok (s.eval x)
  | .assign x => .ok (s.eval x)
  | .pick c x y => pvPick (s.eval c) (s.eval x) (s.eval y)
  | .binOp b t x y _ => pvBin tab b t (s.eval x) (s.eval y)
  | .unOp .not _ x => pvNot (s.eval x)
  | .unOp .neg _ x => pvNeg (s.eval x)
  | .extract x i => pvExtract i (s.eval x)
  | .load t x => pvLoad s.hp (tab t) (s.eval x)
  | .fieldAddr t x f => pvFA f (tab t) (s.eval x)
  | .indexAddr t x i => pvIdx tab (tab t) (s.eval x) (s.eval i)
  | .build t ps => pvBuild tab (evParts s ps) (tab t)
  | .nilCheck x => pvNil (s.eval x)
  | .makeFunc (.func f) ⟨[]⟩ caps => pvFn f (evalL s caps) (AV.purL (evalL s caps))
  | .slice t x lo hi none => pvSlice s.hp tab (slE (tab t)) (s.eval x) (lo.map s.eval) (hi.map s.eval)
  | .slice t x lo hi (some m) => pvSlice3 tab (slE (tab t)) (s.eval x) (lo.map s.eval) (hi.map s.eval) (some (s.eval m))
  | .convert t u x => pvConv (tab t) (tab u) (s.eval x)
  | .call ⟨.builtin .len, ⟨[x]⟩, ⟨[t]⟩⟩ => pvLen (tab t) (s.eval x)
  | .call ⟨.builtin .min, ⟨[x, y]⟩, _⟩ => int2 (fun a b => .ok (.int (min a b))) (s.eval x) (s.eval y)
  | .call ⟨.builtin .max, ⟨[x, y]⟩, _⟩ => int2 (fun a b => .ok (.int (max a b))) (s.eval x) (s.eval y)
  | _ => .no

theorem run_eqlR {t e : TypeId} {k : IntKind} (hu : TyU P t (.array 2 e)) (h1 : TyU P e (.int k)) (hc : P.cellsOf e = 1) (hs : (P.info? e).isSome = true) (a b c d : Int) (w : World) :
    (Op.equalIn 10000 t (.agg #[.int .i64 a, .int .i64 b]) (.agg #[.int .i64 c, .int .i64 d])).run P w = .ok (a == c && b == d) w := by
  obtain ⟨i, hi⟩ := Option.isSome_iff_exists.1 hs
  rw [run_equalIn_array w 9999 _ _ hu.ok hi, show List.range 2 = [0, 1] from rfl, hc]
  simp only [Op.eqItems, Sem.run_bind, part, run_isAgg h1.ok, aggB, Result.andThen_ok, Bool.false_eq_true, if_false, Nat.zero_mul, Nat.one_mul]
  simp only [List.getElem?_toArray, List.getElem?_cons_zero, List.getElem?_cons_succ, Sem.run_pure, Result.andThen_ok, run_equalIn_int w 9998 _ _ _ _ _ h1.ok]
  cases hac : (a == c)
  · rfl
  · simp only [Bool.not_true, Bool.false_eq_true, if_false, run_isAgg h1.ok, aggB, Sem.run_bind, Sem.run_pure, Result.andThen_ok, run_equalIn_int w 9998 _ _ _ _ _ h1.ok, Bool.true_and]
    cases hbd : (b == d) <;> rfl
theorem pv_eqlR {s : St} {x y : Operand} {a b c d : Int} {t u e : TypeId} {k : IntKind} (hu : TyU P t (.array 2 e)) (h1 : TyU P e (.int k)) (hg : P.eqGuardType P.depth t = false) (hc : P.cellsOf e = 1) (hs : (P.info? e).isSome = true)
    (hx : s.eval x = .agg [.int a, .int b]) (hy : s.eval y = .agg [.int c, .int d]) : PV P (.binOp .eql t x y u) s (.bool (a == c && b == d)) :=
  pv_of fun _ _ _ ac _ h => ⟨_, .v, fun w' _ _ _ _ _ => by
    have e1 := h.eval x; rw [hx] at e1
    have e2 := h.eval y; rw [hy] at e2
    simp only [execOp, conc_agg2 e1, conc_agg2 e2, Sem.run_bind, run_eqGuard_agg w' _ t _ _ _ _ hg, Result.andThen_ok, run_eql_struct, run_eqlR hu h1 hc hs]
    rfl⟩
theorem pv_neqR {s : St} {x y : Operand} {a b c d : Int} {t u e : TypeId} {k : IntKind} (hu : TyU P t (.array 2 e)) (h1 : TyU P e (.int k)) (hg : P.eqGuardType P.depth t = false) (hc : P.cellsOf e = 1) (hs : (P.info? e).isSome = true)
    (hx : s.eval x = .agg [.int a, .int b]) (hy : s.eval y = .agg [.int c, .int d]) : PV P (.binOp .neq t x y u) s (.bool (!(a == c && b == d))) :=
  pv_of fun _ _ _ ac _ h => ⟨_, .v, fun w' _ _ _ _ _ => by
    have e1 := h.eval x; rw [hx] at e1
    have e2 := h.eval y; rw [hy] at e2
    simp only [execOp, conc_agg2 e1, conc_agg2 e2, Sem.run_bind, run_eqGuard_agg w' _ t _ _ _ _ hg, Result.andThen_ok, run_neq_struct, run_eqlR hu h1 hc hs]
    rfl⟩
theorem pv_sliceHiO {s : St} {t el : TypeId} {x l : Operand} {m : Int} {z : Value} {sz bw b id off k : Nat} [hu : TyU P t (.slice el)] [hT : TyI P el z sz b]
    (hx : s.eval x = .sl sz bw id off k) (hl : s.eval l = .int m) (h1 : 0 ≤ m) (h2 : m ≤ k) : PV P (.slice t x none (some l) none) s (.sl sz bw id off m.toNat) :=
  pv_of fun R β G a w hr => by
    have e1 := hr.eval x; rw [hx] at e1
    have e2 := hr.eval l; rw [hl] at e2
    have e2 := conc_int e2
    generalize hxv : a.eval x = vx at e1
    cases e1 with
    | slN hb =>
      have hm : m = 0 := by omega
      subst hm
      refine ⟨_, .slN hb, fun w' d ty pos aft g => ?_⟩
      have := run_sliceI (P := P) hu hT none 0 0 none (some 0) w' (by simp) (by simp) (by simp)
      simp only [Option.map_none, Option.map_some] at this
      simp only [execOp, hxv, e2, Option.map_none, Option.map_some, Sem.run_bind, this, Result.andThen_ok, Sem.run_pure]
      simp
    | @sl _ _ _ _ _ _ c b' t' hb hnc ht hm hbw =>
      refine ⟨.slice (some ⟨b', off, none⟩) m.toNat c, .sl hb (by omega) ht hm (Nat.le_trans (Nat.mul_le_mul_right _ (by omega)) hbw), fun w' d ty pos aft g => ?_⟩
      have := run_sliceI (P := P) hu hT (some ⟨b', off, none⟩) k c none (some m) w' (by simp) (by simpa using h1) (by simp; omega)
      simp only [Option.map_none, Option.map_some] at this
      simp only [execOp, hxv, e2, Option.map_none, Option.map_some, Sem.run_bind, this, Result.andThen_ok, Sem.run_pure, Option.getD_none, Option.getD_some, Int.toNat_zero, Nat.sub_zero, Nat.zero_mul, Addr.add_none, Nat.add_zero]
      congr 2
      split <;> rfl
theorem pv_sliceWO {s : St} {t el : TypeId} {x l : Operand} {hi : Option Operand} {n : Int} {H : Option Int} {m : Nat} {z : Value} {sz bw b id off k : Nat} [hu : TyU P t (.slice el)] [hT : TyI P el z sz b] (hp : 0 < sz)
    (hx : s.eval x = .sl sz bw id off k) (hl : s.eval l = .int n) (hhi : hi.map s.eval = H.map AV.int) (hH : H.getD k = m) (h1 : 0 ≤ n) (h2 : n.toNat ≤ m) (h3 : m ≤ k ∨ slRoom off (m * sz) (hget s.hp id)) (h4 : m ≤ k ∨ m * bw ≤ 140737488355328) :
    PV P (.slice t x (some l) hi none) s (slW sz bw id (off + n.toNat * sz) (m - n.toNat)) :=
  pv_of fun R β G a w hr => by
    have e1 := hr.eval x; rw [hx] at e1
    have e2 := hr.eval l; rw [hl] at e2
    have e2 := conc_int e2
    have e3 : hi.map a.eval = H.map (Value.int .i64) := by
      cases hi with
      | none => cases H with
        | none => rfl
        | some _ => simp at hhi
      | some o => cases H with
        | none => simp at hhi
        | some q =>
          simp only [Option.map_some, Option.some.injEq] at hhi ⊢
          have := hr.eval o; rw [hhi] at this; exact conc_int this
    generalize hxv : a.eval x = vx at e1
    cases e1 with
    | slN hb =>
      have hm0 : m = 0 := by
        rcases h3 with h3 | h3
        · omega
        · cases hq : hget s.hp id with
          | none => rw [hq] at h3; exact h3.elim
          | some bk =>
            rw [hq] at h3
            have := hr.hp.blk id bk hq
            unfold BlkOk at this
            rw [hb] at this
            simp only [slRoom, this.1, List.length_nil] at h3
            have : m * sz = 0 := by omega
            rcases Nat.mul_eq_zero.1 this with h | h
            · exact h
            · omega
      subst hm0
      have hn : n = 0 := by omega
      subst hn
      have hH0 : H.getD 0 = 0 := by simpa using hH
      refine ⟨.slice none 0 0, by simp only [slW]; exact .isl (es := []) [] (by simp) (by simp) (by simp) (by simp) (by simp) (by simp) (by simp), fun w' d ty pos aft g => ?_⟩
      have := run_sliceI (P := P) hu hT none 0 0 (some 0) H w' (by simp) (by simp [hH0]) (by simp [hH0])
      simp only [Option.map_some] at this
      simp only [execOp, hxv, e2, e3, Option.map_none, Option.map_some, Sem.run_bind, this, Result.andThen_ok, Sem.run_pure]
      simp [hH0]
    | @sl _ _ _ _ _ _ c b' t' hb hnc ht hm hbw =>
      have hmc : m ≤ c := by
        rcases h3 with h3 | h3
        · omega
        · cases hq : hget s.hp id with
          | none => rw [hq] at h3; exact h3.elim
          | some bk =>
            rw [hq] at h3
            obtain ⟨_, _, arr, g3, g4, g5, _⟩ := hr.hp.block hq hb
            simp only [slRoom] at h3
            have : m * sz ≤ c * sz := by omega
            exact Nat.le_of_mul_le_mul_right this hp
      have hbm : m * bw ≤ reach := by
        rcases h4 with h4 | h4
        · exact Nat.le_trans (Nat.mul_le_mul_right _ h4) hbw
        · exact h4
      have hrun := fun w' => run_sliceI (P := P) hu hT (some ⟨b', off, none⟩) k c (some n) H w' (by simpa using h1) (by rw [hH]; simp; omega) (by rw [hH]; omega)
      rw [hH] at hrun
      simp only [Option.map_some, Option.getD_some, Int.toNat_natCast] at hrun
      refine ⟨.slice (if c = n.toNat then some ⟨b', off, none⟩ else some ((⟨b', off, none⟩ : Addr).add (n.toNat * sz))) (m - n.toNat) (c - n.toNat), ?_, fun w' d ty pos aft g => by
        simp only [execOp, hxv, e2, e3, Option.map_none, Option.map_some, Sem.run_bind, hrun w', Result.andThen_ok, Sem.run_pure]⟩
      unfold slW
      split
      · rename_i hz
        rw [hz]
        exact .isl (es := []) [] (by simp) (by simp) (by simp) (by simp) (by simp) (by simp) (by simp)
      · rename_i hz
        have hne : ¬ c = n.toNat := by omega
        rw [if_neg hne]
        simp only [Addr.add_none]
        refine .sl hb (by omega) ?_ (by omega) (Nat.le_trans (Nat.mul_le_mul_right _ (by omega)) hbm)
        have : n.toNat * sz + (c - n.toNat) * sz = c * sz := by rw [← Nat.add_mul]; congr 1; omega
        omega
theorem pv_slice3O {s : St} {t el : TypeId} {x l h y : Operand} {n m q : Int} {z : Value} {sz bw b id off k : Nat} [hu : TyU P t (.slice el)] [hT : TyI P el z sz b]
    (hx : s.eval x = .sl sz bw id off k) (hl : s.eval l = .int n) (hh : s.eval h = .int m) (hy : s.eval y = .int q) (h1 : 0 ≤ n) (h2 : n ≤ m) (h3 : m ≤ q) (h4 : q ≤ k) : PV P (.slice t x (some l) (some h) (some y)) s .any :=
  pv_of fun R β G a w hr => by
    have e1 := hr.eval x; rw [hx] at e1
    have e2 := hr.eval l; rw [hl] at e2
    have e2 := conc_int e2
    have e3 := hr.eval h; rw [hh] at e3
    have e3 := conc_int e3
    have e4 := hr.eval y; rw [hy] at e4
    have e4 := conc_int e4
    generalize hxv : a.eval x = vx at e1
    obtain ⟨A, c, rfl, hc⟩ : ∃ A c, vx = .slice A k c ∧ k ≤ c := by
      cases e1 with
      | slN hb => exact ⟨_, _, rfl, Nat.le_refl _⟩
      | sl hb hnc ht hm hbw => exact ⟨_, _, rfl, hnc⟩
    refine ⟨.slice (if q.toNat = n.toNat then A else A.map (·.add (n.toNat * sz))) (m.toNat - n.toNat) (q.toNat - n.toNat), .any, fun w' d ty pos aft g => ?_⟩
    have a1 : max m 0 = m := by omega
    have a2 : max q 0 = q := by omega
    have h0m : 0 ≤ m := by omega
    have h0q : 0 ≤ q := by omega
    have hqc : q ≤ (c : Int) := by omega
    simp [execOp, hxv, e2, e3, e4, Instr.sliceAt, Instr.slice, run_underlying hu.ok, Instr.sliceBounds, Instr.sliceBound, run_sizeOf_i hT, asIntOf, h1, h2, h3, h0m, h0q, hqc, a1, a2]
theorem pv_shift {s : St} {x y : Operand} {t u : TypeId} {op : BinOp} {k k' : IntKind} {a b : Int} {r : Value} (hx : s.eval x = .v (.int k a)) (hy : s.eval y = .v (.int k' b)) (he : op ≠ .eql ∧ op ≠ .neq)
    (hr : ∀ w, (binOp op t (.int k a) (.int k' b)).run P w = .ok r w) : PV P (.binOp op t x y u) s (.v r) :=
  pv_of fun _ _ _ ac _ h => ⟨r, .v, fun w' _ _ _ _ _ => by
    have h1 := h.eval x; rw [hx] at h1
    have h2 := h.eval y; rw [hy] at h2
    have hg : (eqGuard op t x y (ac.eval x) (ac.eval y)).run P w' = .ok () w' := by
      unfold eqGuard
      cases op <;> first | (exact absurd rfl he.1) | (exact absurd rfl he.2) | simp
    simp only [execOp, Sem.run_bind, hg, Result.andThen_ok]
    rw [conc_v h1, conc_v h2, hr w']
    simp⟩
section
variable {s : St} {x y : Operand} {n m : Int} {t u : TypeId}
theorem pv_quo (hx : s.eval x = .int n) (hy : s.eval y = .int m) (h : m ≠ 0) (h2 : -9223372036854775808 ≤ n.tdiv m ∧ n.tdiv m ≤ 9223372036854775807) : PV P (.binOp .quo t x y u) s (.int (n.tdiv m)) :=
  pv_bin hx hy (by simp) fun w => by simp [binOp, Op.intDiv, h, wrap_in h2.1 h2.2]
theorem pv_rem (hx : s.eval x = .int n) (hy : s.eval y = .int m) (h : m ≠ 0) : PV P (.binOp .rem t x y u) s (.int (n.tmod m)) :=
  pv_bin hx hy (by simp) fun w => by simp [binOp, Op.intDiv, h]
theorem pv_and (hx : s.eval x = .int n) (hy : s.eval y = .int m) : PV P (.binOp .and t x y u) s (.int (bits .and .i64 n m)) := pv_bin hx hy (by simp) fun w => by simp [binOp, intBits_and]
theorem pv_or (hx : s.eval x = .int n) (hy : s.eval y = .int m) : PV P (.binOp .or t x y u) s (.int (bits .or .i64 n m)) := pv_bin hx hy (by simp) fun w => by simp [binOp, intBits_or]
theorem pv_xor (hx : s.eval x = .int n) (hy : s.eval y = .int m) : PV P (.binOp .xor t x y u) s (.int (bits .xor .i64 n m)) := pv_bin hx hy (by simp) fun w => by simp [binOp, intBits_xor]
theorem pv_andNot (hx : s.eval x = .int n) (hy : s.eval y = .int m) : PV P (.binOp .andNot t x y u) s (.int (bits .andNot .i64 n m)) := pv_bin hx hy (by simp) fun w => by simp [binOp, intBits_andNot]
end
theorem pv_conv {s : St} {x : Operand} {t u : TypeId} {d : TypeDesc} {k k' : IntKind} {n : Int} (hu : TyU P t d) (hv : TyU P u (.int k)) (hx : s.eval x = .v (.int k' n)) (hn : rng k n) : PV P (.convert t u x) s (.v (.int k n)) :=
  pv_of fun _ _ _ ac _ h => ⟨_, .v, fun w' _ _ _ _ _ => by
    have h1 := h.eval x; rw [hx] at h1
    simp only [execOp, convert, conc_v h1, Sem.run_bind, run_underlying hu.ok, run_underlying hv.ok, Result.andThen_ok, Conv.intToInt, rng_wrap hn]
    simp⟩
theorem pvBin_ok {tab : Nat → Option TI} [hT : Tb P tab] {op : BinOp} {t u : TypeId} {X Y : Operand} {s : St} : PRok P (.binOp op t X Y u) s (pvBin tab op t (s.eval X) (s.eval Y)) := by
  have key : ∀ x y, s.eval X = x → s.eval Y = y → PRok P (.binOp op t X Y u) s (pvBin tab op t x y) := by
    intro x y hx hy
    have h2 : ∀ f : Int → Int → PR, (∀ n m, s.eval X = .int n → s.eval Y = .int m → PRok P (.binOp op t X Y u) s (f n m)) → PRok P (.binOp op t X Y u) s (int2 f x y) := by
      intro f hf
      unfold int2
      split
      · exact hf _ _ hx hy
      · trivial
    have h3 : ∀ neg : Bool, (op = if neg then .neq else .eql) → PRok P (.binOp op t X Y u) s (eqB neg (tab t) x y) := by
      intro neg hop
      generalize hti : tab t = ti
      revert hti hx hy
      unfold eqB
      split <;> intro hx hy hti
      · cases neg <;> subst hop
        · exact pv_eql hx hy
        · exact pv_neq hx hy
      · obtain ⟨d, z, hu, _, _, _, hk⟩ := hT.ok _ _ hti
        cases hk
        cases neg <;> subst hop
        · exact pv_eqlB (hu := hu) hx hy
        · exact pv_neqB (hu := hu) hx hy
      · obtain ⟨d, z, hu, _, _, _, _, hk⟩ := hT.ok _ _ hti
        obtain ⟨f1, f2, k1, k2, rfl, g1, g2, g3⟩ := hk rfl
        cases neg <;> subst hop
        · exact pv_eqlA (hu := hu) (h1 := g1) (h2 := g2) hx hy g3
        · exact pv_neqA (hu := hu) (h1 := g1) (h2 := g2) hx hy g3
      · obtain ⟨d, z, hu, _, _, _, hd, hk⟩ := hT.ok _ _ hti
        obtain ⟨rfl, ⟨k, h1⟩, hg, hc, hs⟩ := hk rfl
        subst hd
        cases neg <;> subst hop
        · exact pv_eqlR hu h1 hg hc hs hx hy
        · exact pv_neqR hu h1 hg hc hs hx hy
      · trivial
    cases op <;> simp only [pvBin]
    case lss => exact h2 _ fun n m a b => pv_lss a b
    case leq => exact h2 _ fun n m a b => pv_leq a b
    case gtr => exact h2 _ fun n m a b => pv_gtr a b
    case geq => exact h2 _ fun n m a b => pv_geq a b
    case and => exact h2 _ fun n m a b => pv_and a b
    case or => exact h2 _ fun n m a b => pv_or a b
    case xor => exact h2 _ fun n m a b => pv_xor a b
    case andNot => exact h2 _ fun n m a b => pv_andNot a b
    case add => exact h2 _ fun n m a b => fun h => pv_add a b h.1 h.2
    case sub => exact h2 _ fun n m a b => fun h => pv_sub a b h.1 h.2
    case mul => exact h2 _ fun n m a b => fun h => pv_mul a b h.1 h.2
    case quo => exact h2 _ fun n m a b => fun h => pv_quo a b h.1 h.2
    case rem => exact h2 _ fun n m a b => fun h => pv_rem a b h
    case eql => exact h3 false rfl
    case neq => exact h3 true rfl
    case shl =>
      unfold pvShl
      split
      · refine fun h => pv_shift hx hy (by simp) fun w => ?_
        obtain ⟨⟨h1, h2⟩, h3⟩ := h
        rw [kb_bits] at h2
        simp [binOp, shift_shl _ _ _ _ h1 h2, rng_wrap h3]
      · trivial
    case shr =>
      unfold pvShr
      split
      · refine fun h => pv_shift hx hy (by simp) fun w => ?_
        obtain ⟨h1, h2⟩ := h
        rw [kb_bits] at h2
        simp [binOp, shift_shr _ _ _ _ h1 h2]
      · trivial
  exact key _ _ rfl rfl

theorem pv_loadG {s : St} {x : Operand} {t : TypeId} {id off : Nat} {i : TI} (hti : TIOk P t i) (hx : s.eval x = .ptr id off) : PRok P (.load t x) s (ldB i off (hget s.hp id)) := by
  obtain ⟨d, z, hu, hi, ha, _, _⟩ := hti
  generalize hb : hget s.hp id = ob
  unfold ldB
  split
  · split
    · rename_i h
      exact fun hc => pv_loadA (hu := hu) (hi := hi) hx (by rw [ha, h]) hb hc
    · rename_i h
      exact fun hc => pv_load (hu := hu) hx (by rw [ha]; simpa using h) hb (List.getElem?_eq_getElem hc)
  · trivial
theorem pv_loadIG {s : St} {x : Operand} {t : TypeId} {cs : List AV} {i : TI} (hti : TIOk P t i) (hx : s.eval x = .iptr cs) : PRok P (.load t x) s (ldI i cs) := by
  obtain ⟨d, z, hu, hi, ha, _, _⟩ := hti
  unfold ldI
  split
  · rename_i h
    exact fun hc => pv_loadIA (hu := hu) (hi := hi) hx (by rw [ha, h]) hc
  · rename_i h
    exact fun hc => pv_loadI (hu := hu) hx (by rw [ha]; simpa using h) (List.getElem?_eq_getElem hc)

theorem pvo_ok {tab : Nat → Option TI} [hT : Tb P tab] (op : Op) (s : St) : PRok P op s (pvo tab op s) := by
  unfold pvo
  split
  · exact pv_move
  · exact pv_assign
  · rename_i c x y
    unfold pvPick
    split
    · rename_i b _ _ hc
      unfold pvPick2
      split
      · rename_i p q hx hy
        exact pv_pickB hc hx hy
      · exact pv_pick hc
    · trivial
  · exact pvBin_ok
  · rename_i t x
    generalize hx : s.eval x = v
    unfold pvNot; split
    · exact pv_not hx
    · trivial
  · rename_i t x
    generalize hx : s.eval x = v
    unfold pvNeg; split
    · exact fun h => pv_neg hx h.1 h.2
    · trivial
  · rename_i x i
    generalize hx : s.eval x = v
    unfold pvExtract; split
    · unfold pvNth; split
      · rename_i h; exact pv_extract hx h
      · trivial
    · trivial
  · rename_i t x
    generalize hx : s.eval x = v
    generalize hti : tab t = ti
    unfold pvLoad; split
    · exact pv_loadG (hT.ok _ _ hti) hx
    · exact pv_loadIG (hT.ok _ _ hti) hx
    · trivial
  · rename_i t x f
    generalize hx : s.eval x = v
    generalize hti : tab t = ti
    unfold pvFA; split
    · obtain ⟨d, z, hu, _, _, _, hF, _⟩ := hT.ok _ _ hti
      unfold pvFA2; split
      · rename_i o n hf
        split
        · trivial
        · rename_i hn
          split
          · exact pv_fieldAddrF (hF := hF) hx hf hn
          · exact pv_fieldAddrIF (hF := hF) hx hf hn
          · trivial
      · trivial
    · trivial
  · rename_i t x i
    generalize hx : s.eval x = v
    generalize hy : s.eval i = w
    generalize hti : tab t = ti
    unfold pvIdx; split
    · rename_i e n
      obtain ⟨d, z, hu, _, _, _, hk⟩ := hT.ok _ _ hti
      cases hk
      generalize hte : tab e = te
      revert hte hx
      unfold idxS; split <;> intro hx hte
      · obtain ⟨d', z', hu', hi', _⟩ := hT.ok _ _ hte
        split
        · rename_i hsz
          subst hsz
          exact fun h => pv_indexAddr (hu := hu) (hi := hi') hx hy h.1 (List.getElem?_eq_getElem h.2)
        · trivial
      · obtain ⟨d', z', hu', hi', _⟩ := hT.ok _ _ hte
        split
        · rename_i hsz
          subst hsz
          exact fun h => pv_indexAddrS (hu := hu) (hi := hi') hx hy h.1 h.2
        · trivial
      · trivial
    · rename_i N e i2 n
      obtain ⟨d, z, hu, _, _, _, hk, _⟩ := hT.ok _ _ hti
      subst hk
      generalize hte : tab e = te
      revert hte hx
      unfold idxA; split <;> intro hx hte
      · obtain ⟨d', z', hu', hi', _⟩ := hT.ok _ _ hte
        exact fun h => pv_indexAddrA (hu := hu) (hi := hi') hx hy h.1 h.2
      · obtain ⟨d', z', hu', hi', _⟩ := hT.ok _ _ hte
        exact fun h => pv_indexAddrIA (hu := hu) (hi := hi') hx hy h.1 h.2
      · trivial
    · trivial
  · rename_i t ps
    generalize hti : tab t = ti
    unfold pvBuild; split
    · obtain ⟨d, z, hu, hi, _, hz, hF, _⟩ := hT.ok _ _ hti
      simp only at hi hz
      subst hz
      exact fun h => pv_build (hF := hF) (hi := hi) h
    · obtain ⟨d, z, hu, hi, _, hz, hk, _⟩ := hT.ok _ _ hti
      subst hk
      simp only at hi hz
      subst hz
      split
      · rename_i hte
        obtain ⟨d', z', hu', hi', _⟩ := hT.ok _ _ hte
        exact fun h => pv_buildA (hu := hu) (hi := hi) (he := hi') h
      · trivial
    · trivial
  · rename_i x
    generalize hx : s.eval x = v
    unfold pvNil; split
    · exact pv_nilCheck hx
    · exact pv_nilCheckI hx
    · exact pv_nilCheckF hx
    · trivial
  · unfold pvFn; split
    · split
      · rename_i hf
        exact pv_makeFunc hf
      · trivial
    · trivial
  · rename_i t x lo hi
    have hs : ∀ e, slE (tab t) = some e → TyU P t (.slice e) := by
      intro e he
      generalize hti : tab t = ti at he
      unfold slE at he
      split at he
      · obtain ⟨d, z, hu, _, _, _, hk⟩ := hT.ok _ _ hti
        cases hk; injection he with he; subst he; exact hu
      · cases he
    generalize hx : s.eval x = v
    generalize hl : lo.map s.eval = l
    generalize hh : hi.map s.eval = m
    generalize hse : slE (tab t) = se at *
    unfold pvSlice; split
    · have hu := hs _ rfl
      obtain ⟨l', rfl, hl'⟩ : ∃ l', lo = some l' ∧ s.eval l' = _ := by cases lo with | none => simp at hl | some l' => exact ⟨l', rfl, by simpa using hl⟩
      obtain rfl : hi = none := by cases hi with | none => rfl | some _ => simp at hh
      split
      · rename_i hte
        obtain ⟨d', z', hu', hi', _⟩ := hT.ok _ _ hte
        split
        · rename_i hsz; subst hsz
          exact fun h => pv_sliceLo (hu := hu) (hT := hi') hx hl' h.1 h.2
        · trivial
      · trivial
    · have hu := hs _ rfl
      obtain ⟨l', rfl, hl'⟩ : ∃ l', hi = some l' ∧ s.eval l' = _ := by cases hi with | none => simp at hh | some l' => exact ⟨l', rfl, by simpa using hh⟩
      obtain rfl : lo = none := by cases lo with | none => rfl | some _ => simp at hl
      split
      · rename_i hte
        obtain ⟨d', z', hu', hi', _⟩ := hT.ok _ _ hte
        split
        · rename_i hsz; subst hsz
          exact fun h => pv_sliceHi (hu := hu) (hT := hi') hx hl' h.1 h.2
        · trivial
      · trivial
    · have hu := hs _ rfl
      obtain ⟨l', rfl, hl'⟩ : ∃ l', lo = some l' ∧ s.eval l' = _ := by cases lo with | none => simp at hl | some l' => exact ⟨l', rfl, by simpa using hl⟩
      obtain ⟨h', rfl, hh'⟩ : ∃ l', hi = some l' ∧ s.eval l' = _ := by cases hi with | none => simp at hh | some l' => exact ⟨l', rfl, by simpa using hh⟩
      split
      · rename_i hte
        obtain ⟨d', z', hu', hi', _⟩ := hT.ok _ _ hte
        split
        · rename_i hsz; subst hsz
          exact fun h => pv_slice2 (hu := hu) (hT := hi') hx hl' hh' h.1 h.2.1 h.2.2
        · trivial
      · trivial
    · have hu := hs _ rfl
      obtain ⟨l', rfl, hl'⟩ : ∃ l', hi = some l' ∧ s.eval l' = _ := by cases hi with | none => simp at hh | some l' => exact ⟨l', rfl, by simpa using hh⟩
      obtain rfl : lo = none := by cases lo with | none => rfl | some _ => simp at hl
      split
      · rename_i hte
        obtain ⟨d', z', hu', hi', _⟩ := hT.ok _ _ hte
        split
        · rename_i hsz; subst hsz
          exact fun h => pv_sliceHiO (hu := hu) (hT := hi') hx hl' h.1 h.2
        · trivial
      · trivial
    · have hu := hs _ rfl
      obtain ⟨l', rfl, hl'⟩ : ∃ l', lo = some l' ∧ s.eval l' = _ := by cases lo with | none => simp at hl | some l' => exact ⟨l', rfl, by simpa using hl⟩
      obtain rfl : hi = none := by cases hi with | none => rfl | some _ => simp at hh
      split
      · rename_i hte
        obtain ⟨d', z', hu', hi', _⟩ := hT.ok _ _ hte
        split
        · rename_i hsz; subst hsz
          exact fun h => pv_sliceWO (hu := hu) (hT := hi') (H := none) h.1 hx hl' rfl rfl h.2.1 (by omega) (.inl (Nat.le_refl _)) (.inl (Nat.le_refl _))
        · trivial
      · trivial
    · rename_i e sz bw id off k n m
      have hu := hs _ rfl
      obtain ⟨l', rfl, hl'⟩ : ∃ l', lo = some l' ∧ s.eval l' = _ := by cases lo with | none => simp at hl | some l' => exact ⟨l', rfl, by simpa using hl⟩
      obtain ⟨h', rfl, hh'⟩ : ∃ l', hi = some l' ∧ s.eval l' = _ := by cases hi with | none => simp at hh | some l' => exact ⟨l', rfl, by simpa using hh⟩
      split
      · rename_i hte
        obtain ⟨d', z', hu', hi', _⟩ := hT.ok _ _ hte
        split
        · rename_i hsz; subst hsz
          exact fun h => pv_sliceWO (hu := hu) (hT := hi') (H := some m) h.1 hx hl' (by simp [hh']) (by simp; omega) h.2.1 (by omega) (.inr h.2.2.2.1) (.inr h.2.2.2.2)
        · trivial
      · trivial
    · trivial
  · rename_i t x lo hi mx
    have hs : ∀ e, slE (tab t) = some e → TyU P t (.slice e) := by
      intro e he
      generalize hti : tab t = ti at he
      unfold slE at he
      split at he
      · obtain ⟨d, z, hu, _, _, _, hk⟩ := hT.ok _ _ hti
        cases hk; injection he with he; subst he; exact hu
      · cases he
    generalize hx : s.eval x = v
    generalize hl : lo.map s.eval = l
    generalize hh : hi.map s.eval = m
    generalize hmx : some (s.eval mx) = q
    generalize hse : slE (tab t) = se at *
    unfold pvSlice3; split
    · have hu := hs _ rfl
      obtain ⟨l', rfl, hl'⟩ : ∃ l', lo = some l' ∧ s.eval l' = _ := by cases lo with | none => simp at hl | some l' => exact ⟨l', rfl, by simpa using hl⟩
      obtain ⟨h', rfl, hh'⟩ : ∃ l', hi = some l' ∧ s.eval l' = _ := by cases hi with | none => simp at hh | some l' => exact ⟨l', rfl, by simpa using hh⟩
      injection hmx with hmx
      split
      · rename_i hte
        obtain ⟨d', z', hu', hi', _⟩ := hT.ok _ _ hte
        split
        · rename_i hsz; subst hsz
          exact fun h => pv_slice3O (hu := hu) (hT := hi') hx hl' hh' hmx h.1 h.2.1 h.2.2.1 h.2.2.2
        · trivial
      · trivial
    · trivial
  · rename_i t u x
    generalize hx : s.eval x = v
    generalize hti : tab t = ti
    generalize huj : tab u = uj
    unfold pvConv; split
    · obtain ⟨d, z, hu, _⟩ := hT.ok _ _ hti
      obtain ⟨d', z', hu', _, _, _, hk⟩ := hT.ok _ _ huj
      cases hk
      exact fun h => pv_conv hu hu' hx h
    · trivial
  · rename_i x t
    generalize hx : s.eval x = v
    generalize hti : tab t = ti
    unfold pvLen; split
    · obtain ⟨d, z, hu, _, _, _, hk⟩ := hT.ok _ _ hti
      cases hk; exact pv_len (hu := hu) hx
    · obtain ⟨d, z, hu, _, _, _, hk⟩ := hT.ok _ _ hti
      cases hk; exact pv_lenS (hu := hu) hx
    · obtain ⟨d, z, hu, _, _, _, hk⟩ := hT.ok _ _ hti
      cases hk; exact pv_lenN (hu := hu) hx
    · trivial
  · rename_i x y tys
    generalize hx : s.eval x = v
    generalize hy : s.eval y = w
    unfold int2; split
    · exact pv_min hx hy
    · trivial
  · rename_i x y tys
    generalize hx : s.eval x = v
    generalize hy : s.eval y = w
    unfold int2; split
    · exact pv_max hx hy
    · trivial
  · trivial
end Go.Ab

namespace Go.Ab
open Go.RowKit
variable {P : Program}

inductive SR where
  | ok (s : St)
  | ex (c : Prop) (f : c → St)
  | no
def SRok (P : Program) (op : Op) (d : Option Tmp) (s : St) : SR → Prop
  | .ok s' => ∀ (ty : TypeId) (pos : String) (aft : Array Edge) (g : Option (Nat × Bool)) (K : St → Prop), K s' → AOp P ⟨d, op, ty, pos, aft, g⟩ s K
  | .ex c f => ∀ h : c, ∀ (ty : TypeId) (pos : String) (aft : Array Edge) (g : Option (Nat × Bool)) (K : St → Prop), K (f h) → AOp P ⟨d, op, ty, pos, aft, g⟩ s K
  | .no => True
def prS (d : Option Tmp) (s : St) : PR → SR
  | .ok x => .ok (s.put d x)
  | .ex c f => .ex c fun h => s.put d (f h)
  | .no => .no
def okc : AV → Bool
  | .agg _ => true
  | x => x.one
theorem okc_spec {x : AV} (h : okc x = true) : x.one = true ∨ ∃ cs, x = .agg cs := by
  cases x <;> first | exact .inr ⟨_, rfl⟩ | exact .inl h
def stB (i : TI) (s : St) (id off : Nat) (x : AV) : Option Blk → SR
  | some ⟨T, cs, fl⟩ => .ex ((okc x && allOne x.cells) = true ∧ x.cells.length = i.n ∧ off + i.n ≤ cs.length) fun _ => ⟨s.fr, hset s.hp id ⟨T, setAll cs off x.cells, fl⟩⟩
  | none => .no
def sStore (s : St) (x : AV) : Option Tmp → Option TI → AV → SR
  | none, some i, .ptr id off => stB i s id off x (hget s.hp id)
  | _, _, _ => .no
def sAlloc (s : St) (e : Nat) : Option Tmp → Option TI → SR
  | some k, some i => .ex (s.free k = true) fun _ => ⟨s.fr.set k (.ptr k 0), hset s.hp k ⟨e, i.z, true⟩⟩
  | _, _ => .no
def sBox (s : St) (e : Nat) (x : AV) : Option Tmp → SR
  | some k => .ex ((s.free k && okc x && !AV.mentL k x.cells) = true) fun _ => ⟨s.fr.set k (.ptr k 0), hset s.hp k ⟨e, x.cells, true⟩⟩
  | none => .no
def bsOk (len m bw : Nat) (ps : List (Nat × AV)) : Bool :=
  decide (0 < len * m) && decide (len * m ≤ 16777216) && decide (len * bw ≤ 140737488355328) && dense 0 ps && ps.length == len && partsOk (fun i => some (i * m, m)) (len * m) ps && AV.purL (ps.map (·.2))
def sBS (s : St) (e len : Nat) (ps : List (Nat × AV)) : Option Tmp → Option TI → SR
  | some k, some i => match len with
    | 0 => match ps with
      | [] => .ex (s.free k = true) fun _ => ⟨s.fr.set k (.sl i.n i.b k 0 0), hset s.hp k ⟨e, [], true⟩⟩
      | _ => .no
    | n+1 => .ex (bsOk (n+1) i.n i.b ps = true) fun _ => s.put (some k) (.isl i.n i.b (ps.map (·.2)))
  | _, _ => .no
def sBSe (tab : Nat → Option TI) (s : St) (len : Nat) (ps : List (Nat × AV)) (d : Option Tmp) : Option Nat → SR
  | some e => sBS s e len ps d (tab e)
  | none => .no
def sop (tab : Nat → Option TI) (op : Op) (d : Option Tmp) (s : St) : SR :=
  match op with
  | .store t p x => sStore s (s.eval x) d (tab t) (s.eval p)
  | .alloc e => sAlloc s e d (tab e)
  | .box e x => sBox s e (s.eval x) d
  | .buildSlice t len ps => sBSe tab s len (evParts s ps) d (slE (tab t))
  | op => prS d s (pvo tab op s)

theorem pr_sr {op : Op} {d : Option Tmp} {s : St} {r : PR} (h : PRok P op s r) : SRok P op d s (prS d s r) := by
  cases r with
  | ok x => exact fun ty pos aft g K hk => aop_pv h hk
  | ex c f => exact fun hc ty pos aft g K hk => aop_pv (h hc) hk
  | no => trivial

theorem sop_ok {tab : Nat → Option TI} [hT : Tb P tab] (op : Op) (d : Option Tmp) (s : St) : SRok P op d s (sop tab op d s) := by
  unfold sop
  split
  · rename_i t p x
    generalize hp : s.eval p = v
    generalize hti : tab t = ti
    generalize hv : s.eval x = y
    revert hti hp
    unfold sStore; split <;> intro hp hti
    · rename_i i id off
      obtain ⟨d, z, hu, hi, _⟩ := hT.ok _ _ hti
      generalize hb : hget s.hp id = ob
      unfold stB; split
      · intro h ty pos aft g K hk
        subst hv
        obtain ⟨h1, h2, h3⟩ := h
        simp only [Bool.and_eq_true] at h1
        exact aop_store (hi := hi) hp hb h1.2 (okc_spec h1.1) h2 h3 hk
      · trivial
    · trivial
  · rename_i e
    generalize hti : tab e = ti
    revert hti
    unfold sAlloc; split <;> intro hti
    · intro h ty pos aft g K hk
      obtain ⟨d, z, hu, hi, _, hz, _⟩ := hT.ok _ _ hti
      simp only [← hz] at hk
      exact aop_alloc (hi := hi) _ h hk
    · trivial
  · rename_i e x
    unfold sBox; split
    · intro h ty pos aft g K hk
      simp only [Bool.and_eq_true, Bool.not_eq_true'] at h
      exact aop_box _ h.1.1 (okc_spec h.1.2) h.2 hk
    · trivial
  · rename_i t len ps
    generalize hse : slE (tab t) = se
    have hs : ∀ e, se = some e → TyU P t (.slice e) := by
      intro e he
      subst hse
      generalize hti : tab t = ti at he
      unfold slE at he
      split at he
      · obtain ⟨d, z, hu, _, _, _, hk⟩ := hT.ok _ _ hti
        cases hk; injection he with he; subst he; exact hu
      · cases he
    unfold sBSe; split
    · rename_i e
      have hu := hs _ rfl
      generalize hte : tab e = te
      revert hte
      unfold sBS; split <;> intro hte
      · obtain ⟨d', z', hu', hi', _⟩ := hT.ok _ _ hte
        split
        · split
          · rename_i hps
            intro h ty pos aft g K hk
            have : ps = #[] := by
              unfold evParts at hps
              simpa using hps
            subst this
            exact aop_buildSlice0 (hu := hu) (hi := hi') _ h hk
          · trivial
        · intro h ty pos aft g K hk
          simp only [bsOk, Bool.and_eq_true, beq_iff_eq] at h
          obtain ⟨⟨⟨⟨⟨⟨h1, h2⟩, h3⟩, h4⟩, h5⟩, h6⟩, h7⟩ := h
          exact aop_buildSlice (hu := hu) (hi := hi') ⟨h1, h2, h3⟩ h4 h5 h6 h7 hk
      · trivial
    · trivial
  · exact pr_sr (pvo_ok _ _)

/-! guards -/
inductive GT where
  | run
  | skip
  | no
def gdt : AV → Bool → GT
  | .v (.bool true), true => .run
  | .v (.bool false), false => .run
  | .v (.bool true), false => .skip
  | .v (.bool false), true => .skip
  | .v (.tuple ⟨[]⟩), _ => .skip
  | _, _ => .no
theorem gdt_run {x : AV} {b : Bool} (h : gdt x b = .run) : x = .bool b := by
  unfold gdt at h; split at h <;> first | rfl | cases h
theorem gdt_skip {x : AV} {b : Bool} (h : gdt x b = .skip) : x = .bool (!b) ∨ x = .v undef := by
  unfold gdt at h; split at h <;> first | exact .inl rfl | exact .inr rfl | cases h
def gval (all : Array Oper) (j : Nat) (s : St) : AV := match (all[j]?).bind (·.dst) with
  | some t => s.fr.getD t .any
  | none => .any
theorem gval_spec {all : Array Oper} {j : Nat} {s : St} {u : Value} (h : gval all j s = .v u) : ∃ t, (all[j]?).bind (·.dst) = some t ∧ s.fr[t]? = some (.v u) := by
  unfold gval at h
  split at h
  · rename_i t ht
    refine ⟨t, ht, ?_⟩
    rw [List.getD_eq_getElem?_getD] at h
    cases hq : s.fr[t]? with
    | none => rw [hq] at h; cases h
    | some x => rw [hq] at h; simp at h; rw [h]
  · cases h

/-! plain regions -/
def AStk (P : Program) (all : Array Oper) (o : Oper) (rest : List Oper) (s : St) (K : St → Prop) : Prop := ∀ K' : St → Prop, (∀ s', AOps P all rest s' K → K' s') → AOp P o s K'
def AGrd (P : Program) (all : Array Oper) (rest : List Oper) (s : St) (K : St → Prop) : Prop := AOps P all rest s K
mutual
def wops (P : Program) (tab : Nat → Option TI) (all : Array Oper) (K : St → Prop) : List Oper → St → Prop
  | [], s => K s
  | ⟨d, op, ty, pos, aft, none⟩ :: r, s => match sop tab op d s with
    | .ok s' => wops P tab all K r s'
    | .ex c f => ∃ h : c, wops P tab all K r (f h)
    | .no => AStk P all ⟨d, op, ty, pos, aft, none⟩ r s K
  | ⟨d, op, ty, pos, aft, some (j, b)⟩ :: r, s => match gdt (gval all j s) b with
    | .run => match sop tab op d s with
      | .ok s' => wops P tab all K r s'
      | .ex c f => ∃ h : c, wops P tab all K r (f h)
      | .no => AStk P all ⟨d, op, ty, pos, aft, none⟩ r s K
    | .skip => wops P tab all K r (s.put d (.v undef))
    | .no => AGrd P all (⟨d, op, ty, pos, aft, some (j, b)⟩ :: r) s K
end
def wst (P : Program) (tab : Nat → Option TI) (all : Array Oper) (K : St → Prop) (o : Oper) (r : List Oper) (s : St) : SR → Prop
  | .ok s' => wops P tab all K r s'
  | .ex c f => ∃ h : c, wops P tab all K r (f h)
  | .no => AStk P all o r s K
def wgd (P : Program) (tab : Nat → Option TI) (all : Array Oper) (K : St → Prop) (o : Oper) (r : List Oper) (s : St) : GT → Prop
  | .run => wst P tab all K { o with guard := none } r s (sop tab o.op o.dst s)
  | .skip => wops P tab all K r (s.put o.dst (.v undef))
  | .no => AGrd P all (o :: r) s K
theorem wops_cons {tab : Nat → Option TI} {all : Array Oper} {K : St → Prop} {d : Option Tmp} {op : Op} {ty : TypeId} {pos : String} {aft : Array Edge} {r : List Oper} {s : St} :
    wops P tab all K (⟨d, op, ty, pos, aft, none⟩ :: r) s = wst P tab all K ⟨d, op, ty, pos, aft, none⟩ r s (sop tab op d s) := by
  rw [wops]; unfold wst; rfl
theorem wops_consG {tab : Nat → Option TI} {all : Array Oper} {K : St → Prop} {d : Option Tmp} {op : Op} {ty : TypeId} {pos : String} {aft : Array Edge} {r : List Oper} {s : St} {j : Nat} {b : Bool} :
    wops P tab all K (⟨d, op, ty, pos, aft, some (j, b)⟩ :: r) s = wgd P tab all K ⟨d, op, ty, pos, aft, some (j, b)⟩ r s (gdt (gval all j s) b) := by
  rw [wops]; unfold wgd wst; rfl
theorem wgd_split {tab : Nat → Option TI} {all : Array Oper} {K : St → Prop} {o : Oper} {r : List Oper} {s : St} {c b : Bool}
    (h1 : c = true → wgd P tab all K o r s (gdt (.bool c) b)) (h2 : c = false → wgd P tab all K o r s (gdt (.bool c) b)) : wgd P tab all K o r s (gdt (.bool c) b) := by
  cases c
  · exact h2 rfl
  · exact h1 rfl

theorem wst_ok {tab : Nat → Option TI} [hT : Tb P tab] {all : Array Oper} {K : St → Prop} {d : Option Tmp} {op : Op} {ty : TypeId} {pos : String} {aft : Array Edge} {r : List Oper} {s : St}
    (ih : ∀ s, wops P tab all K r s → AOps P all r s K) (h : wst P tab all K ⟨d, op, ty, pos, aft, none⟩ r s (sop tab op d s)) : AStk P all ⟨d, op, ty, pos, aft, none⟩ r s K := by
  have hs := sop_ok (P := P) (tab := tab) op d s
  generalize sop tab op d s = q at h hs
  cases q with
  | ok s' => exact fun K' hK' => hs _ _ _ _ _ (hK' _ (ih _ h))
  | ex c f => obtain ⟨hc, h⟩ := h; exact fun K' hK' => hs hc _ _ _ _ _ (hK' _ (ih _ h))
  | no => exact h
theorem wops_ok {tab : Nat → Option TI} [hT : Tb P tab] {all : Array Oper} {K : St → Prop} : ∀ (r : List Oper) (s : St), wops P tab all K r s → AOps P all r s K
  | [], s, h => aops_nil (by rw [wops] at h; exact h)
  | ⟨d, op, ty, pos, aft, none⟩ :: r, s, h => by
    rw [wops_cons] at h
    exact aops_cons rfl (wst_ok (wops_ok r) h)
  | ⟨d, op, ty, pos, aft, some (j, b)⟩ :: r, s, h => by
    rw [wops_consG] at h
    generalize hg : gdt (gval all j s) b = g at h
    cases g with
    | run =>
      obtain ⟨t, h1, h2⟩ := gval_spec (gdt_run hg)
      have h := wst_ok (wops_ok r) h
      exact aops_guard rfl h1 h2 (fun _ K' hK' => AOp.noguard (h K' hK')) (fun h => absurd rfl h)
    | skip =>
      rcases gdt_skip hg with hx | hx
      · obtain ⟨t, h1, h2⟩ := gval_spec hx
        exact aops_guard rfl h1 h2 (fun h => by cases b <;> cases h) (fun _ => wops_ok r _ h)
      · obtain ⟨t, h1, h2⟩ := gval_spec hx
        exact aops_guardU' rfl h1 h2 (wops_ok r _ h)
    | no => exact h
theorem wgo {tab : Nat → Option TI} [hT : Tb P tab] {all : Array Oper} {K : St → Prop} {r : List Oper} {s : St} (h : wops P tab all K r s) : AOps P all r s K := wops_ok r s h
theorem ex_i {c : Prop} {p : c → Prop} (h : c) (k : ∀ h, p h) : ∃ h, p h := ⟨h, k h⟩
theorem stk_call {tab : Nat → Option TI} [hT : Tb P tab] {all : Array Oper} {K : St → Prop} {r : List Oper} {s : St} {d : Option Tmp} {f : FuncId} {args : Array Operand} {tys : Array TypeId} {ty : TypeId} {pos : String} {aft : Array Edge} {x : AV} [hc : TyC P f]
    (h : PCall P f (evalL s args) (fun y => y = x)) (hp : AV.purL (evalL s args) = true) (hk : wops P tab all K r (s.put d x)) : AStk P all ⟨d, .call { callee := .value (.func f), args, argTypes := tys }, ty, pos, aft, none⟩ r s K :=
  fun K' hK' => aop_call h hp fun y hy => by subst hy; exact hK' _ (wgo hk)
theorem stk_callQ {tab : Nat → Option TI} [hT : Tb P tab] {all : Array Oper} {K : St → Prop} {r : List Oper} {s : St} {d : Option Tmp} {f : FuncId} {args : Array Operand} {tys : Array TypeId} {ty : TypeId} {pos : String} {aft : Array Edge} {Q : AV → Prop} [hc : TyC P f]
    (h : PCall P f (evalL s args) Q) (hp : AV.purL (evalL s args) = true) (hk : ∀ x, Q x → wops P tab all K r (s.put d x)) : AStk P all ⟨d, .call { callee := .value (.func f), args, argTypes := tys }, ty, pos, aft, none⟩ r s K :=
  fun K' hK' => aop_call h hp fun y hy => hK' _ (wgo (hk y hy))
theorem stk_callO {tab : Nat → Option TI} [hT : Tb P tab] {all : Array Oper} {K : St → Prop} {r : List Oper} {s : St} {d : Option Tmp} {f : FuncId} {args : Array Operand} {tys : Array TypeId} {ty : TypeId} {pos : String} {aft : Array Edge} {ids : List Nat} {Q : AV → Hp → Prop} [hc : TyC P f]
    (h : OCall P f (evalL s args) ids Q) (hp : AV.purL (evalL s args) = true) (hfree : ∀ id ∈ ids, s.free id = true) (hk : ∀ x hp, Q x hp → wops P tab all K r ⟨(s.put d x).fr, hp ++ s.hp⟩) :
    AStk P all ⟨d, .call { callee := .value (.func f), args, argTypes := tys }, ty, pos, aft, none⟩ r s K :=
  fun K' hK' => aop_callO h hp hfree fun y hp hy => hK' _ (wgo (hk y hp hy))
theorem stk_op {tab : Nat → Option TI} [hT : Tb P tab] {all : Array Oper} {K : St → Prop} {r : List Oper} {s : St} {o : Oper} (h : ∀ K' : St → Prop, (∀ s', wops P tab all K r s' → K' s') → AOp P o s K') : AStk P all o r s K :=
  fun K' hK' => h K' fun s' hs => hK' s' (wgo hs)
theorem aw_reg {tab : Nat → Option TI} [hT : Tb P tab] {id : Nat} {l : List Oper} {s : St} {Q : Exit → St → Prop} (h : wops P tab l.toArray (Q .normal) l s) (hd : noDef l = true := by rfl) : AW P (.region id l.toArray false) s Q := aw_region (wgo h) hd

/-! regions that draw their order, by a schedule -/
def hOk (ops : Array Oper) (hs : List Nat) (l : Array Bool) (i : Nat) : Bool := Region.noSelect ops && (Region.ready .any ops l).contains i && Region.free .any ops l i && hs.contains i
inductive Sc where
  | nil
  | it (i m : Nat) (r : Sc)
  | fk (i j : Nat) (a b : Sc)
  | fk3 (i j k : Nat) (a b c : Sc)
  | fkm (i m j n : Nat) (a b : Sc)
  | fkt (i m j n k p : Nat) (a b c : Sc)
/-- Hands a list on in constructor form (so that a check by the kernel does not evaluate it anew at each access). -/
def force : List Bool → (List Bool → Bool) → Bool
  | [], k => k []
  | true :: r, k => force r (fun q => k (true :: q))
  | false :: r, k => force r (fun q => k (false :: q))
theorem force_eq : ∀ (l : List Bool) (k : List Bool → Bool), force l k = k l
  | [], k => rfl
  | true :: r, k => force_eq r _
  | false :: r, k => force_eq r _
def nxt (l : Array Bool) (i : Nat) (k : Array Bool → Bool) : Bool := force (l.setIfInBounds i true).toList fun q => k q.toArray
theorem nxt_eq (l : Array Bool) (i : Nat) (k : Array Bool → Bool) : nxt l i k = k (l.setIfInBounds i true) := by rw [nxt, force_eq]
/-- Kinds: 0 a head; 1 the only one that may come up; 2 either, by its guard; 3 as 1, where no head is early. -/
def schedOk (ops : Array Oper) (hs : List Nat) : Sc → Array Bool → Nat → Bool
  | .nil, l, _ => Region.ready .any ops l == []
  | .fk i j a b, l, f+1 => Region.ready .any ops l == [i, j] && nxt l i (fun l => schedOk ops hs a l f) && nxt l j (fun l => schedOk ops hs b l f)
  | .fk3 i j k a b c, l, f+1 => Region.ready .any ops l == [i, j, k] && nxt l i (fun l => schedOk ops hs a l f) && nxt l j (fun l => schedOk ops hs b l f) && nxt l k (fun l => schedOk ops hs c l f)
  | .fkm i m j n a b, l, f+1 => Region.ready .any ops l == [i, j] && (m == 1 || !early ops hs i) && (n == 1 || !early ops hs j) && nxt l i (fun l => schedOk ops hs a l f) && nxt l j (fun l => schedOk ops hs b l f)
  | .fkt i m j n k p a b c, l, f+1 => Region.ready .any ops l == [i, j, k] && (m == 1 || !early ops hs i) && (n == 1 || !early ops hs j) && (p == 1 || !early ops hs k) && nxt l i (fun l => schedOk ops hs a l f) && nxt l j (fun l => schedOk ops hs b l f) && nxt l k (fun l => schedOk ops hs c l f)
  | .it i m r, l, f+1 => (match m with
    | 0 => hOk ops hs l i
    | 1 => Region.ready .any ops l == [i]
    | 2 => hOk ops hs l i && Region.ready .any ops l == [i]
    | _ => Region.ready .any ops l == [i] && !early ops hs i) && nxt l i (fun l => schedOk ops hs r l f)
  | .fk _ _ _ _, _, 0 => false
  | .fk3 _ _ _ _ _ _, _, 0 => false
  | .fkm _ _ _ _ _ _, _, 0 => false
  | .fkt _ _ _ _ _ _ _ _ _, _, 0 => false
  | .it _ _ _, _, 0 => false
def ADr (P : Program) (ops : Array Oper) (hs : List Nat) (sc : Sc) (s : St) (K : St → Prop) : Prop := ∀ l f, schedOk ops hs sc l f = true → AAny P ops hs f l s K
/-- Stuck at an operation that must keep all old blocks. -/
def ADx (P : Program) (ops : Array Oper) (hs : List Nat) (o : Oper) (sc : Sc) (s : St) (K : St → Prop) : Prop := ∀ K' : St → Prop, (∀ s', ADr P ops hs sc s' K → K' s') → AOpX P o s K'
def ADo (P : Program) (ops : Array Oper) (hs : List Nat) (o : Oper) (sc : Sc) (s : St) (K : St → Prop) : Prop := ∀ K' : St → Prop, (∀ s', ADr P ops hs sc s' K → K' s') → AOp P o s K'
def AArm (P : Program) (ops : Array Oper) (hs : List Nat) (m : Nat) (o : Oper) (sc : Sc) (s : St) (K : St → Prop) : Prop := match m with
  | 1 => ADx P ops hs o sc s K
  | _ => ADo P ops hs o sc s K
def AWall : Prop := False
mutual
def wdr (P : Program) (tab : Nat → Option TI) (ops : Array Oper) (hs : List Nat) (K : St → Prop) : Sc → St → Prop
  | .nil, s => K s
  | .fk i j a b, s => match ops[i]?, ops[j]? with
    | some ⟨d, op, ty, pos, aft, none⟩, some ⟨d', op', ty', pos', aft', none⟩ => ADx P ops hs ⟨d, op, ty, pos, aft, none⟩ a s K ∧ ADx P ops hs ⟨d', op', ty', pos', aft', none⟩ b s K
    | _, _ => AWall
  | .fk3 i j k a b c, s => match ops[i]?, ops[j]?, ops[k]? with
    | some ⟨d, op, ty, pos, aft, none⟩, some ⟨d', op', ty', pos', aft', none⟩, some ⟨d2, op2, ty2, pos2, aft2, none⟩ => ADx P ops hs ⟨d, op, ty, pos, aft, none⟩ a s K ∧ ADx P ops hs ⟨d', op', ty', pos', aft', none⟩ b s K ∧ ADx P ops hs ⟨d2, op2, ty2, pos2, aft2, none⟩ c s K
    | _, _, _ => AWall
  | .fkm i m j n a b, s => match ops[i]?, ops[j]? with
    | some ⟨d, op, ty, pos, aft, none⟩, some ⟨d', op', ty', pos', aft', none⟩ => AArm P ops hs m ⟨d, op, ty, pos, aft, none⟩ a s K ∧ AArm P ops hs n ⟨d', op', ty', pos', aft', none⟩ b s K
    | _, _ => AWall
  | .fkt i m j n k p a b c, s => match ops[i]?, ops[j]?, ops[k]? with
    | some ⟨d, op, ty, pos, aft, none⟩, some ⟨d', op', ty', pos', aft', none⟩, some ⟨d2, op2, ty2, pos2, aft2, none⟩ => AArm P ops hs m ⟨d, op, ty, pos, aft, none⟩ a s K ∧ AArm P ops hs n ⟨d', op', ty', pos', aft', none⟩ b s K ∧ AArm P ops hs p ⟨d2, op2, ty2, pos2, aft2, none⟩ c s K
    | _, _, _ => AWall
  | .it i m r, s => match ops[i]? with
    | none => AWall
    | some ⟨d, op, ty, pos, aft, none⟩ => match m with
      | 0 => match pvo tab op s with
        | .ok x => wdr P tab ops hs K r (s.put d x)
        | .ex c f => ∃ h : c, wdr P tab ops hs K r (s.put d (f h))
        | .no => AWall
      | 1 => ADx P ops hs ⟨d, op, ty, pos, aft, none⟩ r s K
      | 2 => AWall
      | _ => ADo P ops hs ⟨d, op, ty, pos, aft, none⟩ r s K
    | some ⟨d, op, ty, pos, aft, some (j, b)⟩ => match gdt (gval ops j s) b with
      | .no => AWall
      | .skip => match m with
        | 0 => wdr P tab ops hs K r (s.put d (.v undef))
        | 2 => wdr P tab ops hs K r (s.put d (.v undef))
        | _ => AWall
      | .run => match m with
        | 0 => match pvo tab op s with
          | .ok x => wdr P tab ops hs K r (s.put d x)
          | .ex c f => ∃ h : c, wdr P tab ops hs K r (s.put d (f h))
          | .no => AWall
        | 2 => ADx P ops hs ⟨d, op, ty, pos, aft, none⟩ r s K
        | _ => AWall
end
def wdp (P : Program) (tab : Nat → Option TI) (ops : Array Oper) (hs : List Nat) (K : St → Prop) (d : Option Tmp) (r : Sc) (s : St) : PR → Prop
  | .ok x => wdr P tab ops hs K r (s.put d x)
  | .ex c f => ∃ h : c, wdr P tab ops hs K r (s.put d (f h))
  | .no => AWall
def wdt (P : Program) (tab : Nat → Option TI) (ops : Array Oper) (hs : List Nat) (K : St → Prop) (m : Nat) (o : Oper) (r : Sc) (s : St) : GT → Prop
  | .no => AWall
  | .skip => match m with
    | 0 => wdr P tab ops hs K r (s.put o.dst (.v undef))
    | 2 => wdr P tab ops hs K r (s.put o.dst (.v undef))
    | _ => AWall
  | .run => match m with
    | 0 => wdp P tab ops hs K o.dst r s (pvo tab o.op s)
    | 2 => ADx P ops hs { o with guard := none } r s K
    | _ => AWall
def wdi (P : Program) (tab : Nat → Option TI) (ops : Array Oper) (hs : List Nat) (K : St → Prop) (m : Nat) (r : Sc) (s : St) : Option Oper → Prop
  | none => AWall
  | some ⟨d, op, ty, pos, aft, none⟩ => match m with
    | 0 => wdp P tab ops hs K d r s (pvo tab op s)
    | 1 => ADx P ops hs ⟨d, op, ty, pos, aft, none⟩ r s K
    | 2 => AWall
    | _ => ADo P ops hs ⟨d, op, ty, pos, aft, none⟩ r s K
  | some ⟨d, op, ty, pos, aft, some (j, b)⟩ => wdt P tab ops hs K m ⟨d, op, ty, pos, aft, some (j, b)⟩ r s (gdt (gval ops j s) b)
theorem wdr_cons {tab : Nat → Option TI} {ops : Array Oper} {hs : List Nat} {K : St → Prop} {i m : Nat} {r : Sc} {s : St} : wdr P tab ops hs K (.it i m r) s = wdi P tab ops hs K m r s ops[i]? := by
  rw [wdr]; unfold wdi wdt wdp; rfl
theorem wdt_split {tab : Nat → Option TI} {ops : Array Oper} {hs : List Nat} {K : St → Prop} {m : Nat} {o : Oper} {r : Sc} {s : St} {c b : Bool}
    (h1 : c = true → wdt P tab ops hs K m o r s (gdt (.bool c) b)) (h2 : c = false → wdt P tab ops hs K m o r s (gdt (.bool c) b)) : wdt P tab ops hs K m o r s (gdt (.bool c) b) := by
  cases c
  · exact h2 rfl
  · exact h1 rfl
theorem aany_twoX {ops : Array Oper} {hs : List Nat} {f : Nat} {listed : Array Bool} {s : St} {K : St → Prop} {d d' : Option Tmp} {op op' : Op} {ty ty' : TypeId} {pos pos' : String} {aft aft' : Array Edge} (i i' : Nat) (hi : ops[i]? = some ⟨d, op, ty, pos, aft, none⟩) (hi' : ops[i']? = some ⟨d', op', ty', pos', aft', none⟩) (hr : Region.ready .any ops listed = [i, i'])
    (h : ∀ K' : St → Prop, (∀ s', AAny P ops hs f (listed.setIfInBounds i true) s' K → K' s') → AOpX P ⟨d, op, ty, pos, aft, none⟩ s K')
    (h' : ∀ K' : St → Prop, (∀ s', AAny P ops hs f (listed.setIfInBounds i' true) s' K → K' s') → AOpX P ⟨d', op', ty', pos', aft', none⟩ s K') : AAny P ops hs (f + 1) listed s K := by
  intro R β G a w hrep hcl
  refine ⟨fun h => (by rw [hr] at h; cases h), fun j hj => ?_⟩
  have hmem := hj
  rw [hr] at hj
  simp only [List.mem_cons, List.not_mem_nil, or_false] at hj
  unfold wpOp
  rcases hj with rfl | rfl
  · simp only [hi]
    rw [if_pos (by simp [Region.wanted])]
    exact .inl (Oper.wp_mono (fun a' w' ⟨hx, β', G', s', hs', hr'⟩ => ⟨fun _ => hx, hs' R β' G' a' w' hr' (hcl.set hmem)⟩) (h _ (fun _ h => h) R β G a w _ hrep))
  · simp only [hi']
    rw [if_pos (by simp [Region.wanted])]
    exact .inl (Oper.wp_mono (fun a' w' ⟨hx, β', G', s', hs', hr'⟩ => ⟨fun _ => hx, hs' R β' G' a' w' hr' (hcl.set hmem)⟩) (h' _ (fun _ h => h) R β G a w _ hrep))
/-- One of the operations that may come up. -/
def ArmR (P : Program) (ops : Array Oper) (hs : List Nat) (f : Nat) (listed : Array Bool) (i : Nat) (s : St) (K : St → Prop) : Prop :=
  ∀ R β G a w, Rep R β G s a w → Closed ops listed → i ∈ Region.ready .any ops listed → wpOp P ops (QN R K) i (fun a' w' => (early ops hs i = true → Ext w w') ∧ anyE P ops (QN R K) hs f (listed.setIfInBounds i true) a' w') a w
theorem armR_x {ops : Array Oper} {hs : List Nat} {f : Nat} {listed : Array Bool} {s : St} {K : St → Prop} {d : Option Tmp} {op : Op} {ty : TypeId} {pos : String} {aft : Array Edge} {i : Nat} (hi : ops[i]? = some ⟨d, op, ty, pos, aft, none⟩)
    (h : ∀ K' : St → Prop, (∀ s', AAny P ops hs f (listed.setIfInBounds i true) s' K → K' s') → AOpX P ⟨d, op, ty, pos, aft, none⟩ s K') : ArmR P ops hs f listed i s K := by
  intro R β G a w hrep hcl hmem
  unfold wpOp
  simp only [hi]
  rw [if_pos (by simp [Region.wanted])]
  exact .inl (Oper.wp_mono (fun a' w' ⟨hx, β', G', s', hs', hr'⟩ => ⟨fun _ => hx, hs' R β' G' a' w' hr' (hcl.set hmem)⟩) (h _ (fun _ h => h) R β G a w _ hrep))
theorem armR_o {ops : Array Oper} {hs : List Nat} {f : Nat} {listed : Array Bool} {s : St} {K : St → Prop} {d : Option Tmp} {op : Op} {ty : TypeId} {pos : String} {aft : Array Edge} {i : Nat} (hi : ops[i]? = some ⟨d, op, ty, pos, aft, none⟩) (he : early ops hs i = false)
    (h : ∀ K' : St → Prop, (∀ s', AAny P ops hs f (listed.setIfInBounds i true) s' K → K' s') → AOp P ⟨d, op, ty, pos, aft, none⟩ s K') : ArmR P ops hs f listed i s K := by
  intro R β G a w hrep hcl hmem
  unfold wpOp
  simp only [hi]
  rw [if_pos (by simp [Region.wanted])]
  exact .inl (Oper.wp_mono (fun a' w' ⟨β', G', s', hs', hr'⟩ => ⟨fun h => (by rw [he] at h; cases h), hs' R β' G' a' w' hr' (hcl.set hmem)⟩) (h _ (fun _ h => h) R β G a w _ hrep))
theorem aany_arms2 {ops : Array Oper} {hs : List Nat} {f : Nat} {listed : Array Bool} {s : St} {K : St → Prop} {i j : Nat} (hr : Region.ready .any ops listed = [i, j]) (h : ArmR P ops hs f listed i s K) (h' : ArmR P ops hs f listed j s K) : AAny P ops hs (f + 1) listed s K := by
  intro R β G a w hrep hcl
  refine ⟨fun h => (by rw [hr] at h; cases h), fun k hk => ?_⟩
  have hmem := hk
  rw [hr] at hk
  simp only [List.mem_cons, List.not_mem_nil, or_false] at hk
  rcases hk with rfl | rfl
  · exact h R β G a w hrep hcl hmem
  · exact h' R β G a w hrep hcl hmem
theorem aany_arms3 {ops : Array Oper} {hs : List Nat} {f : Nat} {listed : Array Bool} {s : St} {K : St → Prop} {i j q : Nat} (hr : Region.ready .any ops listed = [i, j, q]) (h : ArmR P ops hs f listed i s K) (h' : ArmR P ops hs f listed j s K) (h2 : ArmR P ops hs f listed q s K) : AAny P ops hs (f + 1) listed s K := by
  intro R β G a w hrep hcl
  refine ⟨fun h => (by rw [hr] at h; cases h), fun k hk => ?_⟩
  have hmem := hk
  rw [hr] at hk
  simp only [List.mem_cons, List.not_mem_nil, or_false] at hk
  rcases hk with rfl | rfl | rfl
  · exact h R β G a w hrep hcl hmem
  · exact h' R β G a w hrep hcl hmem
  · exact h2 R β G a w hrep hcl hmem
theorem arm_ok {ops : Array Oper} {hs : List Nat} {f : Nat} {listed : Array Bool} {s : St} {K : St → Prop} {d : Option Tmp} {op : Op} {ty : TypeId} {pos : String} {aft : Array Edge} {i m : Nat} {sc : Sc} (hi : ops[i]? = some ⟨d, op, ty, pos, aft, none⟩) (hm : (m == 1 || !early ops hs i) = true)
    (hsc : schedOk ops hs sc (listed.setIfInBounds i true) f = true) (h : AArm P ops hs m ⟨d, op, ty, pos, aft, none⟩ sc s K) : ArmR P ops hs f listed i s K := by
  unfold AArm at h
  split at h
  · exact armR_x hi fun K' hK' => h K' fun s' hs' => hK' _ (hs' _ _ hsc)
  · rename_i hne
    have he : early ops hs i = false := by
      rw [Bool.or_eq_true] at hm
      rcases hm with h1 | h1
      · exact absurd (by simpa using h1) hne
      · simpa using h1
    exact armR_o hi he fun K' hK' => h K' fun s' hs' => hK' _ (hs' _ _ hsc)
theorem aany_threeX {ops : Array Oper} {hs : List Nat} {f : Nat} {listed : Array Bool} {s : St} {K : St → Prop} {d d' d2 : Option Tmp} {op op' op2 : Op} {ty ty' ty2 : TypeId} {pos pos' pos2 : String} {aft aft' aft2 : Array Edge} (i i' i2 : Nat) (hi : ops[i]? = some ⟨d, op, ty, pos, aft, none⟩) (hi' : ops[i']? = some ⟨d', op', ty', pos', aft', none⟩) (hi2 : ops[i2]? = some ⟨d2, op2, ty2, pos2, aft2, none⟩) (hr : Region.ready .any ops listed = [i, i', i2])
    (h : ∀ K' : St → Prop, (∀ s', AAny P ops hs f (listed.setIfInBounds i true) s' K → K' s') → AOpX P ⟨d, op, ty, pos, aft, none⟩ s K')
    (h' : ∀ K' : St → Prop, (∀ s', AAny P ops hs f (listed.setIfInBounds i' true) s' K → K' s') → AOpX P ⟨d', op', ty', pos', aft', none⟩ s K')
    (h2 : ∀ K' : St → Prop, (∀ s', AAny P ops hs f (listed.setIfInBounds i2 true) s' K → K' s') → AOpX P ⟨d2, op2, ty2, pos2, aft2, none⟩ s K') : AAny P ops hs (f + 1) listed s K := by
  intro R β G a w hrep hcl
  refine ⟨fun h => (by rw [hr] at h; cases h), fun j hj => ?_⟩
  have hmem := hj
  rw [hr] at hj
  simp only [List.mem_cons, List.not_mem_nil, or_false] at hj
  unfold wpOp
  rcases hj with rfl | rfl | rfl
  · simp only [hi]
    rw [if_pos (by simp [Region.wanted])]
    exact .inl (Oper.wp_mono (fun a' w' ⟨hx, β', G', s', hs', hr'⟩ => ⟨fun _ => hx, hs' R β' G' a' w' hr' (hcl.set hmem)⟩) (h _ (fun _ h => h) R β G a w _ hrep))
  · simp only [hi']
    rw [if_pos (by simp [Region.wanted])]
    exact .inl (Oper.wp_mono (fun a' w' ⟨hx, β', G', s', hs', hr'⟩ => ⟨fun _ => hx, hs' R β' G' a' w' hr' (hcl.set hmem)⟩) (h' _ (fun _ h => h) R β G a w _ hrep))
  · simp only [hi2]
    rw [if_pos (by simp [Region.wanted])]
    exact .inl (Oper.wp_mono (fun a' w' ⟨hx, β', G', s', hs', hr'⟩ => ⟨fun _ => hx, hs' R β' G' a' w' hr' (hcl.set hmem)⟩) (h2 _ (fun _ h => h) R β G a w _ hrep))
theorem aopx_pv {d : Option Tmp} {op : Op} {ty : TypeId} {pos : String} {aft : Array Edge} {g : Option (Nat × Bool)} {s : St} {x : AV} {K : St → Prop}
    (h : PV P op s x) (hk : K (s.put d x)) : AOpX P ⟨d, op, ty, pos, aft, g⟩ s K := by
  intro R β G a w Q hr
  obtain ⟨y, hy, hrun⟩ := h R β G a w hr
  unfold Oper.wp
  rw [hrun w d ty pos aft g (Below.refl _ _), Oper.upon_value]
  exact ⟨Below.refl _ _, β, G, _, hk, hr.put d hy⟩
theorem wdp_ok {tab : Nat → Option TI} [hT : Tb P tab] {ops : Array Oper} {hs : List Nat} {K : St → Prop} {d : Option Tmp} {op : Op} {r : Sc} {s : St} (h : wdp P tab ops hs K d r s (pvo tab op s)) :
    ∃ x, PV P op s x ∧ wdr P tab ops hs K r (s.put d x) := by
  have hs := pvo_ok (P := P) (tab := tab) op s
  generalize pvo tab op s = q at h hs
  cases q with
  | ok x => exact ⟨x, hs, h⟩
  | ex c f => obtain ⟨hc, h⟩ := h; exact ⟨_, hs hc, h⟩
  | no => exact h.elim
theorem wdr_ok {tab : Nat → Option TI} [hT : Tb P tab] {ops : Array Oper} {hs : List Nat} {K : St → Prop} : ∀ (sc : Sc) (s : St), wdr P tab ops hs K sc s → ADr P ops hs sc s K
  | .nil, s, h, l, f, hok => by
    rw [wdr] at h
    exact aany_end (by simpa [schedOk] using hok) h
  | .fk i j a b, s, h, l, 0, hok => by simp [schedOk] at hok
  | .fk i j a b, s, h, l, f+1, hok => by
    rw [wdr] at h
    simp only [schedOk, nxt_eq, Bool.and_eq_true, beq_iff_eq] at hok
    obtain ⟨⟨hr, ha⟩, hb⟩ := hok
    generalize hi : ops[i]? = oi at h
    generalize hj : ops[j]? = oj at h
    split at h
    · exact aany_twoX i j hi hj hr (fun K' hK' => h.1 K' fun s' hs' => hK' _ (hs' _ _ ha)) (fun K' hK' => h.2 K' fun s' hs' => hK' _ (hs' _ _ hb))
    · exact h.elim
  | .fkm i m j n a b, s, h, l, 0, hok => by simp [schedOk] at hok
  | .fkm i m j n a b, s, h, l, f+1, hok => by
    rw [wdr] at h
    simp only [schedOk, nxt_eq, Bool.and_eq_true, beq_iff_eq] at hok
    obtain ⟨⟨⟨⟨hr, hm⟩, hn⟩, ha⟩, hb⟩ := hok
    generalize hi : ops[i]? = oi at h
    generalize hj : ops[j]? = oj at h
    split at h
    · exact aany_arms2 hr (arm_ok hi hm ha h.1) (arm_ok hj hn hb h.2)
    · exact h.elim
  | .fkt i m j n k p a b c, s, h, l, 0, hok => by simp [schedOk] at hok
  | .fkt i m j n k p a b c, s, h, l, f+1, hok => by
    rw [wdr] at h
    simp only [schedOk, nxt_eq, Bool.and_eq_true, beq_iff_eq] at hok
    obtain ⟨⟨⟨⟨⟨⟨hr, hm⟩, hn⟩, hp⟩, ha⟩, hb⟩, hc⟩ := hok
    generalize hi : ops[i]? = oi at h
    generalize hj : ops[j]? = oj at h
    generalize hk : ops[k]? = ok at h
    split at h
    · exact aany_arms3 hr (arm_ok hi hm ha h.1) (arm_ok hj hn hb h.2.1) (arm_ok hk hp hc h.2.2)
    · exact h.elim
  | .fk3 i j k a b c, s, h, l, 0, hok => by simp [schedOk] at hok
  | .fk3 i j k a b c, s, h, l, f+1, hok => by
    rw [wdr] at h
    simp only [schedOk, nxt_eq, Bool.and_eq_true, beq_iff_eq] at hok
    obtain ⟨⟨⟨hr, ha⟩, hb⟩, hc⟩ := hok
    generalize hi : ops[i]? = oi at h
    generalize hj : ops[j]? = oj at h
    generalize hk : ops[k]? = ok at h
    split at h
    · exact aany_threeX i j k hi hj hk hr (fun K' hK' => h.1 K' fun s' hs' => hK' _ (hs' _ _ ha)) (fun K' hK' => h.2.1 K' fun s' hs' => hK' _ (hs' _ _ hb)) (fun K' hK' => h.2.2 K' fun s' hs' => hK' _ (hs' _ _ hc))
    · exact h.elim
  | .it i m r, s, h, l, 0, hok => by simp [schedOk] at hok
  | .it i m r, s, h, l, f+1, hok => by
    rw [wdr_cons] at h
    simp only [schedOk, nxt_eq, Bool.and_eq_true] at hok
    obtain ⟨hm, hr⟩ := hok
    have ih := fun s h => wdr_ok (tab := tab) (ops := ops) (hs := hs) (K := K) r s h
    generalize hi : ops[i]? = oi at h
    match oi, h with
    | none, h => exact h.elim
    | some ⟨d, op, ty, pos, aft, none⟩, h =>
      match m, hm, h with
      | 0, hm, h =>
        obtain ⟨x, hx, h⟩ := wdp_ok h
        exact aany_pv i hi hm hx (fun K' hK' => hK' _ (ih _ h _ _ hr))
      | 1, hm, h => exact aany_tailX i hi (by simpa using hm) (fun K' hK' => h K' fun s' hs' => hK' _ (hs' _ _ hr))
      | 2, hm, h => exact h.elim
      | m+3, hm, h =>
        simp only [Bool.and_eq_true, beq_iff_eq, Bool.not_eq_true'] at hm
        exact aany_tail i hi hm.1 hm.2 (fun K' hK' => h K' fun s' hs' => hK' _ (hs' _ _ hr))
    | some ⟨d, op, ty, pos, aft, some (j, b)⟩, h =>
      simp only [wdi] at h
      generalize hg : gdt (gval ops j s) b = g at h
      match g, h with
      | .no, h => exact h.elim
      | .skip, h =>
        have hm2 : hOk ops hs l i = true ∧ wdr P tab ops hs K r (s.put d (.v undef)) := by
          match m, hm, h with
          | 0, hm, h => exact ⟨hm, h⟩
          | 1, hm, h => exact h.elim
          | 2, hm, h => simp only [Bool.and_eq_true] at hm; exact ⟨hm.1, h⟩
          | m+3, hm, h => exact h.elim
        rcases gdt_skip hg with hx | hx
        · obtain ⟨t, h1, h2⟩ := gval_spec hx
          exact aany_no i hi hm2.1 h1 h2 (by cases b <;> rfl) (fun K' hK' => hK' _ (ih _ hm2.2 _ _ hr))
        · obtain ⟨t, h1, h2⟩ := gval_spec hx
          exact aany_no i hi hm2.1 h1 h2 rfl (fun K' hK' => hK' _ (ih _ hm2.2 _ _ hr))
      | .run, h =>
        obtain ⟨t, h1, h2⟩ := gval_spec (gdt_run hg)
        match m, hm, h with
        | 0, hm, h =>
          obtain ⟨x, hx, h⟩ := wdp_ok h
          exact aany_pvY i hi hm h1 h2 hx (fun K' hK' => hK' _ (ih _ h _ _ hr))
        | 1, hm, h => exact h.elim
        | 2, hm, h =>
          simp only [Bool.and_eq_true, beq_iff_eq] at hm
          exact aany_tailXY i hi hm.2 h1 h2 (fun K' hK' => fun R β G a w Q hrep => h K' (fun s' hs' => hK' _ (hs' _ _ hr)) R β G a w Q hrep)
        | m+3, hm, h => exact h.elim
/-! The check of a schedule in numbers: what is listed, what an operation waits for and what it looks at are bit sets. -/
def frc (n : Nat) (k : Nat → Bool) : Bool := match n with | 0 => k 0 | m + 1 => k (m + 1)
theorem frc_eq (n : Nat) (k : Nat → Bool) : frc n k = k n := by cases n <;> rfl
def frcN : List Nat → (List Nat → Bool) → Bool
  | [], k => k []
  | n :: r, k => frc n fun n => frcN r fun q => k (n :: q)
theorem frcN_eq : ∀ (l : List Nat) (k : List Nat → Bool), frcN l k = k l
  | [], k => rfl
  | n :: r, k => by rw [frcN, frc_eq, frcN_eq r]
def frcF : List (Nat × Nat) → (List (Nat × Nat) → Bool) → Bool
  | [], k => k []
  | (a, b) :: r, k => frc a fun a => frc b fun b => frcF r fun q => k ((a, b) :: q)
theorem frcF_eq : ∀ (l : List (Nat × Nat)) (k : List (Nat × Nat) → Bool), frcF l k = k l
  | [], k => rfl
  | (a, b) :: r, k => by rw [frcF, frc_eq, frc_eq, frcF_eq r]
def depL : List Edge → Nat → Nat
  | [], m => m
  | e :: r, m => match Region.binds .any e with
    | true => depL r (m ||| 2 ^ e.on)
    | false => depL r m
theorem depL_bit (k : Nat) : ∀ (l : List Edge) (m : Nat), (depL l m).testBit k = (m.testBit k || l.any fun e => Region.binds .any e && e.on == k)
  | [], m => by simp [depL]
  | e :: r, m => by
    rw [depL]
    split
    · rename_i hb
      rw [depL_bit k r]
      simp only [List.any_cons, hb, Nat.testBit_or, Nat.testBit_two_pow, Bool.true_and]
      by_cases h : e.on = k
      · simp [h]
      · have h2 : (e.on == k) = false := by simp [h]
        simp only [h, h2, decide_false, Bool.or_false, Bool.false_or]
    · rename_i hb
      rw [depL_bit k r]
      simp [List.any_cons, hb]
def lkM : List Tmp → Nat → Nat
  | [], m => m
  | d :: r, m => lkM r (m ||| 2 ^ d)
theorem lkM_bit (k : Nat) : ∀ (l : List Tmp) (m : Nat), (lkM l m).testBit k = (m.testBit k || l.contains k)
  | [], m => by simp [lkM]
  | d :: r, m => by
    rw [lkM, lkM_bit k r, List.contains_cons]
    simp only [Nat.testBit_or, Nat.testBit_two_pow]
    by_cases h : d = k
    · simp [h]
    · have h2 : (k == d) = false := by simp [Ne.symm h]
      simp [h, h2]
def lkOf (l : List Oper) (o : Oper) : List Tmp :=
  (o.op.operands.toList.filterMap fun | .tmp t => some t | _ => none) ++
  (match o.guard with
   | some (g, _) => ((l[g]?).bind (·.dst)).toList
   | none => [])
theorem lkOf_eq (l : List Oper) (o : Oper) : o.looksAt l.toArray = lkOf l o := by
  unfold Oper.looksAt lkOf
  cases o.guard <;> simp <;> rfl
theorem nbeq (a b : Nat) : Nat.beq a b = decide (a = b) := by
  by_cases h : a = b
  · subst h; simp
  · simp only [h, decide_false]
    cases hb : Nat.beq a b
    · rfl
    · exact absurd (Nat.eq_of_beq_eq_true hb) h
structure Rw where
  i : Nat
  m : Nat
  d : Option Nat
  lk : Nat
def rows (l : List Oper) : List Oper → Nat → List Rw
  | [], _ => []
  | o :: r, i => ⟨i, depL o.after.toList 0, o.dst, lkM (lkOf l o) 0⟩ :: rows l r (i + 1)
def frcR : List Rw → (List Rw → Bool) → Bool
  | [], k => k []
  | ⟨i, m, d, lk⟩ :: r, k => frc i fun i => frc m fun m => frc lk fun lk => match d with
    | none => frcR r fun q => k (⟨i, m, none, lk⟩ :: q)
    | some d => frc d fun d => frcR r fun q => k (⟨i, m, some d, lk⟩ :: q)
theorem frcR_eq : ∀ (l : List Rw) (k : List Rw → Bool), frcR l k = k l
  | [], k => rfl
  | ⟨i, m, none, lk⟩ :: r, k => by rw [frcR, frc_eq, frc_eq, frc_eq, frcR_eq r]
  | ⟨i, m, some d, lk⟩ :: r, k => by simp only [frcR, frc_eq]; rw [frcR_eq r]
def rdyR : List Rw → Nat → List Nat
  | [], _ => []
  | x :: r, D => match !D.testBit x.i && Nat.beq (x.m &&& D) x.m with
    | true => x.i :: rdyR r D
    | false => rdyR r D
def apR (x y : Rw) : Bool := (match x.d with | some d => !y.lk.testBit d && !(match y.d with | some e => Nat.beq e d | none => false) | none => true) && (match y.d with | some d => !x.lk.testBit d | none => true)
def freR (x : Rw) : List Rw → Nat → Nat
  | [], m => m
  | y :: r, m => match Nat.beq y.i x.i || y.m.testBit x.i || apR x y with
    | true => freR x r (m ||| 2 ^ y.i)
    | false => freR x r m
def frL (R : List Rw) : List Nat → List (Nat × Nat)
  | [] => []
  | h :: t => match R[h]? with
    | some x => (h, freR x R 0) :: frL R t
    | none => frL R t
def frAt : List (Nat × Nat) → Nat → Nat
  | [], _ => 0
  | (a, b) :: r, i => match Nat.beq a i with
    | true => b
    | false => frAt r i
def hM (R : List Rw) (FR : List (Nat × Nat)) (full : Nat) (hs : List Nat) (i D : Nat) : Bool := (rdyR R D).contains i && Nat.beq ((frAt FR i ||| D) &&& full) full && hs.contains i
def earlyL (bf hs : List Nat) (i : Nat) : Bool := hs.any fun k => !(bf.getD i 0).testBit k
def sck (R : List Rw) (FR : List (Nat × Nat)) (full : Nat) (hs bf : List Nat) : Sc → Nat → Nat → Bool
  | .nil, D, _ => rdyR R D == []
  | .fk i j a b, D, f+1 => rdyR R D == [i, j] && frc (D ||| 2 ^ i) (fun D => sck R FR full hs bf a D f) && frc (D ||| 2 ^ j) (fun D => sck R FR full hs bf b D f)
  | .fk3 i j k a b c, D, f+1 => rdyR R D == [i, j, k] && frc (D ||| 2 ^ i) (fun D => sck R FR full hs bf a D f) && frc (D ||| 2 ^ j) (fun D => sck R FR full hs bf b D f) && frc (D ||| 2 ^ k) (fun D => sck R FR full hs bf c D f)
  | .fkm i m j n a b, D, f+1 => rdyR R D == [i, j] && (m == 1 || !earlyL bf hs i) && (n == 1 || !earlyL bf hs j) && frc (D ||| 2 ^ i) (fun D => sck R FR full hs bf a D f) && frc (D ||| 2 ^ j) (fun D => sck R FR full hs bf b D f)
  | .fkt i m j n k p a b c, D, f+1 => rdyR R D == [i, j, k] && (m == 1 || !earlyL bf hs i) && (n == 1 || !earlyL bf hs j) && (p == 1 || !earlyL bf hs k) && frc (D ||| 2 ^ i) (fun D => sck R FR full hs bf a D f) && frc (D ||| 2 ^ j) (fun D => sck R FR full hs bf b D f) && frc (D ||| 2 ^ k) (fun D => sck R FR full hs bf c D f)
  | .it i m r, D, f+1 => (match m with
    | 0 => hM R FR full hs i D
    | 1 => rdyR R D == [i]
    | 2 => hM R FR full hs i D && rdyR R D == [i]
    | _ => rdyR R D == [i] && !earlyL bf hs i) && frc (D ||| 2 ^ i) (fun D => sck R FR full hs bf r D f)
  | .fk _ _ _ _, _, 0 => false
  | .fk3 _ _ _ _ _ _, _, 0 => false
  | .fkm _ _ _ _ _ _, _, 0 => false
  | .fkt _ _ _ _ _ _ _ _ _, _, 0 => false
  | .it _ _ _, _, 0 => false
/-- Whether a schedule asks for what must come before. -/
def Sc.asks : Sc → Bool
  | .nil => false
  | .fk _ _ a b => a.asks || b.asks
  | .fk3 _ _ _ a b c => a.asks || b.asks || c.asks
  | .fkm _ _ _ _ _ _ => true
  | .fkt _ _ _ _ _ _ _ _ _ => true
  | .it _ m r => decide (2 < m) || r.asks
def bfOf (l : List Oper) : Bool → List Nat
  | true => CheckFast.beforeL l 0 []
  | false => []
def schedFast (l : List Oper) (hs : List Nat) (sc : Sc) : Bool :=
  (l.all fun o => match o.op with | .select .. => false | _ => true) &&
  frcR (rows l l 0) fun R => frcF (frL R hs) fun FR => frc (2 ^ l.length - 1) fun full => frcN (bfOf l sc.asks) fun bf => sck R FR full hs bf sc 0 l.length

structure Inv (n : Nat) (l : Array Bool) (D : Nat) : Prop where
  sz : l.size = n
  bit : ∀ j, l.getD j false = D.testBit j
theorem Inv.getT {n : Nat} {l : Array Bool} {D : Nat} (h : Inv n l D) {j : Nat} (hj : j < n) : l.getD j true = D.testBit j := by
  rw [← h.bit j]
  have := h.sz
  simp [Array.getD, this, hj]
theorem Inv.set {n : Nat} {l : Array Bool} {D : Nat} (h : Inv n l D) {i : Nat} (hi : i < n) : Inv n (l.setIfInBounds i true) (D ||| 2 ^ i) := by
  refine ⟨by simp [h.sz], fun j => ?_⟩
  have h1 := h.bit j
  have h2 := h.sz
  simp only [Nat.testBit_or, Nat.testBit_two_pow, ← h1]
  by_cases hij : i = j
  · subst hij
    simp [Array.getD, h2, hi]
  · simp only [Array.getD_eq_getD_getElem?, hij, decide_false, Bool.or_false]
    rw [Array.getElem?_setIfInBounds_ne hij]
theorem inv_none (n : Nat) : Inv n (Array.replicate n false) 0 := by
  refine ⟨by simp, fun j => ?_⟩
  simp only [Nat.zero_testBit, Array.getD, Array.size_replicate]
  split <;> simp
theorem land_all {m D : Nat} : Nat.beq (m &&& D) m = true ↔ ∀ k, m.testBit k = true → D.testBit k = true := by
  rw [Nat.beq_eq]
  constructor
  · intro h k hk
    have : (m &&& D).testBit k = true := by rw [h]; exact hk
    rw [Nat.testBit_and] at this
    simp only [Bool.and_eq_true] at this
    exact this.2
  · intro h
    apply Nat.eq_of_testBit_eq
    intro k
    rw [Nat.testBit_and]
    cases hk : m.testBit k
    · rfl
    · simp [h k hk]
theorem rdyR_go {l : List Oper} {lst : Array Bool} {D : Nat} (hv : Inv l.length lst D) : ∀ (r : List Oper) (k : Nat), (∀ j, r[j]? = l[k+j]?) →
    rdyR (rows l r k) D = (List.range' k r.length).filter fun i => !lst.getD i true && ((l.toArray[i]?).map (·.after.all fun e => !Region.binds .any e || lst.getD e.on false)).getD false
  | [], k, h => rfl
  | o :: r, k, h => by
    have h0 : l[k]? = some o := by simpa using (h 0).symm
    have hk : k < l.length := (List.getElem?_eq_some_iff.1 h0).1
    have ih := rdyR_go hv r (k+1) (fun j => by
      have := h (j+1)
      rw [List.getElem?_cons_succ] at this
      rw [this]; congr 1; omega)
    have hc : (!D.testBit k && Nat.beq (depL o.after.toList 0 &&& D) (depL o.after.toList 0)) = (!lst.getD k true && ((l.toArray[k]?).map (·.after.all fun e => !Region.binds .any e || lst.getD e.on false)).getD false) := by
      rw [hv.getT hk]
      congr 1
      rw [Bool.eq_iff_iff, land_all]
      simp only [List.getElem?_toArray, h0, Option.map_some, Option.getD_some, depL_bit, Nat.zero_testBit, Bool.false_or, List.any_eq_true, Bool.and_eq_true, beq_iff_eq, Array.all_eq_true_iff_forall_mem, Bool.or_eq_true, Bool.not_eq_true', hv.bit]
      constructor
      · intro h e he
        cases hb : Region.binds .any e
        · exact .inl rfl
        · exact .inr (h _ ⟨e, Array.mem_toList_iff.2 he, hb, rfl⟩)
      · rintro h k ⟨e, he, hb, rfl⟩
        rcases h e (Array.mem_toList_iff.1 he) with h | h
        · rw [hb] at h; cases h
        · exact h
    rw [rows, rdyR]
    simp only [List.length_cons, List.range'_succ, List.filter_cons]
    rw [hc, ih]
    cases (!lst.getD k true && ((l.toArray[k]?).map (·.after.all fun e => !Region.binds .any e || lst.getD e.on false)).getD false) <;> simp
theorem rdyR_eq {l : List Oper} {lst : Array Bool} {D : Nat} (hv : Inv l.length lst D) : rdyR (rows l l 0) D = Region.ready .any l.toArray lst := by
  rw [rdyR_go hv l 0 (fun j => by simp)]
  unfold Region.ready
  rw [List.size_toArray, List.range_eq_range']
theorem rows_mem {l : List Oper} {y : Rw} : ∀ (r : List Oper) (k : Nat), (∀ j, r[j]? = l[k+j]?) → y ∈ rows l r k → ∃ o, l[y.i]? = some o ∧ y = ⟨y.i, depL o.after.toList 0, o.dst, lkM (lkOf l o) 0⟩
  | [], k, h, hy => by simp [rows] at hy
  | o :: r, k, h, hy => by
    rw [rows, List.mem_cons] at hy
    rcases hy with rfl | hy
    · exact ⟨o, by simpa using (h 0).symm, rfl⟩
    · exact rows_mem r (k+1) (fun j => by
        have := h (j+1)
        rw [List.getElem?_cons_succ] at this
        rw [this]; congr 1; omega) hy
theorem rows_i {l : List Oper} {y : Rw} : ∀ (r : List Oper) (k h : Nat), (rows l r k)[h]? = some y → y.i = k + h
  | [], k, h, e => by simp [rows] at e
  | o :: r, k, 0, e => by simp [rows] at e; rw [← e]; rfl
  | o :: r, k, h+1, e => by
    rw [rows, List.getElem?_cons_succ] at e
    have := rows_i r (k+1) h e
    omega
theorem freR_bit {x : Rw} {j : Nat} : ∀ (R : List Rw) (m : Nat), (freR x R m).testBit j = true → m.testBit j = true ∨ ∃ y ∈ R, y.i = j ∧ (Nat.beq y.i x.i || y.m.testBit x.i || apR x y) = true
  | [], m, h => .inl h
  | y :: r, m, h => by
    rw [freR] at h
    split at h
    · rename_i hc
      rcases freR_bit r _ h with h | ⟨z, hz, h⟩
      · simp only [Nat.testBit_or, Nat.testBit_two_pow, Bool.or_eq_true, decide_eq_true_eq] at h
        rcases h with h | h
        · exact .inl h
        · exact .inr ⟨y, by simp, h, hc⟩
      · exact .inr ⟨z, by simp [hz], h⟩
    · rcases freR_bit r _ h with h | ⟨z, hz, h⟩
      · exact .inl h
      · exact .inr ⟨z, by simp [hz], h⟩
theorem frAt_spec {R : List Rw} {i : Nat} : ∀ (hs : List Nat), frAt (frL R hs) i = 0 ∨ ∃ x, R[i]? = some x ∧ frAt (frL R hs) i = freR x R 0
  | [] => .inl rfl
  | h :: t => by
    rw [frL]
    split
    · rename_i x hx
      rw [frAt]
      split
      · rename_i hb
        rw [Nat.beq_eq] at hb
        subst hb
        exact .inr ⟨x, hx, rfl⟩
      · exact frAt_spec t
    · exact frAt_spec t
theorem apR_ok {l : List Oper} {ox oy : Oper} {i j : Nat} (h : apR ⟨i, depL ox.after.toList 0, ox.dst, lkM (lkOf l ox) 0⟩ ⟨j, depL oy.after.toList 0, oy.dst, lkM (lkOf l oy) 0⟩ = true) : ox.apart l.toArray oy = true := by
  unfold apR at h
  unfold Oper.apart
  rw [lkOf_eq, lkOf_eq]
  simp only [lkM_bit, Nat.zero_testBit, Bool.false_or] at h
  revert h
  cases ox.dst <;> cases oy.dst <;> simp [nbeq]
  done
theorem hM_ok {l : List Oper} {hs : List Nat} {lst : Array Bool} {D i : Nat} (hv : Inv l.length lst D) (hsel : Region.noSelect l.toArray = true) (h : hM (rows l l 0) (frL (rows l l 0) hs) (2 ^ l.length - 1) hs i D = true) : hOk l.toArray hs lst i = true := by
  unfold hM at h
  simp only [Bool.and_eq_true] at h
  obtain ⟨⟨h1, h2⟩, h3⟩ := h
  rw [rdyR_eq hv] at h1
  unfold hOk
  simp only [Bool.and_eq_true]
  refine ⟨⟨⟨hsel, h1⟩, ?_⟩, h3⟩
  have hir := mem_ready.1 (List.contains_iff_mem.1 h1)
  obtain ⟨hi0, oi, hoi, _⟩ := hir
  have hin : i < l.length := by
    have := (Array.getElem?_eq_some_iff.1 hoi).1
    simpa using this
  unfold Region.free
  simp only [hoi, List.all_eq_true, List.mem_range, List.size_toArray]
  intro j hj
  rw [Nat.and_comm, land_all] at h2
  have hb := h2 j (by simp [Nat.testBit_two_pow_sub_one, hj])
  simp only [Nat.testBit_or, Bool.or_eq_true] at hb
  rcases hb with hb | hb
  · rcases frAt_spec (R := rows l l 0) (i := i) hs with h0 | ⟨x, hx, h0⟩
    · rw [h0] at hb; simp at hb
    · rw [h0] at hb
      rcases freR_bit _ _ hb with hb | ⟨y, hy, hyj, hc⟩
      · simp at hb
      · obtain ⟨oy, hoy, hye⟩ := rows_mem l 0 (fun j => by simp) hy
        have hxi := rows_i l 0 i hx
        obtain ⟨ox, hox, hxe⟩ := rows_mem l 0 (fun j => by simp) (List.mem_of_getElem? hx)
        rw [Nat.zero_add] at hxi
        rw [hxi] at hox hxe
        rw [hyj] at hoy hye
        have hoi' : l[i]? = some oi := by simpa using hoi
        rw [hoi'] at hox
        injection hox with hox
        subst hox
        simp only [List.getElem?_toArray, hoy]
        rw [hxe, hye] at hc
        simp only [Bool.or_eq_true] at hc ⊢
        rcases hc with (hc | hc) | hc
        · rw [Nat.beq_eq] at hc; exact .inl (.inl (by simpa using hc))
        · rw [depL_bit] at hc
          simp only [Nat.zero_testBit, Bool.false_or] at hc
          refine .inr (.inl ?_)
          rw [← hc, ← Array.any_toList]
        · exact .inr (.inr (apR_ok hc))
  · simp [hv.getT hj, hb]
theorem earlyL_ok {l : List Oper} {hs : List Nat} {b : Bool} {i : Nat} (h : (!earlyL (bfOf l b) hs i) = true) : (!early l.toArray hs i) = true := by
  have h1 : ∀ k ∈ hs, ((bfOf l b).getD i 0).testBit k = true := by simpa [earlyL] using h
  simp only [Bool.not_eq_true', early, List.any_eq_false, Bool.not_eq_true', Bool.not_eq_false, Bool.not_eq_true]
  intro k hk
  have h2 := h1 k hk
  cases b
  · simp [bfOf] at h2
  · rw [← CheckFast.beforeF_eq]
    unfold CheckFast.beforeF
    simp only [bfOf] at h2
    rw [List.getD_eq_getElem?_getD] at h2
    simp only [Array.getD_eq_getD_getElem?, List.getElem?_toArray]
    simpa using h2
theorem sck_ok {l : List Oper} {hs : List Nat} {b : Bool} (hsel : Region.noSelect l.toArray = true) : ∀ (sc : Sc) (D f : Nat) (lst : Array Bool), Inv l.length lst D →
    sck (rows l l 0) (frL (rows l l 0) hs) (2 ^ l.length - 1) hs (bfOf l b) sc D f = true → schedOk l.toArray hs sc lst f = true := by
  have hin : ∀ {lst i}, i ∈ Region.ready .any l.toArray lst → i < l.length := by
    intro lst i h
    unfold Region.ready at h
    simpa using (List.mem_range.1 (List.mem_filter.1 h).1)
  have hm : ∀ {m i : Nat}, (m == 1 || !earlyL (bfOf l b) hs i) = true → (m == 1 || !early l.toArray hs i) = true := by
    intro m i h
    rw [Bool.or_eq_true] at h ⊢
    exact h.imp id earlyL_ok
  intro sc
  induction sc with
  | nil =>
    intro D f lst hv h
    simp only [sck, rdyR_eq hv] at h
    simpa [schedOk] using h
  | it i m r ih =>
    intro D f lst hv h
    cases f with
    | zero => simp [sck] at h
    | succ f =>
      simp only [sck, frc_eq, Bool.and_eq_true] at h
      simp only [schedOk, nxt_eq, Bool.and_eq_true]
      obtain ⟨h1, h2⟩ := h
      have key : (match (generalizing := false) m with
        | 0 => hOk l.toArray hs lst i
        | 1 => Region.ready .any l.toArray lst == [i]
        | 2 => hOk l.toArray hs lst i && Region.ready .any l.toArray lst == [i]
        | _ => Region.ready .any l.toArray lst == [i] && !early l.toArray hs i) = true ∧ i ∈ Region.ready .any l.toArray lst := by
        match m, h1 with
        | 0, h1 =>
          have := hM_ok hv hsel h1
          refine ⟨this, ?_⟩
          simp only [hOk, Bool.and_eq_true, List.contains_iff_mem] at this
          exact this.1.1.2
        | 1, h1 =>
          simp only [rdyR_eq hv] at h1
          refine ⟨h1, ?_⟩
          rw [beq_iff_eq] at h1; rw [h1]; simp
        | 2, h1 =>
          simp only [rdyR_eq hv, Bool.and_eq_true] at h1
          refine ⟨by simp only [Bool.and_eq_true]; exact ⟨hM_ok hv hsel h1.1, h1.2⟩, ?_⟩
          have h1 := h1.2
          rw [beq_iff_eq] at h1; rw [h1]; simp
        | m+3, h1 =>
          simp only [rdyR_eq hv, Bool.and_eq_true] at h1
          refine ⟨by simp only [Bool.and_eq_true]; exact ⟨h1.1, earlyL_ok h1.2⟩, ?_⟩
          have h1 := h1.1
          rw [beq_iff_eq] at h1; rw [h1]; simp
      exact ⟨key.1, ih _ _ _ (hv.set (hin key.2)) h2⟩
  | fk i j a b iha ihb =>
    intro D f lst hv h
    cases f with
    | zero => simp [sck] at h
    | succ f =>
      simp only [sck, frc_eq, Bool.and_eq_true, rdyR_eq hv] at h
      simp only [schedOk, nxt_eq, Bool.and_eq_true]
      obtain ⟨⟨h1, h2⟩, h3⟩ := h
      have e := h1
      rw [beq_iff_eq] at e
      exact ⟨⟨h1, iha _ _ _ (hv.set (hin (by rw [e]; simp))) h2⟩, ihb _ _ _ (hv.set (hin (by rw [e]; simp))) h3⟩
  | fk3 i j k a b c iha ihb ihc =>
    intro D f lst hv h
    cases f with
    | zero => simp [sck] at h
    | succ f =>
      simp only [sck, frc_eq, Bool.and_eq_true, rdyR_eq hv] at h
      simp only [schedOk, nxt_eq, Bool.and_eq_true]
      obtain ⟨⟨⟨h1, h2⟩, h3⟩, h4⟩ := h
      have e := h1
      rw [beq_iff_eq] at e
      exact ⟨⟨⟨h1, iha _ _ _ (hv.set (hin (by rw [e]; simp))) h2⟩, ihb _ _ _ (hv.set (hin (by rw [e]; simp))) h3⟩, ihc _ _ _ (hv.set (hin (by rw [e]; simp))) h4⟩
  | fkm i m j n a b iha ihb =>
    intro D f lst hv h
    cases f with
    | zero => simp [sck] at h
    | succ f =>
      simp only [sck, frc_eq, Bool.and_eq_true, rdyR_eq hv] at h
      simp only [schedOk, nxt_eq, Bool.and_eq_true]
      obtain ⟨⟨⟨⟨h1, hm1⟩, hm2⟩, h2⟩, h3⟩ := h
      have e := h1
      rw [beq_iff_eq] at e
      exact ⟨⟨⟨⟨h1, hm hm1⟩, hm hm2⟩, iha _ _ _ (hv.set (hin (by rw [e]; simp))) h2⟩, ihb _ _ _ (hv.set (hin (by rw [e]; simp))) h3⟩
  | fkt i m j n k p a b c iha ihb ihc =>
    intro D f lst hv h
    cases f with
    | zero => simp [sck] at h
    | succ f =>
      simp only [sck, frc_eq, Bool.and_eq_true, rdyR_eq hv] at h
      simp only [schedOk, nxt_eq, Bool.and_eq_true]
      obtain ⟨⟨⟨⟨⟨⟨h1, hm1⟩, hm2⟩, hm3⟩, h2⟩, h3⟩, h4⟩ := h
      have e := h1
      rw [beq_iff_eq] at e
      exact ⟨⟨⟨⟨⟨⟨h1, hm hm1⟩, hm hm2⟩, hm hm3⟩, iha _ _ _ (hv.set (hin (by rw [e]; simp))) h2⟩, ihb _ _ _ (hv.set (hin (by rw [e]; simp))) h3⟩, ihc _ _ _ (hv.set (hin (by rw [e]; simp))) h4⟩
theorem schedFast_ok {l : List Oper} {hs : List Nat} {sc : Sc} (h : schedFast l hs sc = true) : schedOk l.toArray hs sc (Array.replicate l.length false) l.length = true := by
  unfold schedFast at h
  simp only [frcR_eq, frcF_eq, frc_eq, frcN_eq, Bool.and_eq_true] at h
  refine sck_ok ?_ sc 0 _ _ (inv_none _) h.2
  unfold Region.noSelect
  rw [List.all_toArray]
  exact h.1
theorem aw_dr {tab : Nat → Option TI} [hT : Tb P tab] {id : Nat} {l : List Oper} {s : St} {Q : Exit → St → Prop} (sc : Sc) (hs : List Nat)
    (hok : (P.follows .mixedOrders && schedFast l hs sc) = true)
    (h : wdr P tab l.toArray hs (Q .normal) sc s) (hd : noDef l = true := by rfl) : AW P (.region id l.toArray true) s Q := by
  simp only [Bool.and_eq_true] at hok
  exact aw_draw l.length hs rfl hok.1 (wdr_ok sc s h _ _ (schedFast_ok hok.2)) hd
theorem adx_call {tab : Nat → Option TI} [hT : Tb P tab] {ops : Array Oper} {hs : List Nat} {K : St → Prop} {r : Sc} {s : St} {d : Option Tmp} {f : FuncId} {args : Array Operand} {tys : Array TypeId} {ty : TypeId} {pos : String} {aft : Array Edge} {x : AV} [hc : TyC P f]
    (h : PCall P f (evalL s args) (fun y => y = x)) (hp : AV.purL (evalL s args) = true) (hk : wdr P tab ops hs K r (s.put d x)) : ADx P ops hs ⟨d, .call { callee := .value (.func f), args, argTypes := tys }, ty, pos, aft, none⟩ r s K :=
  fun K' hK' => aopx_call h hp fun y hy => by subst hy; exact hK' _ (wdr_ok _ _ hk)
theorem adx_callQ {tab : Nat → Option TI} [hT : Tb P tab] {ops : Array Oper} {hs : List Nat} {K : St → Prop} {r : Sc} {s : St} {d : Option Tmp} {f : FuncId} {args : Array Operand} {tys : Array TypeId} {ty : TypeId} {pos : String} {aft : Array Edge} {Q : AV → Prop} [hc : TyC P f]
    (h : PCall P f (evalL s args) Q) (hp : AV.purL (evalL s args) = true) (hk : ∀ x, Q x → wdr P tab ops hs K r (s.put d x)) : ADx P ops hs ⟨d, .call { callee := .value (.func f), args, argTypes := tys }, ty, pos, aft, none⟩ r s K :=
  fun K' hK' => aopx_call h hp fun y hy => hK' _ (wdr_ok _ _ (hk y hy))
theorem adx_op {tab : Nat → Option TI} [hT : Tb P tab] {ops : Array Oper} {hs : List Nat} {K : St → Prop} {r : Sc} {s : St} {o : Oper} (h : ∀ K' : St → Prop, (∀ s', wdr P tab ops hs K r s' → K' s') → AOpX P o s K') : ADx P ops hs o r s K :=
  fun K' hK' => h K' fun s' hs' => hK' s' (wdr_ok _ _ hs')
theorem ado_op {tab : Nat → Option TI} [hT : Tb P tab] {ops : Array Oper} {hs : List Nat} {K : St → Prop} {r : Sc} {s : St} {o : Oper} (h : ∀ K' : St → Prop, (∀ s', wdr P tab ops hs K r s' → K' s') → AOp P o s K') : ADo P ops hs o r s K :=
  fun K' hK' => h K' fun s' hs' => hK' s' (wdr_ok _ _ hs')
def wdo (P : Program) (tab : Nat → Option TI) (ops : Array Oper) (hs : List Nat) (K : St → Prop) (r : Sc) : SR → Prop
  | .ok s' => wdr P tab ops hs K r s'
  | .ex c f => ∃ h : c, wdr P tab ops hs K r (f h)
  | .no => AWall
theorem ado_sop {tab : Nat → Option TI} [hT : Tb P tab] {ops : Array Oper} {hs : List Nat} {K : St → Prop} {r : Sc} {s : St} {d : Option Tmp} {op : Op} {ty : TypeId} {pos : String} {aft : Array Edge} {g : Option (Nat × Bool)}
    (h : wdo P tab ops hs K r (sop tab op d s)) : ADo P ops hs ⟨d, op, ty, pos, aft, g⟩ r s K := by
  have hs := sop_ok (P := P) (tab := tab) op d s
  generalize sop tab op d s = q at h hs
  cases q with
  | ok s' => exact fun K' hK' => hs _ _ _ _ _ (hK' _ (wdr_ok _ _ h))
  | ex c f => obtain ⟨hc, h⟩ := h; exact fun K' hK' => hs hc _ _ _ _ _ (hK' _ (wdr_ok _ _ h))
  | no => exact h.elim
theorem adx_pvo {tab : Nat → Option TI} [hT : Tb P tab] {ops : Array Oper} {hs : List Nat} {K : St → Prop} {r : Sc} {s : St} {d : Option Tmp} {op : Op} {ty : TypeId} {pos : String} {aft : Array Edge} {g : Option (Nat × Bool)}
    (h : wdp P tab ops hs K d r s (pvo tab op s)) : ADx P ops hs ⟨d, op, ty, pos, aft, g⟩ r s K := by
  obtain ⟨x, hx, h⟩ := wdp_ok h
  exact fun K' hK' => aopx_pv hx (hK' _ (wdr_ok _ _ h))
end Go.Ab

/-! ### The equations that a walk simplifies with. By program (genww.py) -/
namespace Go.Ab
def dstL : List Oper → Nat → Option Tmp
  | [], _ => none
  | o :: _, 0 => o.dst
  | _ :: r, j+1 => dstL r j
def opL : List Oper → Nat → Option Oper
  | [], _ => none
  | o :: _, 0 => some o
  | _ :: r, j+1 => opL r j
def gvo (s : St) : Option Tmp → AV
  | some t => s.fr.getD t .any
  | none => .any
theorem opL_eq : ∀ (l : List Oper) (j : Nat), l[j]? = opL l j
  | [], _ => rfl
  | _ :: _, 0 => rfl
  | o :: r, j+1 => by rw [List.getElem?_cons_succ, opL_eq r j]; rfl
theorem dstL_eq : ∀ (l : List Oper) (j : Nat), (l[j]?).bind (·.dst) = dstL l j
  | [], _ => rfl
  | _ :: _, 0 => rfl
  | o :: r, j+1 => by rw [List.getElem?_cons_succ, dstL_eq r j]; rfl
theorem gval_L (l : List Oper) (j : Nat) (s : St) : gval l.toArray j s = gvo s (dstL l j) := by
  unfold gval gvo; rw [List.getElem?_toArray, dstL_eq]; (try (cases dstL l j <;> rfl))
def pvBuildA (ps : List (Nat × AV)) (z : List AV) : Option TI → PR
  | some i => .ex (partsOk (fun k => some (k * i.n, i.n)) z.length ps = true) (fun _ => .agg (fillA (fun k => some (k * i.n)) z ps))
  | none => .no
def pvSl1 (sz : Nat) (t : Option TI) (c : Prop) (x : AV) : PR := match t with
  | some i => if sz = i.n then .ex c (fun _ => x) else .no
  | none => .no
def ADf (P : Program) (ops : Array Oper) (hs : List Nat) (K : St → Prop) (a b : Sc) (s : St) : Option Oper → Option Oper → Prop
  | some ⟨d, op, ty, pos, aft, none⟩, some ⟨d', op', ty', pos', aft', none⟩ => ADx P ops hs ⟨d, op, ty, pos, aft, none⟩ a s K ∧ ADx P ops hs ⟨d', op', ty', pos', aft', none⟩ b s K
  | _, _ => AWall
def ADfm (P : Program) (ops : Array Oper) (hs : List Nat) (K : St → Prop) (m n : Nat) (a b : Sc) (s : St) : Option Oper → Option Oper → Prop
  | some ⟨d, op, ty, pos, aft, none⟩, some ⟨d', op', ty', pos', aft', none⟩ => AArm P ops hs m ⟨d, op, ty, pos, aft, none⟩ a s K ∧ AArm P ops hs n ⟨d', op', ty', pos', aft', none⟩ b s K
  | _, _ => AWall
theorem wdr_fkm {P : Program} {tab : Nat → Option TI} {ops : Array Oper} {hs : List Nat} {K : St → Prop} {i m j n : Nat} {a b : Sc} {s : St} : wdr P tab ops hs K (.fkm i m j n a b) s = ADfm P ops hs K m n a b s ops[i]? ops[j]? := by
  rw [wdr]; unfold ADfm; rfl
def ADft (P : Program) (ops : Array Oper) (hs : List Nat) (K : St → Prop) (m n p : Nat) (a b c : Sc) (s : St) : Option Oper → Option Oper → Option Oper → Prop
  | some ⟨d, op, ty, pos, aft, none⟩, some ⟨d', op', ty', pos', aft', none⟩, some ⟨d2, op2, ty2, pos2, aft2, none⟩ => AArm P ops hs m ⟨d, op, ty, pos, aft, none⟩ a s K ∧ AArm P ops hs n ⟨d', op', ty', pos', aft', none⟩ b s K ∧ AArm P ops hs p ⟨d2, op2, ty2, pos2, aft2, none⟩ c s K
  | _, _, _ => AWall
theorem wdr_fkt {P : Program} {tab : Nat → Option TI} {ops : Array Oper} {hs : List Nat} {K : St → Prop} {i m j n k p : Nat} {a b c : Sc} {s : St} : wdr P tab ops hs K (.fkt i m j n k p a b c) s = ADft P ops hs K m n p a b c s ops[i]? ops[j]? ops[k]? := by
  rw [wdr]; unfold ADft; rfl
def ADf3 (P : Program) (ops : Array Oper) (hs : List Nat) (K : St → Prop) (a b c : Sc) (s : St) : Option Oper → Option Oper → Option Oper → Prop
  | some ⟨d, op, ty, pos, aft, none⟩, some ⟨d', op', ty', pos', aft', none⟩, some ⟨d2, op2, ty2, pos2, aft2, none⟩ => ADx P ops hs ⟨d, op, ty, pos, aft, none⟩ a s K ∧ ADx P ops hs ⟨d', op', ty', pos', aft', none⟩ b s K ∧ ADx P ops hs ⟨d2, op2, ty2, pos2, aft2, none⟩ c s K
  | _, _, _ => AWall
theorem wdr_fk3 {P : Program} {tab : Nat → Option TI} {ops : Array Oper} {hs : List Nat} {K : St → Prop} {i j k : Nat} {a b c : Sc} {s : St} : wdr P tab ops hs K (.fk3 i j k a b c) s = ADf3 P ops hs K a b c s ops[i]? ops[j]? ops[k]? := by
  rw [wdr]; unfold ADf3; rfl
theorem wdr_fk {P : Program} {tab : Nat → Option TI} {ops : Array Oper} {hs : List Nat} {K : St → Prop} {i j : Nat} {a b : Sc} {s : St} : wdr P tab ops hs K (.fk i j a b) s = ADf P ops hs K a b s ops[i]? ops[j]? := by
  rw [wdr]; unfold ADf; rfl
theorem ex_true {p : True → Prop} : (∃ h : True, p h) = p trivial := by simp
theorem ex_andL {a : Prop} {p : True ∧ a → Prop} : (∃ h : True ∧ a, p h) = (∃ h : a, p ⟨trivial, h⟩) := propext ⟨fun ⟨h, k⟩ => ⟨h.2, k⟩, fun ⟨h, k⟩ => ⟨⟨trivial, h⟩, k⟩⟩
theorem ex_andR {a : Prop} {p : a ∧ True → Prop} : (∃ h : a ∧ True, p h) = (∃ h : a, p ⟨h, trivial⟩) := propext ⟨fun ⟨h, k⟩ => ⟨h.1, k⟩, fun ⟨h, k⟩ => ⟨⟨h, trivial⟩, k⟩⟩
theorem ww0 : (∀ (P : Program) (tab : Nat → Option TI) (all : Array Oper) (K : St → Prop) (s : St), wops P tab all K [] s = K s) ∧
  (∀ (P : Program) (tab : Nat → Option TI) (all : Array Oper) (K : St → Prop) (d : Option Tmp) (op : Op) (ty : TypeId) (pos : String) (aft : Array Edge) (r : List Oper) (s : St), wops P tab all K (⟨d, op, ty, pos, aft, none⟩ :: r) s = wst P tab all K ⟨d, op, ty, pos, aft, none⟩ r s (sop tab op d s)) ∧
  (∀ (P : Program) (tab : Nat → Option TI) (all : Array Oper) (K : St → Prop) (d : Option Tmp) (op : Op) (ty : TypeId) (pos : String) (aft : Array Edge) (r : List Oper) (s : St) (j : Nat) (b : Bool), wops P tab all K (⟨d, op, ty, pos, aft, some (j, b)⟩ :: r) s = wgd P tab all K ⟨d, op, ty, pos, aft, some (j, b)⟩ r s (gdt (gval all j s) b)) ∧
  (∀ (P : Program) (tab : Nat → Option TI) (all : Array Oper) (K : St → Prop) (o : Oper) (r : List Oper) (s : St) (s' : St), wst P tab all K o r s (.ok s') = wops P tab all K r s') ∧
  (∀ (P : Program) (tab : Nat → Option TI) (all : Array Oper) (K : St → Prop) (o : Oper) (r : List Oper) (s : St) (c : Prop) (f : c → St), wst P tab all K o r s (.ex c f) = ∃ h : c, wops P tab all K r (f h)) ∧
  (∀ (P : Program) (tab : Nat → Option TI) (all : Array Oper) (K : St → Prop) (o : Oper) (r : List Oper) (s : St), wst P tab all K o r s .no = AStk P all o r s K) ∧
  (∀ (P : Program) (tab : Nat → Option TI) (all : Array Oper) (K : St → Prop) (d : Option Tmp) (op : Op) (ty : TypeId) (pos : String) (aft : Array Edge) (r : List Oper) (s : St) (g : Option (Nat × Bool)), wgd P tab all K ⟨d, op, ty, pos, aft, g⟩ r s .run = wst P tab all K ⟨d, op, ty, pos, aft, none⟩ r s (sop tab op d s)) ∧
  (∀ (P : Program) (tab : Nat → Option TI) (all : Array Oper) (K : St → Prop) (d : Option Tmp) (op : Op) (ty : TypeId) (pos : String) (aft : Array Edge) (r : List Oper) (s : St) (g : Option (Nat × Bool)), wgd P tab all K ⟨d, op, ty, pos, aft, g⟩ r s .skip = wops P tab all K r (s.put d (.v undef))) ∧
  (gdt (.bool true) true = .run) ∧
  (gdt (.bool false) false = .run) ∧
  (gdt (.bool true) false = .skip) ∧
  (gdt (.bool false) true = .skip) ∧
  (∀ (b : Bool), gdt (.v undef) b = .skip) ∧
  (∀ (l : List Oper) (j : Nat) (s : St), gval l.toArray j s = gvo s (dstL l j)) ∧
  (∀ (s : St) (t : Nat), gvo s (some t) = s.fr.getD t .any) ∧
  (∀ (d : Option Tmp) (op : Op) (ty : TypeId) (pos : String) (aft : Array Edge) (g : Option (Nat × Bool)) (r : List Oper), dstL (⟨d, op, ty, pos, aft, g⟩ :: r) 0 = d) ∧
  (∀ (o : Oper) (r : List Oper) (j : Nat), dstL (o :: r) (j + 1) = dstL r j) ∧
  (∀ (P : Program) (tab : Nat → Option TI) (ops : Array Oper) (hs : List Nat) (K : St → Prop) (s : St), wdr P tab ops hs K .nil s = K s) ∧
  (∀ (P : Program) (tab : Nat → Option TI) (hs : List Nat) (K : St → Prop) (i m : Nat) (r : Sc) (s : St) (l : List Oper), wdr P tab l.toArray hs K (.it i m r) s = wdi P tab l.toArray hs K m r s (opL l i)) ∧
  (∀ (P : Program) (tab : Nat → Option TI) (hs : List Nat) (K : St → Prop) (i j : Nat) (a b : Sc) (s : St) (l : List Oper), wdr P tab l.toArray hs K (.fk i j a b) s = ADf P l.toArray hs K a b s (opL l i) (opL l j)) ∧
  (∀ (P : Program) (ops : Array Oper) (hs : List Nat) (K : St → Prop) (a b : Sc) (s : St) (d d' : Option Tmp) (op op' : Op) (ty ty' : TypeId) (pos pos' : String) (aft aft' : Array Edge), ADf P ops hs K a b s (some ⟨d, op, ty, pos, aft, none⟩) (some ⟨d', op', ty', pos', aft', none⟩) = (ADx P ops hs ⟨d, op, ty, pos, aft, none⟩ a s K ∧ ADx P ops hs ⟨d', op', ty', pos', aft', none⟩ b s K)) ∧
  (∀ (P : Program) (tab : Nat → Option TI) (hs : List Nat) (K : St → Prop) (i j k : Nat) (a b c : Sc) (s : St) (l : List Oper), wdr P tab l.toArray hs K (.fk3 i j k a b c) s = ADf3 P l.toArray hs K a b c s (opL l i) (opL l j) (opL l k)) ∧
  (∀ (P : Program) (ops : Array Oper) (hs : List Nat) (K : St → Prop) (a b c : Sc) (s : St) (d d' d2 : Option Tmp) (op op' op2 : Op) (ty ty' ty2 : TypeId) (pos pos' pos2 : String) (aft aft' aft2 : Array Edge), ADf3 P ops hs K a b c s (some ⟨d, op, ty, pos, aft, none⟩) (some ⟨d', op', ty', pos', aft', none⟩) (some ⟨d2, op2, ty2, pos2, aft2, none⟩) = (ADx P ops hs ⟨d, op, ty, pos, aft, none⟩ a s K ∧ ADx P ops hs ⟨d', op', ty', pos', aft', none⟩ b s K ∧ ADx P ops hs ⟨d2, op2, ty2, pos2, aft2, none⟩ c s K)) ∧
  (∀ (P : Program) (tab : Nat → Option TI) (hs : List Nat) (K : St → Prop) (i m j n k p : Nat) (a b c : Sc) (s : St) (l : List Oper), wdr P tab l.toArray hs K (.fkt i m j n k p a b c) s = ADft P l.toArray hs K m n p a b c s (opL l i) (opL l j) (opL l k)) ∧
  (∀ (P : Program) (ops : Array Oper) (hs : List Nat) (K : St → Prop) (m n p : Nat) (a b c : Sc) (s : St) (d d' d2 : Option Tmp) (op op' op2 : Op) (ty ty' ty2 : TypeId) (pos pos' pos2 : String) (aft aft' aft2 : Array Edge), ADft P ops hs K m n p a b c s (some ⟨d, op, ty, pos, aft, none⟩) (some ⟨d', op', ty', pos', aft', none⟩) (some ⟨d2, op2, ty2, pos2, aft2, none⟩) = (AArm P ops hs m ⟨d, op, ty, pos, aft, none⟩ a s K ∧ AArm P ops hs n ⟨d', op', ty', pos', aft', none⟩ b s K ∧ AArm P ops hs p ⟨d2, op2, ty2, pos2, aft2, none⟩ c s K)) := by
  refine ⟨?_, ?_, ?_, ?_, ?_, ?_, ?_, ?_, ?_, ?_, ?_, ?_, ?_, ?_, ?_, ?_, ?_, ?_, ?_, ?_, ?_, ?_, ?_, ?_, ?_⟩ <;> intros <;> first | rfl | (rw [wops]; done) | exact wops_cons | exact wops_consG | exact gval_L _ _ _ | (rw [wdr]; done) | (rw [wdr_cons, List.getElem?_toArray, opL_eq]; done) | (rw [wdr_fk, List.getElem?_toArray, List.getElem?_toArray, opL_eq, opL_eq]; done) | (rw [wdr_fkm, List.getElem?_toArray, List.getElem?_toArray, opL_eq, opL_eq]; done) | (rw [wdr_fkt, List.getElem?_toArray, List.getElem?_toArray, List.getElem?_toArray, opL_eq, opL_eq, opL_eq]; done) | (rw [wdr_fk3, List.getElem?_toArray, List.getElem?_toArray, List.getElem?_toArray, opL_eq, opL_eq, opL_eq]; done) | (cases ‹AV› <;> rfl) | (simp [pvPick2]; done) | (simp [idxS, pvSlice, pvSlice3, pvSl1, pvFA2]; done) | (rename_i a b; cases a <;> cases b <;> rfl) | (rename_i a b; simp only [pvPick2]; split <;> simp_all)
theorem ww1 : (∀ (P : Program) (tab : Nat → Option TI) (hs : List Nat) (K : St → Prop) (i m j n : Nat) (a b : Sc) (s : St) (l : List Oper), wdr P tab l.toArray hs K (.fkm i m j n a b) s = ADfm P l.toArray hs K m n a b s (opL l i) (opL l j)) ∧
  (∀ (P : Program) (ops : Array Oper) (hs : List Nat) (K : St → Prop) (m n : Nat) (a b : Sc) (s : St) (d d' : Option Tmp) (op op' : Op) (ty ty' : TypeId) (pos pos' : String) (aft aft' : Array Edge), ADfm P ops hs K m n a b s (some ⟨d, op, ty, pos, aft, none⟩) (some ⟨d', op', ty', pos', aft', none⟩) = (AArm P ops hs m ⟨d, op, ty, pos, aft, none⟩ a s K ∧ AArm P ops hs n ⟨d', op', ty', pos', aft', none⟩ b s K)) ∧
  (∀ (P : Program) (ops : Array Oper) (hs : List Nat) (K : St → Prop) (o : Oper) (sc : Sc) (s : St), AArm P ops hs 1 o sc s K = ADx P ops hs o sc s K) ∧
  (∀ (P : Program) (ops : Array Oper) (hs : List Nat) (K : St → Prop) (o : Oper) (sc : Sc) (s : St), AArm P ops hs 3 o sc s K = ADo P ops hs o sc s K) ∧
  (∀ (o : Oper) (r : List Oper), opL (o :: r) 0 = some o) ∧
  (∀ (o : Oper) (r : List Oper) (j : Nat), opL (o :: r) (j + 1) = opL r j) ∧
  (∀ (P : Program) (tab : Nat → Option TI) (ops : Array Oper) (hs : List Nat) (K : St → Prop) (r : Sc) (s : St) (d : Option Tmp) (op : Op) (ty : TypeId) (pos : String) (aft : Array Edge), wdi P tab ops hs K 0 r s (some ⟨d, op, ty, pos, aft, none⟩) = wdp P tab ops hs K d r s (pvo tab op s)) ∧
  (∀ (P : Program) (tab : Nat → Option TI) (ops : Array Oper) (hs : List Nat) (K : St → Prop) (r : Sc) (s : St) (d : Option Tmp) (op : Op) (ty : TypeId) (pos : String) (aft : Array Edge), wdi P tab ops hs K 1 r s (some ⟨d, op, ty, pos, aft, none⟩) = ADx P ops hs ⟨d, op, ty, pos, aft, none⟩ r s K) ∧
  (∀ (P : Program) (tab : Nat → Option TI) (ops : Array Oper) (hs : List Nat) (K : St → Prop) (r : Sc) (s : St) (d : Option Tmp) (op : Op) (ty : TypeId) (pos : String) (aft : Array Edge), wdi P tab ops hs K 3 r s (some ⟨d, op, ty, pos, aft, none⟩) = ADo P ops hs ⟨d, op, ty, pos, aft, none⟩ r s K) ∧
  (∀ (P : Program) (tab : Nat → Option TI) (ops : Array Oper) (hs : List Nat) (K : St → Prop) (r : Sc) (s : St) (d : Option Tmp) (op : Op) (ty : TypeId) (pos : String) (aft : Array Edge) (m j : Nat) (b : Bool), wdi P tab ops hs K m r s (some ⟨d, op, ty, pos, aft, some (j, b)⟩) = wdt P tab ops hs K m ⟨d, op, ty, pos, aft, some (j, b)⟩ r s (gdt (gval ops j s) b)) ∧
  (∀ (P : Program) (tab : Nat → Option TI) (ops : Array Oper) (hs : List Nat) (K : St → Prop) (r : Sc) (s : St) (d : Option Tmp) (op : Op) (ty : TypeId) (pos : String) (aft : Array Edge) (g : Option (Nat × Bool)), wdt P tab ops hs K 0 ⟨d, op, ty, pos, aft, g⟩ r s .skip = wdr P tab ops hs K r (s.put d (.v undef))) ∧
  (∀ (P : Program) (tab : Nat → Option TI) (ops : Array Oper) (hs : List Nat) (K : St → Prop) (r : Sc) (s : St) (d : Option Tmp) (op : Op) (ty : TypeId) (pos : String) (aft : Array Edge) (g : Option (Nat × Bool)), wdt P tab ops hs K 2 ⟨d, op, ty, pos, aft, g⟩ r s .skip = wdr P tab ops hs K r (s.put d (.v undef))) ∧
  (∀ (P : Program) (tab : Nat → Option TI) (ops : Array Oper) (hs : List Nat) (K : St → Prop) (r : Sc) (s : St) (d : Option Tmp) (op : Op) (ty : TypeId) (pos : String) (aft : Array Edge) (g : Option (Nat × Bool)), wdt P tab ops hs K 0 ⟨d, op, ty, pos, aft, g⟩ r s .run = wdp P tab ops hs K d r s (pvo tab op s)) ∧
  (∀ (P : Program) (tab : Nat → Option TI) (ops : Array Oper) (hs : List Nat) (K : St → Prop) (r : Sc) (s : St) (d : Option Tmp) (op : Op) (ty : TypeId) (pos : String) (aft : Array Edge) (g : Option (Nat × Bool)), wdt P tab ops hs K 2 ⟨d, op, ty, pos, aft, g⟩ r s .run = ADx P ops hs ⟨d, op, ty, pos, aft, none⟩ r s K) ∧
  (∀ (P : Program) (tab : Nat → Option TI) (ops : Array Oper) (hs : List Nat) (K : St → Prop) (d : Option Tmp) (r : Sc) (s : St) (x : AV), wdp P tab ops hs K d r s (.ok x) = wdr P tab ops hs K r (s.put d x)) ∧
  (∀ (P : Program) (tab : Nat → Option TI) (ops : Array Oper) (hs : List Nat) (K : St → Prop) (d : Option Tmp) (r : Sc) (s : St) (c : Prop) (f : c → AV), wdp P tab ops hs K d r s (.ex c f) = ∃ h : c, wdr P tab ops hs K r (s.put d (f h))) ∧
  (∀ (tab : Nat → Option TI) (d : Option Tmp) (s : St) (x : Operand), sop tab (.move x) d s = prS d s (.ok (s.eval x))) ∧
  (∀ (tab : Nat → Option TI) (s : St) (x : Operand), pvo tab (.move x) s = .ok (s.eval x)) ∧
  (∀ (tab : Nat → Option TI) (d : Option Tmp) (s : St) (x : Operand), sop tab (.assign x) d s = prS d s (.ok (s.eval x))) ∧
  (∀ (tab : Nat → Option TI) (s : St) (x : Operand), pvo tab (.assign x) s = .ok (s.eval x)) ∧
  (∀ (tab : Nat → Option TI) (d : Option Tmp) (s : St) (c x y : Operand), sop tab (.pick c x y) d s = prS d s (pvPick (s.eval c) (s.eval x) (s.eval y))) ∧
  (∀ (tab : Nat → Option TI) (s : St) (c x y : Operand), pvo tab (.pick c x y) s = pvPick (s.eval c) (s.eval x) (s.eval y)) ∧
  (∀ (tab : Nat → Option TI) (d : Option Tmp) (s : St) (b : BinOp) (t u : TypeId) (x y : Operand), sop tab (.binOp b t x y u) d s = prS d s (pvBin tab b t (s.eval x) (s.eval y))) ∧
  (∀ (tab : Nat → Option TI) (s : St) (b : BinOp) (t u : TypeId) (x y : Operand), pvo tab (.binOp b t x y u) s = pvBin tab b t (s.eval x) (s.eval y)) ∧
  (∀ (tab : Nat → Option TI) (d : Option Tmp) (s : St) (t : TypeId) (x : Operand), sop tab (.unOp .not t x) d s = prS d s (pvNot (s.eval x))) := by
  refine ⟨?_, ?_, ?_, ?_, ?_, ?_, ?_, ?_, ?_, ?_, ?_, ?_, ?_, ?_, ?_, ?_, ?_, ?_, ?_, ?_, ?_, ?_, ?_, ?_, ?_⟩ <;> intros <;> first | rfl | (rw [wops]; done) | exact wops_cons | exact wops_consG | exact gval_L _ _ _ | (rw [wdr]; done) | (rw [wdr_cons, List.getElem?_toArray, opL_eq]; done) | (rw [wdr_fk, List.getElem?_toArray, List.getElem?_toArray, opL_eq, opL_eq]; done) | (rw [wdr_fkm, List.getElem?_toArray, List.getElem?_toArray, opL_eq, opL_eq]; done) | (rw [wdr_fkt, List.getElem?_toArray, List.getElem?_toArray, List.getElem?_toArray, opL_eq, opL_eq, opL_eq]; done) | (rw [wdr_fk3, List.getElem?_toArray, List.getElem?_toArray, List.getElem?_toArray, opL_eq, opL_eq, opL_eq]; done) | (cases ‹AV› <;> rfl) | (simp [pvPick2]; done) | (simp [idxS, pvSlice, pvSlice3, pvSl1, pvFA2]; done) | (rename_i a b; cases a <;> cases b <;> rfl) | (rename_i a b; simp only [pvPick2]; split <;> simp_all)
theorem ww2 : (∀ (tab : Nat → Option TI) (s : St) (t : TypeId) (x : Operand), pvo tab (.unOp .not t x) s = pvNot (s.eval x)) ∧
  (∀ (tab : Nat → Option TI) (d : Option Tmp) (s : St) (t : TypeId) (x : Operand), sop tab (.unOp .neg t x) d s = prS d s (pvNeg (s.eval x))) ∧
  (∀ (tab : Nat → Option TI) (s : St) (t : TypeId) (x : Operand), pvo tab (.unOp .neg t x) s = pvNeg (s.eval x)) ∧
  (∀ (tab : Nat → Option TI) (d : Option Tmp) (s : St) (x : Operand) (i : Nat), sop tab (.extract x i) d s = prS d s (pvExtract i (s.eval x))) ∧
  (∀ (tab : Nat → Option TI) (s : St) (x : Operand) (i : Nat), pvo tab (.extract x i) s = pvExtract i (s.eval x)) ∧
  (∀ (tab : Nat → Option TI) (d : Option Tmp) (s : St) (t : TypeId) (x : Operand), sop tab (.load t x) d s = prS d s (pvLoad s.hp (tab t) (s.eval x))) ∧
  (∀ (tab : Nat → Option TI) (s : St) (t : TypeId) (x : Operand), pvo tab (.load t x) s = pvLoad s.hp (tab t) (s.eval x)) ∧
  (∀ (tab : Nat → Option TI) (d : Option Tmp) (s : St) (t : TypeId) (x : Operand) (f : Nat), sop tab (.fieldAddr t x f) d s = prS d s (pvFA f (tab t) (s.eval x))) ∧
  (∀ (tab : Nat → Option TI) (s : St) (t : TypeId) (x : Operand) (f : Nat), pvo tab (.fieldAddr t x f) s = pvFA f (tab t) (s.eval x)) ∧
  (∀ (tab : Nat → Option TI) (d : Option Tmp) (s : St) (t : TypeId) (x i : Operand), sop tab (.indexAddr t x i) d s = prS d s (pvIdx tab (tab t) (s.eval x) (s.eval i))) ∧
  (∀ (tab : Nat → Option TI) (s : St) (t : TypeId) (x i : Operand), pvo tab (.indexAddr t x i) s = pvIdx tab (tab t) (s.eval x) (s.eval i)) ∧
  (∀ (tab : Nat → Option TI) (d : Option Tmp) (s : St) (t : TypeId) (ps : Array (Nat × Operand)), sop tab (.build t ps) d s = prS d s (pvBuild tab (evParts s ps) (tab t))) ∧
  (∀ (tab : Nat → Option TI) (s : St) (t : TypeId) (ps : Array (Nat × Operand)), pvo tab (.build t ps) s = pvBuild tab (evParts s ps) (tab t)) ∧
  (∀ (tab : Nat → Option TI) (d : Option Tmp) (s : St) (x : Operand), sop tab (.nilCheck x) d s = prS d s (pvNil (s.eval x))) ∧
  (∀ (tab : Nat → Option TI) (s : St) (x : Operand), pvo tab (.nilCheck x) s = pvNil (s.eval x)) ∧
  (∀ (tab : Nat → Option TI) (d : Option Tmp) (s : St) (f : FuncId) (caps : Array Operand), sop tab (.makeFunc (.func f) #[] caps) d s = prS d s (pvFn f (evalL s caps) (AV.purL (evalL s caps)))) ∧
  (∀ (tab : Nat → Option TI) (s : St) (f : FuncId) (caps : Array Operand), pvo tab (.makeFunc (.func f) #[] caps) s = pvFn f (evalL s caps) (AV.purL (evalL s caps))) ∧
  (∀ (tab : Nat → Option TI) (d : Option Tmp) (s : St) (t : TypeId) (x : Operand) (lo hi : Option Operand), sop tab (.slice t x lo hi none) d s = prS d s (pvSlice s.hp tab (slE (tab t)) (s.eval x) (lo.map s.eval) (hi.map s.eval))) ∧
  (∀ (tab : Nat → Option TI) (s : St) (t : TypeId) (x : Operand) (lo hi : Option Operand), pvo tab (.slice t x lo hi none) s = pvSlice s.hp tab (slE (tab t)) (s.eval x) (lo.map s.eval) (hi.map s.eval)) ∧
  (∀ (tab : Nat → Option TI) (d : Option Tmp) (s : St) (t : TypeId) (x m : Operand) (lo hi : Option Operand), sop tab (.slice t x lo hi (some m)) d s = prS d s (pvSlice3 tab (slE (tab t)) (s.eval x) (lo.map s.eval) (hi.map s.eval) (some (s.eval m)))) ∧
  (∀ (tab : Nat → Option TI) (s : St) (t : TypeId) (x m : Operand) (lo hi : Option Operand), pvo tab (.slice t x lo hi (some m)) s = pvSlice3 tab (slE (tab t)) (s.eval x) (lo.map s.eval) (hi.map s.eval) (some (s.eval m))) ∧
  (∀ (tab : Nat → Option TI) (d : Option Tmp) (s : St) (x : Operand) (t : TypeId), sop tab (.call { callee := .builtin .len, args := #[x], argTypes := #[t] }) d s = prS d s (pvLen (tab t) (s.eval x))) ∧
  (∀ (tab : Nat → Option TI) (s : St) (x : Operand) (t : TypeId), pvo tab (.call { callee := .builtin .len, args := #[x], argTypes := #[t] }) s = pvLen (tab t) (s.eval x)) ∧
  (∀ (tab : Nat → Option TI) (d : Option Tmp) (s : St) (x y : Operand) (tys : Array TypeId), sop tab (.call { callee := .builtin .min, args := #[x, y], argTypes := tys }) d s = prS d s (int2 (fun a b => .ok (.int (min a b))) (s.eval x) (s.eval y))) ∧
  (∀ (tab : Nat → Option TI) (s : St) (x y : Operand) (tys : Array TypeId), pvo tab (.call { callee := .builtin .min, args := #[x, y], argTypes := tys }) s = int2 (fun a b => .ok (.int (min a b))) (s.eval x) (s.eval y)) := by
  refine ⟨?_, ?_, ?_, ?_, ?_, ?_, ?_, ?_, ?_, ?_, ?_, ?_, ?_, ?_, ?_, ?_, ?_, ?_, ?_, ?_, ?_, ?_, ?_, ?_, ?_⟩ <;> intros <;> first | rfl | (rw [wops]; done) | exact wops_cons | exact wops_consG | exact gval_L _ _ _ | (rw [wdr]; done) | (rw [wdr_cons, List.getElem?_toArray, opL_eq]; done) | (rw [wdr_fk, List.getElem?_toArray, List.getElem?_toArray, opL_eq, opL_eq]; done) | (rw [wdr_fkm, List.getElem?_toArray, List.getElem?_toArray, opL_eq, opL_eq]; done) | (rw [wdr_fkt, List.getElem?_toArray, List.getElem?_toArray, List.getElem?_toArray, opL_eq, opL_eq, opL_eq]; done) | (rw [wdr_fk3, List.getElem?_toArray, List.getElem?_toArray, List.getElem?_toArray, opL_eq, opL_eq, opL_eq]; done) | (cases ‹AV› <;> rfl) | (simp [pvPick2]; done) | (simp [idxS, pvSlice, pvSlice3, pvSl1, pvFA2]; done) | (rename_i a b; cases a <;> cases b <;> rfl) | (rename_i a b; simp only [pvPick2]; split <;> simp_all)
theorem ww3 : (∀ (tab : Nat → Option TI) (d : Option Tmp) (s : St) (x y : Operand) (tys : Array TypeId), sop tab (.call { callee := .builtin .max, args := #[x, y], argTypes := tys }) d s = prS d s (int2 (fun a b => .ok (.int (max a b))) (s.eval x) (s.eval y))) ∧
  (∀ (tab : Nat → Option TI) (s : St) (x y : Operand) (tys : Array TypeId), pvo tab (.call { callee := .builtin .max, args := #[x, y], argTypes := tys }) s = int2 (fun a b => .ok (.int (max a b))) (s.eval x) (s.eval y)) ∧
  (∀ (tab : Nat → Option TI) (d : Option Tmp) (s : St) (a b : TypeId) (x : Operand), sop tab (.convert a b x) d s = prS d s (pvConv (tab a) (tab b) (s.eval x))) ∧
  (∀ (tab : Nat → Option TI) (s : St) (a b : TypeId) (x : Operand), pvo tab (.convert a b x) s = pvConv (tab a) (tab b) (s.eval x)) ∧
  (∀ (tab : Nat → Option TI) (d : Option Tmp) (s : St) (t : TypeId) (p x : Operand), sop tab (.store t p x) d s = sStore s (s.eval x) d (tab t) (s.eval p)) ∧
  (∀ (tab : Nat → Option TI) (d : Option Tmp) (s : St) (e : TypeId), sop tab (.alloc e) d s = sAlloc s e d (tab e)) ∧
  (∀ (tab : Nat → Option TI) (d : Option Tmp) (s : St) (e : TypeId) (x : Operand), sop tab (.box e x) d s = sBox s e (s.eval x) d) ∧
  (∀ (tab : Nat → Option TI) (d : Option Tmp) (s : St) (t : TypeId) (len : Nat) (ps : Array (Nat × Operand)), sop tab (.buildSlice t len ps) d s = sBSe tab s len (evParts s ps) d (slE (tab t))) ∧
  (∀ (tab : Nat → Option TI) (d : Option Tmp) (s : St) (f : Operand) (args : Array Operand) (tys : Array TypeId), sop tab (.call { callee := .value f, args := args, argTypes := tys }) d s = .no) ∧
  (∀ (tab : Nat → Option TI) (d : Option Tmp) (s : St) (args : Array Operand) (tys : Array TypeId), sop tab (.call { callee := .builtin .append, args := args, argTypes := tys }) d s = .no) ∧
  (∀ (tab : Nat → Option TI) (d : Option Tmp) (s : St) (args : Array Operand) (tys : Array TypeId), sop tab (.call { callee := .builtin .copy, args := args, argTypes := tys }) d s = .no) ∧
  (∀ (tab : Nat → Option TI) (d : Option Tmp) (s : St) (args : Array Operand) (tys : Array TypeId), sop tab (.call { callee := .builtin .clear, args := args, argTypes := tys }) d s = .no) ∧
  (∀ (tab : Nat → Option TI) (d : Option Tmp) (s : St) (t : TypeId) (x y : Operand), sop tab (.makeSlice t x y) d s = .no) ∧
  (∀ (tab : Nat → Option TI) (d : Option Tmp) (s : St) (t : TypeId) (x : Operand) (f : Nat), sop tab (.field t x f) d s = .no) ∧
  (∀ (d : Option Tmp) (s : St) (x : AV), prS d s (.ok x) = .ok (s.put d x)) ∧
  (∀ (d : Option Tmp) (s : St) (c : Prop) (f : c → AV), prS d s (.ex c f) = .ex c fun h => s.put d (f h)) ∧
  (∀ (d : Option Tmp) (s : St), prS d s .no = .no) ∧
  (∀ (s : St) (x : AV) (id off : Nat) (i : TI), sStore s x none (some i) (.ptr id off) = stB i s id off x (hget s.hp id)) ∧
  (∀ (s : St) (x : AV) (id off : Nat) (T : TypeId) (cs : List AV) (fl : Bool) (ag : Bool) (n b : Nat) (z : List AV) (k : TKd), stB (⟨ag, n, b, z, k⟩ : TI) s id off x (some ⟨T, cs, fl⟩) = .ex ((okc x && allOne x.cells) = true ∧ x.cells.length = n ∧ off + n ≤ cs.length) fun _ => ⟨s.fr, hset s.hp id ⟨T, setAll cs off x.cells, fl⟩⟩) ∧
  (∀ (s : St) (e d : Nat) (ag : Bool) (n b : Nat) (z : List AV) (k : TKd), sAlloc s e (some d) (some ⟨ag, n, b, z, k⟩) = .ex (s.free d = true) fun _ => ⟨s.fr.set d (.ptr d 0), hset s.hp d ⟨e, z, true⟩⟩) ∧
  (∀ (s : St) (e d : Nat) (x : AV), sBox s e x (some d) = .ex ((s.free d && okc x && !AV.mentL d x.cells) = true) fun _ => ⟨s.fr.set d (.ptr d 0), hset s.hp d ⟨e, x.cells, true⟩⟩) ∧
  (∀ (tab : Nat → Option TI) (s : St) (len : Nat) (ps : List (Nat × AV)) (d : Option Tmp) (e : Nat), sBSe tab s len ps d (some e) = sBS s e len ps d (tab e)) ∧
  (∀ (s : St) (e d : Nat) (ag : Bool) (n b : Nat) (z : List AV) (k : TKd), sBS s e 0 [] (some d) (some ⟨ag, n, b, z, k⟩) = .ex (s.free d = true) fun _ => ⟨s.fr.set d (.sl n b d 0 0), hset s.hp d ⟨e, [], true⟩⟩) ∧
  (∀ (s : St) (e d l : Nat) (ps : List (Nat × AV)) (ag : Bool) (n b : Nat) (z : List AV) (k : TKd), sBS s e (l+1) ps (some d) (some ⟨ag, n, b, z, k⟩) = .ex (bsOk (l+1) n b ps = true) fun _ => s.put (some d) (.isl n b (ps.map (·.2)))) ∧
  (∀ (f : Int → Int → PR) (n m : Int), int2 f (.int n) (.int m) = f n m) := by
  refine ⟨?_, ?_, ?_, ?_, ?_, ?_, ?_, ?_, ?_, ?_, ?_, ?_, ?_, ?_, ?_, ?_, ?_, ?_, ?_, ?_, ?_, ?_, ?_, ?_, ?_⟩ <;> intros <;> first | rfl | (rw [wops]; done) | exact wops_cons | exact wops_consG | exact gval_L _ _ _ | (rw [wdr]; done) | (rw [wdr_cons, List.getElem?_toArray, opL_eq]; done) | (rw [wdr_fk, List.getElem?_toArray, List.getElem?_toArray, opL_eq, opL_eq]; done) | (rw [wdr_fkm, List.getElem?_toArray, List.getElem?_toArray, opL_eq, opL_eq]; done) | (rw [wdr_fkt, List.getElem?_toArray, List.getElem?_toArray, List.getElem?_toArray, opL_eq, opL_eq, opL_eq]; done) | (rw [wdr_fk3, List.getElem?_toArray, List.getElem?_toArray, List.getElem?_toArray, opL_eq, opL_eq, opL_eq]; done) | (cases ‹AV› <;> rfl) | (simp [pvPick2]; done) | (simp [idxS, pvSlice, pvSlice3, pvSl1, pvFA2]; done) | (rename_i a b; cases a <;> cases b <;> rfl) | (rename_i a b; simp only [pvPick2]; split <;> simp_all)
theorem ww4 : (∀ (tab : Nat → Option TI) (t : TypeId) (n m : Int), pvBin tab .lss t (.int n) (.int m) = .ok (.bool (decide (n < m)))) ∧
  (∀ (tab : Nat → Option TI) (t : TypeId) (n m : Int), pvBin tab .leq t (.int n) (.int m) = .ok (.bool (decide (n ≤ m)))) ∧
  (∀ (tab : Nat → Option TI) (t : TypeId) (n m : Int), pvBin tab .gtr t (.int n) (.int m) = .ok (.bool (decide (m < n)))) ∧
  (∀ (tab : Nat → Option TI) (t : TypeId) (n m : Int), pvBin tab .geq t (.int n) (.int m) = .ok (.bool (decide (m ≤ n)))) ∧
  (∀ (tab : Nat → Option TI) (t : TypeId) (n m : Int), pvBin tab .add t (.int n) (.int m) = .ex (-9223372036854775808 ≤ n + m ∧ n + m ≤ 9223372036854775807) fun _ => .int (n + m)) ∧
  (∀ (tab : Nat → Option TI) (t : TypeId) (n m : Int), pvBin tab .sub t (.int n) (.int m) = .ex (-9223372036854775808 ≤ n - m ∧ n - m ≤ 9223372036854775807) fun _ => .int (n - m)) ∧
  (∀ (tab : Nat → Option TI) (t : TypeId) (n m : Int), pvBin tab .mul t (.int n) (.int m) = .ex (-9223372036854775808 ≤ n * m ∧ n * m ≤ 9223372036854775807) fun _ => .int (n * m)) ∧
  (∀ (tab : Nat → Option TI) (t : TypeId) (n m : Int), pvBin tab .quo t (.int n) (.int m) = .ex (m ≠ 0 ∧ -9223372036854775808 ≤ n.tdiv m ∧ n.tdiv m ≤ 9223372036854775807) fun _ => .int (n.tdiv m)) ∧
  (∀ (tab : Nat → Option TI) (t : TypeId) (n m : Int), pvBin tab .rem t (.int n) (.int m) = .ex (m ≠ 0) fun _ => .int (n.tmod m)) ∧
  (∀ (tab : Nat → Option TI) (t : TypeId) (n m : Int), pvBin tab .and t (.int n) (.int m) = .ok (.int (bits .and .i64 n m))) ∧
  (∀ (tab : Nat → Option TI) (t : TypeId) (n m : Int), pvBin tab .or t (.int n) (.int m) = .ok (.int (bits .or .i64 n m))) ∧
  (∀ (tab : Nat → Option TI) (t : TypeId) (n m : Int), pvBin tab .xor t (.int n) (.int m) = .ok (.int (bits .xor .i64 n m))) ∧
  (∀ (tab : Nat → Option TI) (t : TypeId) (n m : Int), pvBin tab .andNot t (.int n) (.int m) = .ok (.int (bits .andNot .i64 n m))) ∧
  (∀ (tab : Nat → Option TI) (t : TypeId) (k k' : IntKind) (n m : Int), pvBin tab .shl t (.v (.int k n)) (.v (.int k' m)) = .ex ((0 ≤ m ∧ m ≤ kb k) ∧ rng k (n * 2 ^ m.toNat)) fun _ => .v (.int k (n * 2 ^ m.toNat))) ∧
  (∀ (tab : Nat → Option TI) (t : TypeId) (k k' : IntKind) (n m : Int), pvBin tab .shr t (.v (.int k n)) (.v (.int k' m)) = .ex (0 ≤ m ∧ m ≤ kb k) fun _ => .v (.int k (n / 2 ^ m.toNat))) ∧
  (∀ (n : Int), rng .i64 n = (-9223372036854775808 ≤ n ∧ n ≤ 9223372036854775807)) ∧
  (kb .i64 = 64) ∧
  (∀ (n : Int), rng .u64 n = (0 ≤ n ∧ n ≤ 18446744073709551615)) ∧
  (kb .u64 = 64) ∧
  (∀ (n : Int), rng .i32 n = (-2147483648 ≤ n ∧ n ≤ 2147483647)) ∧
  (kb .i32 = 32) ∧
  (∀ (n : Int), rng .u32 n = (0 ≤ n ∧ n ≤ 4294967295)) ∧
  (kb .u32 = 32) ∧
  (∀ (n : Int), rng .i16 n = (-32768 ≤ n ∧ n ≤ 32767)) ∧
  (kb .i16 = 16) := by
  refine ⟨?_, ?_, ?_, ?_, ?_, ?_, ?_, ?_, ?_, ?_, ?_, ?_, ?_, ?_, ?_, ?_, ?_, ?_, ?_, ?_, ?_, ?_, ?_, ?_, ?_⟩ <;> intros <;> first | rfl | (rw [wops]; done) | exact wops_cons | exact wops_consG | exact gval_L _ _ _ | (rw [wdr]; done) | (rw [wdr_cons, List.getElem?_toArray, opL_eq]; done) | (rw [wdr_fk, List.getElem?_toArray, List.getElem?_toArray, opL_eq, opL_eq]; done) | (rw [wdr_fkm, List.getElem?_toArray, List.getElem?_toArray, opL_eq, opL_eq]; done) | (rw [wdr_fkt, List.getElem?_toArray, List.getElem?_toArray, List.getElem?_toArray, opL_eq, opL_eq, opL_eq]; done) | (rw [wdr_fk3, List.getElem?_toArray, List.getElem?_toArray, List.getElem?_toArray, opL_eq, opL_eq, opL_eq]; done) | (cases ‹AV› <;> rfl) | (simp [pvPick2]; done) | (simp [idxS, pvSlice, pvSlice3, pvSl1, pvFA2]; done) | (rename_i a b; cases a <;> cases b <;> rfl) | (rename_i a b; simp only [pvPick2]; split <;> simp_all)
theorem ww5 : (∀ (n : Int), rng .u16 n = (0 ≤ n ∧ n ≤ 65535)) ∧
  (kb .u16 = 16) ∧
  (∀ (n : Int), rng .i8 n = (-128 ≤ n ∧ n ≤ 127)) ∧
  (kb .i8 = 8) ∧
  (∀ (n : Int), rng .u8 n = (0 ≤ n ∧ n ≤ 255)) ∧
  (kb .u8 = 8) ∧
  (∀ (n : Int), n / 2 ^ (1 : Int).toNat = n / 2) ∧
  (∀ (n : Int), n / 2 ^ (2 : Int).toNat = n / 4) ∧
  (∀ (ti : TI) (ag : Bool) (n b : Nat) (z : List AV) (k k' : IntKind) (m : Int), pvConv (some ti) (some ⟨ag, n, b, z, .int k⟩) (.v (.int k' m)) = .ex (rng k m) fun _ => .v (.int k m)) ∧
  (∀ (tab : Nat → Option TI) (t : TypeId) (x y : AV), pvBin tab .eql t x y = eqB false (tab t) x y) ∧
  (∀ (tab : Nat → Option TI) (t : TypeId) (x y : AV), pvBin tab .neq t x y = eqB true (tab t) x y) ∧
  (∀ (ti : Option TI) (n m : Int), eqB false ti (.int n) (.int m) = .ok (.bool (n == m))) ∧
  (∀ (ti : Option TI) (n m : Int), eqB true ti (.int n) (.int m) = .ok (.bool (n != m))) ∧
  (∀ (ng ag : Bool) (n b : Nat) (z : List AV) (x y : Bool), eqB ng (some ⟨ag, n, b, z, .bool⟩) (.bool x) (.bool y) = eqC ng (x == y)) ∧
  (∀ (ng ag : Bool) (n m : Nat) (z : List AV) (pl : List (Nat × Nat)) (a b c d : Int), eqB ng (some ⟨ag, n, m, z, .st pl true⟩) (.agg [.int a, .int b]) (.agg [.int c, .int d]) = eqC ng (a == c && b == d)) ∧
  (∀ (ng ag : Bool) (n m : Nat) (z : List AV) (N e : Nat) (a b c d : Int), eqB ng (some ⟨ag, n, m, z, .ar N e true⟩) (.agg [.int a, .int b]) (.agg [.int c, .int d]) = eqC ng (a == c && b == d)) ∧
  (∀ (ng : Bool) (ti : Option TI) (sz bw : Nat) (es : List AV) (A : Option Addr) (n c : Nat), eqB ng ti (.isl sz bw es) (.v (.slice A n c)) = .no) ∧
  (∀ (b : Bool), eqC false b = .ok (.bool b)) ∧
  (∀ (b : Bool), eqC true b = .ok (.bool (!b))) ∧
  (∀ (b : Bool), pvNot (.bool b) = .ok (.bool (!b))) ∧
  (∀ (n : Int), pvNeg (.int n) = .ex (-9223372036854775808 ≤ -n ∧ -n ≤ 9223372036854775807) fun _ => .int (-n)) ∧
  (∀ (b : Bool) (x y : AV), pvPick (.bool b) x y = pvPick2 b x y) ∧
  (∀ (x y : AV), pvPick2 true x y = .ok x) ∧
  (∀ (x y : AV), pvPick2 false x y = .ok y) ∧
  (∀ (b p q : Bool), pvPick2 b (.bool p) (.bool q) = .ok (.bool (if b then p else q))) := by
  refine ⟨?_, ?_, ?_, ?_, ?_, ?_, ?_, ?_, ?_, ?_, ?_, ?_, ?_, ?_, ?_, ?_, ?_, ?_, ?_, ?_, ?_, ?_, ?_, ?_, ?_⟩ <;> intros <;> first | rfl | (rw [wops]; done) | exact wops_cons | exact wops_consG | exact gval_L _ _ _ | (rw [wdr]; done) | (rw [wdr_cons, List.getElem?_toArray, opL_eq]; done) | (rw [wdr_fk, List.getElem?_toArray, List.getElem?_toArray, opL_eq, opL_eq]; done) | (rw [wdr_fkm, List.getElem?_toArray, List.getElem?_toArray, opL_eq, opL_eq]; done) | (rw [wdr_fkt, List.getElem?_toArray, List.getElem?_toArray, List.getElem?_toArray, opL_eq, opL_eq, opL_eq]; done) | (rw [wdr_fk3, List.getElem?_toArray, List.getElem?_toArray, List.getElem?_toArray, opL_eq, opL_eq, opL_eq]; done) | (cases ‹AV› <;> rfl) | (simp [pvPick2]; done) | (simp [idxS, pvSlice, pvSlice3, pvSl1, pvFA2]; done) | (rename_i a b; cases a <;> cases b <;> rfl) | (rename_i a b; simp only [pvPick2]; split <;> simp_all)
theorem ww6 : (∀ (c : AV), pvNth (some c) = .ok c) ∧
  (∀ (i : Nat) (cs : List AV), pvExtract i (.tup cs) = pvNth cs[i]?) ∧
  (∀ (hp : Hp) (i : TI) (id off : Nat), pvLoad hp (some i) (.ptr id off) = ldB i off (hget hp id)) ∧
  (∀ (hp : Hp) (i : TI) (cs : List AV), pvLoad hp (some i) (.iptr cs) = ldI i cs) ∧
  (∀ (n b : Nat) (z : List AV) (k : TKd) (off : Nat) (T : TypeId) (cs : List AV) (fl : Bool), ldB ⟨true, n, b, z, k⟩ off (some ⟨T, cs, fl⟩) = .ex (off + n ≤ cs.length) fun _ => .agg ((cs.drop off).take n)) ∧
  (∀ (n b : Nat) (z : List AV) (k : TKd) (off : Nat) (T : TypeId) (cs : List AV) (fl : Bool), ldB ⟨false, n, b, z, k⟩ off (some ⟨T, cs, fl⟩) = .ex (off < cs.length) fun h => cs[off]'h) ∧
  (∀ (n b : Nat) (z : List AV) (k : TKd) (cs : List AV), ldI ⟨true, n, b, z, k⟩ cs = .ex (n ≤ cs.length) fun _ => .agg (cs.take n)) ∧
  (∀ (n b : Nat) (z : List AV) (k : TKd) (cs : List AV), ldI ⟨false, n, b, z, k⟩ cs = .ex (0 < cs.length) fun h => cs[0]'h) ∧
  (∀ (f : Nat) (ag : Bool) (n b : Nat) (z : List AV) (pl : List (Nat × Nat)) (e : Bool) (x : AV), pvFA f (some ⟨ag, n, b, z, .st pl e⟩) x = pvFA2 x pl[f]?) ∧
  (∀ (id off o n : Nat), pvFA2 (.ptr id off) (some (o, n+1)) = .ok (.ptr id (off + o))) ∧
  (∀ (cs : List AV) (o n : Nat), pvFA2 (.iptr cs) (some (o, n+1)) = .ok (.iptr (cs.drop o))) ∧
  (∀ (tab : Nat → Option TI) (ag : Bool) (n b : Nat) (z : List AV) (e : Nat) (x : AV) (i : Int), pvIdx tab (some ⟨ag, n, b, z, .sl e⟩) x (.int i) = idxS (tab e) i x) ∧
  (∀ (tab : Nat → Option TI) (ag : Bool) (n b : Nat) (z : List AV) (N e : Nat) (i2 : Bool) (x : AV) (i : Int), pvIdx tab (some ⟨ag, n, b, z, .ar N e i2⟩) x (.int i) = idxA N (tab e) i x) ∧
  (∀ (ag : Bool) (sz b : Nat) (z : List AV) (k : TKd) (bw : Nat) (n : Int) (es : List AV), idxS (some ⟨ag, sz, b, z, k⟩) n (.isl sz bw es) = .ex (0 ≤ n ∧ n.toNat < es.length) fun h => .iptr (es[n.toNat]'h.2).cells) ∧
  (∀ (ag : Bool) (sz b : Nat) (z : List AV) (k : TKd) (bw id off len : Nat) (n : Int), idxS (some ⟨ag, sz, b, z, k⟩) n (.sl sz bw id off len) = .ex (0 ≤ n ∧ n.toNat < len) fun _ => .ptr id (off + n.toNat * sz)) ∧
  (∀ (N : Nat) (ag : Bool) (sz b : Nat) (z : List AV) (k : TKd) (n : Int) (id off : Nat), idxA N (some ⟨ag, sz, b, z, k⟩) n (.ptr id off) = .ex (0 ≤ n ∧ n.toNat < N) fun _ => .ptr id (off + n.toNat * sz)) ∧
  (∀ (N : Nat) (ag : Bool) (sz b : Nat) (z : List AV) (k : TKd) (n : Int) (cs : List AV), idxA N (some ⟨ag, sz, b, z, k⟩) n (.iptr cs) = .ex (0 ≤ n ∧ n.toNat < N) fun _ => .iptr (cs.drop (n.toNat * sz))) ∧
  (∀ (ag : Bool) (n b : Nat) (z : List AV) (e : Nat) (sz bw : Nat) (es : List AV), pvLen (some ⟨ag, n, b, z, .sl e⟩) (.isl sz bw es) = .ok (.int es.length)) ∧
  (∀ (ag : Bool) (n b : Nat) (z : List AV) (e : Nat) (sz bw id off m : Nat), pvLen (some ⟨ag, n, b, z, .sl e⟩) (.sl sz bw id off m) = .ok (.int m)) ∧
  (∀ (ag : Bool) (n b : Nat) (z : List AV) (e : Nat) (A : Option Addr) (m c : Nat), pvLen (some ⟨ag, n, b, z, .sl e⟩) (.v (.slice A m c)) = .ok (.int m)) ∧
  (∀ (tab : Nat → Option TI) (ps : List (Nat × AV)) (ag : Bool) (n b : Nat) (z : List AV) (pl : List (Nat × Nat)) (e : Bool), pvBuild tab ps (some ⟨ag, n, b, z, .st pl e⟩) = .ex (partsOk (fun i => pl[i]?) z.length ps = true) fun _ => .agg (fillA (fun i => (pl[i]?).map (·.1)) z ps)) ∧
  (∀ (tab : Nat → Option TI) (ps : List (Nat × AV)) (ag : Bool) (n b : Nat) (z : List AV) (N e : Nat) (i2 : Bool), pvBuild tab ps (some ⟨ag, n, b, z, .ar N e i2⟩) = pvBuildA ps z (tab e)) ∧
  (∀ (ps : List (Nat × AV)) (ag : Bool) (n b : Nat) (z w : List AV) (k : TKd), pvBuildA ps w (some ⟨ag, n, b, z, k⟩) = .ex (partsOk (fun k => some (k * n, n)) w.length ps = true) fun _ => .agg (fillA (fun k => some (k * n)) w ps)) ∧
  (∀ (i o : Nat), pvNil (.ptr i o) = .ok (.ptr i o)) ∧
  (∀ (cs : List AV), pvNil (.iptr cs) = .ok (.iptr cs)) := by
  refine ⟨?_, ?_, ?_, ?_, ?_, ?_, ?_, ?_, ?_, ?_, ?_, ?_, ?_, ?_, ?_, ?_, ?_, ?_, ?_, ?_, ?_, ?_, ?_, ?_, ?_⟩ <;> intros <;> first | rfl | (rw [wops]; done) | exact wops_cons | exact wops_consG | exact gval_L _ _ _ | (rw [wdr]; done) | (rw [wdr_cons, List.getElem?_toArray, opL_eq]; done) | (rw [wdr_fk, List.getElem?_toArray, List.getElem?_toArray, opL_eq, opL_eq]; done) | (rw [wdr_fkm, List.getElem?_toArray, List.getElem?_toArray, opL_eq, opL_eq]; done) | (rw [wdr_fkt, List.getElem?_toArray, List.getElem?_toArray, List.getElem?_toArray, opL_eq, opL_eq, opL_eq]; done) | (rw [wdr_fk3, List.getElem?_toArray, List.getElem?_toArray, List.getElem?_toArray, opL_eq, opL_eq, opL_eq]; done) | (cases ‹AV› <;> rfl) | (simp [pvPick2]; done) | (simp [idxS, pvSlice, pvSlice3, pvSl1, pvFA2]; done) | (rename_i a b; cases a <;> cases b <;> rfl) | (rename_i a b; simp only [pvPick2]; split <;> simp_all)
theorem ww7 : (∀ (f : FuncId) (cs : List AV), pvNil (.fn f cs) = .ok (.fn f cs)) ∧
  (∀ (f : FuncId) (cs : List AV), pvFn f cs true = if f ≤ 999999999 then .ok (.fn f cs) else .no) ∧
  (∀ (f : FuncId) (cs : List AV), pvFn f cs false = .no) ∧
  (∀ (ag : Bool) (n b : Nat) (z : List AV) (e : Nat), slE (some ⟨ag, n, b, z, .sl e⟩) = some e) ∧
  (∀ (hp : Hp) (tab : Nat → Option TI) (e sz bw : Nat) (es : List AV) (n : Int), pvSlice hp tab (some e) (.isl sz bw es) (some (.int n)) none = pvSl1 sz (tab e) (0 ≤ n ∧ n ≤ es.length) (.isl sz bw (es.drop n.toNat))) ∧
  (∀ (hp : Hp) (tab : Nat → Option TI) (e sz bw : Nat) (es : List AV) (n : Int), pvSlice hp tab (some e) (.isl sz bw es) none (some (.int n)) = pvSl1 sz (tab e) (0 ≤ n ∧ n ≤ es.length) (.isl sz bw (es.take n.toNat))) ∧
  (∀ (hp : Hp) (tab : Nat → Option TI) (e sz bw : Nat) (es : List AV) (n m : Int), pvSlice hp tab (some e) (.isl sz bw es) (some (.int n)) (some (.int m)) = pvSl1 sz (tab e) (0 ≤ n ∧ n ≤ m ∧ m ≤ es.length) (.isl sz bw ((es.take m.toNat).drop n.toNat))) ∧
  (∀ (hp : Hp) (tab : Nat → Option TI) (e sz bw id off k : Nat) (n : Int), pvSlice hp tab (some e) (.sl sz bw id off k) (some (.int n)) none = pvSl1 sz (tab e) (0 < sz ∧ 0 ≤ n ∧ n ≤ k) (slW sz bw id (off + n.toNat * sz) (k - n.toNat))) ∧
  (∀ (hp : Hp) (tab : Nat → Option TI) (e sz bw id off k : Nat) (n m : Int), pvSlice hp tab (some e) (.sl sz bw id off k) (some (.int n)) (some (.int m)) = pvSl1 sz (tab e) (0 < sz ∧ 0 ≤ n ∧ n ≤ m ∧ slRoom off (m.toNat * sz) (hget hp id) ∧ m.toNat * bw ≤ 140737488355328) (slW sz bw id (off + n.toNat * sz) (m.toNat - n.toNat))) ∧
  (∀ (tab : Nat → Option TI) (e sz bw id off k : Nat) (n m x : Int), pvSlice3 tab (some e) (.sl sz bw id off k) (some (.int n)) (some (.int m)) (some (.int x)) = pvSl1 sz (tab e) (0 ≤ n ∧ n ≤ m ∧ m ≤ x ∧ x ≤ k) .any) ∧
  (∀ (off k : Nat) (T : TypeId) (cs : List AV) (fl : Bool), slRoom off k (some ⟨T, cs, fl⟩) = (off + k ≤ cs.length)) ∧
  (∀ (hp : Hp) (tab : Nat → Option TI) (e sz bw id off k : Nat) (m : Int), pvSlice hp tab (some e) (.sl sz bw id off k) none (some (.int m)) = pvSl1 sz (tab e) (0 ≤ m ∧ m ≤ k) (.sl sz bw id off m.toNat)) ∧
  (∀ (ag : Bool) (sz b : Nat) (z : List AV) (k : TKd) (c : Prop) (x : AV), pvSl1 sz (some ⟨ag, sz, b, z, k⟩) c x = .ex c fun _ => x) ∧
  (∀ (P : Program) (tab : Nat → Option TI) (ops : Array Oper) (hs : List Nat) (K : St → Prop) (r : Sc) (s' : St), wdo P tab ops hs K r (.ok s') = wdr P tab ops hs K r s') ∧
  (∀ (P : Program) (tab : Nat → Option TI) (ops : Array Oper) (hs : List Nat) (K : St → Prop) (r : Sc) (c : Prop) (f : c → St), wdo P tab ops hs K r (.ex c f) = ∃ h : c, wdr P tab ops hs K r (f h)) := by
  refine ⟨?_, ?_, ?_, ?_, ?_, ?_, ?_, ?_, ?_, ?_, ?_, ?_, ?_, ?_, ?_⟩ <;> intros <;> first | rfl | (rw [wops]; done) | exact wops_cons | exact wops_consG | exact gval_L _ _ _ | (rw [wdr]; done) | (rw [wdr_cons, List.getElem?_toArray, opL_eq]; done) | (rw [wdr_fk, List.getElem?_toArray, List.getElem?_toArray, opL_eq, opL_eq]; done) | (rw [wdr_fkm, List.getElem?_toArray, List.getElem?_toArray, opL_eq, opL_eq]; done) | (rw [wdr_fkt, List.getElem?_toArray, List.getElem?_toArray, List.getElem?_toArray, opL_eq, opL_eq, opL_eq]; done) | (rw [wdr_fk3, List.getElem?_toArray, List.getElem?_toArray, List.getElem?_toArray, opL_eq, opL_eq, opL_eq]; done) | (cases ‹AV› <;> rfl) | (simp [pvPick2]; done) | (simp [idxS, pvSlice, pvSlice3, pvSl1, pvFA2]; done) | (rename_i a b; cases a <;> cases b <;> rfl) | (rename_i a b; simp only [pvPick2]; split <;> simp_all)
theorem ww : type_of% (And.intro ww0 (And.intro ww1 (And.intro ww2 (And.intro ww3 (And.intro ww4 (And.intro ww5 (And.intro ww6 ww7))))))) := And.intro ww0 (And.intro ww1 (And.intro ww2 (And.intro ww3 (And.intro ww4 (And.intro ww5 (And.intro ww6 ww7))))))
theorem nn0 : (∀ (p : Prop), (True ∧ p) = p) ∧
  (∀ (p : Prop), (p ∧ True) = p) ∧
  (∀ (n : Nat), (n ≤ n) = True) ∧
  (∀ (α : Type) (a : α), (a = a) = True) ∧
  (∀ (n : Nat), (0 ≤ (n : Int)) = True) ∧
  (∀ (n : Nat), (0 < n + 1) = True) ∧
  (∀ (α : Type) (a b : α) (l : List α), (a :: l).set 0 b = b :: l) ∧
  (∀ (α : Type) (a b : α) (l : List α) (n : Nat), (a :: l).set (n + 1) b = a :: l.set n b) ∧
  (∀ (α : Type) (a d : α) (l : List α), (a :: l).getD 0 d = a) ∧
  (∀ (α : Type) (a d : α) (l : List α) (n : Nat), (a :: l).getD (n + 1) d = l.getD n d) ∧
  (∀ (α : Type) (a : α) (l : List α), (a :: l)[0]? = some a) ∧
  (∀ (α : Type) (a : α) (l : List α) (n : Nat), (a :: l)[n + 1]? = l[n]?) ∧
  (∀ (α : Type) (a : α) (l : List α) (h : 0 < (a :: l).length), (a :: l)[0]'h = a) ∧
  (∀ (α : Type) (a : α) (l : List α) (n : Nat) (h : n + 1 < (a :: l).length), (a :: l)[n + 1]'h = l[n]'(Nat.lt_of_succ_lt_succ h)) ∧
  (∀ (α β : Type) (f : α → β) (l : List α) (n : Nat) (h : n < (l.map f).length), (l.map f)[n]'h = f (l[n]'(by simpa using h))) ∧
  (∀ (α β : Type) (f : α → β) (a : α) (l : List α), (a :: l).map f = f a :: l.map f) ∧
  (∀ (α β : Type) (f : α → β), ([] : List α).map f = []) ∧
  (∀ (α : Type) (l : List α), l.drop 0 = l) ∧
  (∀ (α : Type) (a : α) (l : List α) (n : Nat), (a :: l).drop (n + 1) = l.drop n) ∧
  (∀ (α : Type) (l : List α), l.take 0 = []) ∧
  (∀ (α : Type) (a : α) (l : List α) (n : Nat), (a :: l).take (n + 1) = a :: l.take n) ∧
  (∀ (n : Nat), 0 + n = n) ∧
  (∀ (n : Nat), n + 0 = n) ∧
  (∀ (n : Nat), n * 1 = n) ∧
  (∀ (n : Nat), 1 * n = n) ∧
  (∀ (n : Nat), 0 * n = 0) ∧
  (∀ (α β : Type) (f : α → β) (a : α), (some a).map f = some (f a)) ∧
  (∀ (α β : Type) (f : α → β), (none : Option α).map f = none) ∧
  (∀ (α : Type) (l : List α), l.toArray.toList = l) ∧
  ((!true) = false) := by
  refine ⟨?_, ?_, ?_, ?_, ?_, ?_, ?_, ?_, ?_, ?_, ?_, ?_, ?_, ?_, ?_, ?_, ?_, ?_, ?_, ?_, ?_, ?_, ?_, ?_, ?_, ?_, ?_, ?_, ?_, ?_⟩ <;> intros <;> first | rfl | (simp; done) | exact toNat_pred _ | exact toNat_succ _ | exact purge_ptr _ _ _ | exact purge_sl _ _ _ _ _ _ | exact purgeL_ints _ _ | exact purgeL_bools _ _ | (cases ‹Bool› <;> rfl) | (rename_i a b; cases a <;> cases b <;> rfl) | (simp [AV.ofVal]; done) | exact mentL_ints _ _ | exact mentL_bools _ _ | exact mentL_replicate _ _ _ | exact mentL_append _ _ _
theorem nn1 : ((!false) = true) ∧
  ((false = true) = False) ∧
  ((true = true) = True) ∧
  (∀ (α : Type) (a b : α), (if true = true then a else b) = a) ∧
  (∀ (α : Type) (a b : α), (if false = true then a else b) = b) ∧
  (∀ (α : Type) (a b : α), (if True then a else b) = a) ∧
  (∀ (α : Type) (a b : α), (if False then a else b) = b) ∧
  (∀ (b c : Bool), (if b = true then true else c) = (b || c)) ∧
  (∀ (b c : Bool), (if b = true then c else false) = (b && c)) ∧
  (∀ (n : Nat), (n : Int).toNat = n) ∧
  ((0 : Int).toNat = 0) ∧
  (∀ (k : Nat), ((k : Int) - 1).toNat = k - 1) ∧
  (∀ (k : Nat), ((k : Int) + 1).toNat = k + 1) ∧
  (∀ (α β : Type) (f : α → β) (l : List α), (l.map f).length = l.length) ∧
  (∀ (id : Nat), AV.purge id .any = .any) ∧
  (∀ (id : Nat) (x : Value), AV.purge id (.v x) = .v x) ∧
  (∀ (id a b : Nat) (es : List AV), AV.purge id (.isl a b es) = .isl a b es) ∧
  (∀ (id : Nat) (es : List AV), AV.purge id (.iptr es) = .iptr es) ∧
  (∀ (id i o : Nat), AV.purge id (.ptr i o) = if i = id then .any else .ptr i o) ∧
  (∀ (id a b i o n : Nat), AV.purge id (.sl a b i o n) = if i = id then .any else .sl a b i o n) ∧
  (∀ (α β : Type) (f : α → List β) (a : α) (l : List α), (a :: l).flatMap f = f a ++ l.flatMap f) ∧
  (∀ (α β : Type) (f : α → List β), ([] : List α).flatMap f = []) ∧
  (∀ (α : Type) (l : List α), l ++ [] = l) ∧
  (∀ (α : Type) (a : α) (l m : List α), a :: l ++ m = a :: (l ++ m)) ∧
  (∀ (α : Type) (l : List α), [] ++ l = l) ∧
  (∀ (α : Type) (a : α) (l : List α), (a :: l).length = l.length + 1) ∧
  (∀ (α : Type), ([] : List α).length = 0) ∧
  (∀ (α β : Type) (f : α → β) (l m : List α), (l ++ m).map f = l.map f ++ m.map f) ∧
  (∀ (α : Type) (l m : List α), (l ++ m).length = l.length + m.length) ∧
  (∀ (id : Nat) (xs : List Int), AV.purgeL id (xs.map AV.int) = xs.map AV.int) := by
  refine ⟨?_, ?_, ?_, ?_, ?_, ?_, ?_, ?_, ?_, ?_, ?_, ?_, ?_, ?_, ?_, ?_, ?_, ?_, ?_, ?_, ?_, ?_, ?_, ?_, ?_, ?_, ?_, ?_, ?_, ?_⟩ <;> intros <;> first | rfl | (simp; done) | exact toNat_pred _ | exact toNat_succ _ | exact purge_ptr _ _ _ | exact purge_sl _ _ _ _ _ _ | exact purgeL_ints _ _ | exact purgeL_bools _ _ | (cases ‹Bool› <;> rfl) | (rename_i a b; cases a <;> cases b <;> rfl) | (simp [AV.ofVal]; done) | exact mentL_ints _ _ | exact mentL_bools _ _ | exact mentL_replicate _ _ _ | exact mentL_append _ _ _
theorem nn2 : (∀ (id : Nat) (xs : List Bool), AV.purgeL id (xs.map AV.bool) = xs.map AV.bool) ∧
  (∀ (b : Bool), (true && b) = b) ∧
  (∀ (b : Bool), (false && b) = false) ∧
  (∀ (b : Bool), (b && true) = b) ∧
  (∀ (b : Bool), (b && false) = false) ∧
  (∀ (b : Bool), (true || b) = true) ∧
  (∀ (b : Bool), (false || b) = b) ∧
  (∀ (b : Bool), (b || true) = true) ∧
  (∀ (b : Bool), (b || false) = b) ∧
  (∀ (p : True → Prop), (∃ h : True, p h) = p trivial) ∧
  (∀ (s : St) (x : AV), s.put none x = s) ∧
  (∀ (f : List AV) (h : Hp) (d : Nat) (x : AV), St.put ⟨f, h⟩ (some d) x = ⟨f.set d x, h⟩) ∧
  (∀ (s : St) (t : Nat), s.eval (.tmp t) = s.fr.getD t .any) ∧
  (∀ (s : St) (x : Value), s.eval (.const x) = AV.ofVal x) ∧
  (∀ (s : St) (f : FuncId), f ≤ 999999999 → s.eval (.func f) = .fn f []) ∧
  (∀ (s : St) (ps : Array (Nat × Operand)), evParts s ps = ps.toList.map fun p => (p.1, s.eval p.2)) ∧
  (∀ (s : St) (args : Array Operand), evalL s args = args.toList.map s.eval) ∧
  (∀ (k : IntKind) (n : Int), AV.ofVal (.int k n) = .v (.int k n)) ∧
  (∀ (b : Bool), AV.ofVal (.bool b) = .v (.bool b)) ∧
  (∀ (A : Option Addr) (n c : Nat), AV.ofVal (.slice A n c) = .v (.slice A n c)) ∧
  (∀ (A : Option Addr), AV.ofVal (.pointer A) = .v (.pointer A)) ∧
  (∀ (l : List Value), AV.ofVal (.agg l.toArray) = .agg (l.map AV.v)) ∧
  (∀ (α : Type) (l m : List α), l.append m = l ++ m) ∧
  (∀ (id : Nat) (l : List AV), AV.purge id (.agg l) = if AV.mentL id l then .any else .agg l) ∧
  (∀ (id : Nat) (l : List AV), AV.purge id (.tup l) = if AV.mentL id l then .any else .tup l) ∧
  (∀ (id : Nat) (f : FuncId) (l : List AV), AV.purge id (.fn f l) = if AV.mentL id l then .any else .fn f l) ∧
  (∀ (f : List AV) (h : Hp) (id : Nat), id ≤ 999999999 → St.free ⟨f, h⟩ id = !(AV.mentL id f || mentHp id h)) ∧
  (∀ (id : Nat), AV.mentL id [] = false) ∧
  (∀ (id : Nat) (x : AV) (r : List AV), AV.mentL id (x :: r) = (AV.ment id x || AV.mentL id r)) ∧
  (∀ (id : Nat), AV.ment id .any = false) := by
  refine ⟨?_, ?_, ?_, ?_, ?_, ?_, ?_, ?_, ?_, ?_, ?_, ?_, ?_, ?_, ?_, ?_, ?_, ?_, ?_, ?_, ?_, ?_, ?_, ?_, ?_, ?_, ?_, ?_, ?_, ?_⟩ <;> intros <;> first | rfl | (simp; done) | exact toNat_pred _ | exact toNat_succ _ | exact purge_ptr _ _ _ | exact purge_sl _ _ _ _ _ _ | exact purgeL_ints _ _ | exact purgeL_bools _ _ | (cases ‹Bool› <;> rfl) | (rename_i a b; cases a <;> cases b <;> rfl) | (simp [AV.ofVal]; done) | exact mentL_ints _ _ | exact mentL_bools _ _ | exact mentL_replicate _ _ _ | exact mentL_append _ _ _ | (exact fnA_ok (by assumption)) | (rename_i hle; simp only [St.free, hle, decide_true, Bool.true_and])
theorem nn3 : (∀ (id : Nat) (x : Value), AV.ment id (.v x) = false) ∧
  (∀ (id a b : Nat) (es : List AV), AV.ment id (.isl a b es) = false) ∧
  (∀ (id : Nat) (es : List AV), AV.ment id (.iptr es) = false) ∧
  (∀ (id i o : Nat), AV.ment id (.ptr i o) = (i == id)) ∧
  (∀ (id a b i o n : Nat), AV.ment id (.sl a b i o n) = (i == id)) ∧
  (∀ (id : Nat) (cs : List AV), AV.ment id (.agg cs) = AV.mentL id cs) ∧
  (∀ (id : Nat) (cs : List AV), AV.ment id (.tup cs) = AV.mentL id cs) ∧
  (∀ (id : Nat) (f : FuncId) (cs : List AV), AV.ment id (.fn f cs) = AV.mentL id cs) ∧
  (∀ (id : Nat), mentHp id [] = false) ∧
  (∀ (id i : Nat) (b : Blk) (r : Hp), mentHp id ((i, b) :: r) = (i == id || AV.mentL id b.cs || mentHp id r)) ∧
  (∀ (id : Nat) (xs : List Int), AV.mentL id (xs.map AV.int) = false) ∧
  (∀ (id : Nat) (xs : List Bool), AV.mentL id (xs.map AV.bool) = false) ∧
  (∀ (id n : Nat) (x : Value), AV.mentL id (List.replicate n (.v x)) = false) ∧
  (∀ (id : Nat) (a b : List AV), AV.mentL id (a ++ b) = (AV.mentL id a || AV.mentL id b)) := by
  refine ⟨?_, ?_, ?_, ?_, ?_, ?_, ?_, ?_, ?_, ?_, ?_, ?_, ?_, ?_⟩ <;> intros <;> first | rfl | (simp; done) | exact toNat_pred _ | exact toNat_succ _ | exact purge_ptr _ _ _ | exact purge_sl _ _ _ _ _ _ | exact purgeL_ints _ _ | exact purgeL_bools _ _ | (cases ‹Bool› <;> rfl) | (rename_i a b; cases a <;> cases b <;> rfl) | (simp [AV.ofVal]; done) | exact mentL_ints _ _ | exact mentL_bools _ _ | exact mentL_replicate _ _ _ | exact mentL_append _ _ _
theorem nn : type_of% (And.intro nn0 (And.intro nn1 (And.intro nn2 nn3))) := (And.intro nn0 (And.intro nn1 (And.intro nn2 nn3)))
end Go.Ab

namespace Go.Ab
variable {P : Program}
def lkp : List (Nat × TI) → Nat → Option TI
  | [], _ => none
  | (i, x) :: r, t => if i = t then some x else lkp r t
def AllOk (P : Program) : List (Nat × TI) → Prop
  | [] => True
  | (t, i) :: r => TIOk P t i ∧ AllOk P r
theorem lkp_ok : ∀ {L : List (Nat × TI)} {t : Nat} {i : TI}, AllOk P L → lkp L t = some i → TIOk P t i
  | [], _, _, _, h => by cases h
  | (k, x) :: r, t, i, h, hl => by
    simp only [lkp] at hl
    split at hl
    · rename_i hk; subst hk; injection hl with hl; subst hl; exact h.1
    · exact lkp_ok h.2 hl
theorem tiok {t : TypeId} {d : TypeDesc} {z : Value} {n b : Nat} {ag : Bool} {zs : List AV} {k : TKd} (hu : TyU P t d) (hi : TyI P t z n b) (h1 : aggB d = ag) (h2 : (AV.ofVal z).cells = zs) (h3 : KOk P t d k) : TIOk P t ⟨ag, n, b, zs, k⟩ :=
  ⟨d, z, hu, hi, h1, h2, h3⟩
theorem kok_st {t : TypeId} {d : TypeDesc} {pl : List (Nat × Nat)} (h : TyF P t pl) : KOk P t d (.st pl false) := ⟨h, fun h => by cases h⟩
theorem kok_st2 {t : TypeId} {f1 f2 : Field} {k1 k2 : IntKind} {pl : List (Nat × Nat)} (h : TyF P t pl) (g1 : TyU P f1.type (.int k1)) (g2 : TyU P f2.type (.int k2)) (g3 : eq2Ok P t f1 f2 = true) : KOk P t (.struct #[f1, f2]) (.st pl true) :=
  ⟨h, fun _ => ⟨f1, f2, k1, k2, rfl, g1, g2, g3⟩⟩
end Go.Ab
namespace Go.Ab
open Go.RowKit
variable {P : Program}
theorem wops_id {tab : Nat → Option TI} {all : Array Oper} {K : St → Prop} {r : List Oper} {s : St} (h : wops P tab all K r s) : wops P tab all K r s := h
theorem wdr_id {tab : Nat → Option TI} {ops : Array Oper} {hs : List Nat} {K : St → Prop} {r : Sc} {s : St} (h : wdr P tab ops hs K r s) : wdr P tab ops hs K r s := h
theorem pcall_ofS {f : FuncId} {fn : Func} {c : Code} {args fr : List AV} {Q : AV → Prop} {n : Nat} {rs : Array ResultVar} (hf : P.funcs[f]? = some fn) (hb : fn.body = some c) (hn : fn.ntmps = n) (hrs : fn.results = rs)
    (he : args ++ List.replicate (n - args.length) .any = fr) (h : AW P c ⟨fr, []⟩ (Fin P rs Q)) : PCall P f args Q := pcall_of hf hb hn hrs (by rw [he]; exact h)
theorem ocall_ofS {f : FuncId} {fn : Func} {c : Code} {args fr : List AV} {ids : List Nat} {Q : AV → Hp → Prop} {n : Nat} {rs : Array ResultVar} (hf : P.funcs[f]? = some fn) (hb : fn.body = some c) (hn : fn.ntmps = n) (hrs : fn.results = rs)
    (he : args ++ List.replicate (n - args.length) .any = fr) (h : AW P c ⟨fr, []⟩ (OFin P rs ids Q)) : OCall P f args ids Q := ocall_of hf hb hn hrs (by rw [he]; exact h)
theorem ex_tt {c : Prop} {p : c → Prop} (hc : c) : (∃ h : c, p h) = p hc := propext ⟨fun ⟨_, k⟩ => k, fun k => ⟨hc, k⟩⟩
attribute [go_sem] ex_tt okc allOne AV.one Value.oneCell' ww nn hget hset setAll AV.cells fillA AV.purgeL purgeHp AV.pur AV.purL AV.sealP AV.sealPL sealPHp hdel XThen XBlock

/-! The rules with what they ask for found by tactics. -/
theorem regS {tab : Nat → Option TI} [hT : Tb P tab] {id : Nat} {l : List Oper} {s : St} {Q : Exit → St → Prop} {p : Prop}  (h : p) (e : wops P tab l.toArray (Q .normal) l s = p := by (first | (simp only [go_sem, Nat.reduceAdd, Nat.reduceMul, reduceIte, Nat.reduceEqDiff, Nat.reduceLeDiff, Int.reduceToNat, Int.reducePow, Int.reduceBEq, Int.reduceBNe, Int.reduceLT, Int.reduceLE, decide_true, decide_false]; exact rfl) | exact rfl)) (hd : noDef l = true := by rfl) : AW P (.region id l.toArray false) s Q := aw_reg (e ▸ h) hd
theorem wopsS {tab : Nat → Option TI} {all : Array Oper} {K : St → Prop} {r : List Oper} {s : St} {p : Prop}  (h : p) (e : wops P tab all K r s = p := by (first | (simp only [go_sem, Nat.reduceAdd, Nat.reduceMul, reduceIte, Nat.reduceEqDiff, Nat.reduceLeDiff, Int.reduceToNat, Int.reducePow, Int.reduceBEq, Int.reduceBNe, Int.reduceLT, Int.reduceLE, decide_true, decide_false]; exact rfl) | exact rfl)) : wops P tab all K r s := e ▸ h
theorem wdrS {tab : Nat → Option TI} {ops : Array Oper} {hs : List Nat} {K : St → Prop} {r : Sc} {s : St} {p : Prop}  (h : p) (e : wdr P tab ops hs K r s = p := by (first | (simp only [go_sem, Nat.reduceAdd, Nat.reduceMul, reduceIte, Nat.reduceEqDiff, Nat.reduceLeDiff, Int.reduceToNat, Int.reducePow, Int.reduceBEq, Int.reduceBNe, Int.reduceLT, Int.reduceLE, decide_true, decide_false]; exact rfl) | exact rfl)) : wdr P tab ops hs K r s := e ▸ h
theorem exN {c q : Prop}  (k : q) (h : c := by first | (show _ = true; exact rfl) | omega | exact ⟨rfl, rfl, by first | omega | (simp; done) | (simp; omega)⟩ | (simp; done) | (simp; omega) | (simp only [go_sem, Nat.reduceAdd, Nat.reduceMul, reduceIte, Nat.reduceEqDiff, Nat.reduceLeDiff, Int.reduceToNat, Int.reducePow, Int.reduceBEq, Int.reduceBNe, Int.reduceLT, Int.reduceLE, decide_true, decide_false]; omega) | (simp [*]; done) | (simp [*]; omega)) : ∃ _h : c, q := ⟨h, k⟩
theorem exS {c : Prop} {p : c → Prop}  (k : ∀ h, p h) (h : c := by first | (show _ = true; exact rfl) | omega | exact ⟨rfl, rfl, by first | omega | (simp; done) | (simp; omega)⟩ | (simp; done) | (simp; omega) | (simp only [go_sem, Nat.reduceAdd, Nat.reduceMul, reduceIte, Nat.reduceEqDiff, Nat.reduceLeDiff, Int.reduceToNat, Int.reducePow, Int.reduceBEq, Int.reduceBNe, Int.reduceLT, Int.reduceLE, decide_true, decide_false]; omega) | (simp [*]; done) | (simp [*]; omega)) : ∃ h, p h := ⟨h, k h⟩
theorem callS {tab : Nat → Option TI} [hT : Tb P tab] {all : Array Oper} {K : St → Prop} {r : List Oper} {s : St} {d : Option Tmp} {f : FuncId} {args : Array Operand} {tys : Array TypeId} {ty : TypeId} {pos : String} {aft : Array Edge} {x : AV} {p : Prop} [hc : TyC P f]
    (h : PCall P f (evalL s args) (fun y => y = x))   (k : p) (hp : AV.purL (evalL s args) = true := by rfl) (e : wops P tab all K r (s.put d x) = p := by (first | (simp only [go_sem, Nat.reduceAdd, Nat.reduceMul, reduceIte, Nat.reduceEqDiff, Nat.reduceLeDiff, Int.reduceToNat, Int.reducePow, Int.reduceBEq, Int.reduceBNe, Int.reduceLT, Int.reduceLE, decide_true, decide_false]; exact rfl) | exact rfl)) : AStk P all ⟨d, .call { callee := .value (.func f), args, argTypes := tys }, ty, pos, aft, none⟩ r s K :=
  stk_call h hp (e ▸ k)
theorem callD {tab : Nat → Option TI} [hT : Tb P tab] {ops : Array Oper} {hs : List Nat} {K : St → Prop} {r : Sc} {s : St} {d : Option Tmp} {f : FuncId} {args : Array Operand} {tys : Array TypeId} {ty : TypeId} {pos : String} {aft : Array Edge} {x : AV} {p : Prop} [hc : TyC P f]
    (h : PCall P f (evalL s args) (fun y => y = x))   (k : p) (hp : AV.purL (evalL s args) = true := by rfl) (e : wdr P tab ops hs K r (s.put d x) = p := by (first | (simp only [go_sem, Nat.reduceAdd, Nat.reduceMul, reduceIte, Nat.reduceEqDiff, Nat.reduceLeDiff, Int.reduceToNat, Int.reducePow, Int.reduceBEq, Int.reduceBNe, Int.reduceLT, Int.reduceLE, decide_true, decide_false]; exact rfl) | exact rfl)) : ADx P ops hs ⟨d, .call { callee := .value (.func f), args, argTypes := tys }, ty, pos, aft, none⟩ r s K :=
  adx_call h hp (e ▸ k)
theorem exitS {id : Nat} {s : St} {Q : Exit → St → Prop} {p : Prop}  (h : p) (e : Q (.exit id) s = p := by (first | (simp only [go_sem, Nat.reduceAdd, Nat.reduceMul, reduceIte, Nat.reduceEqDiff, Nat.reduceLeDiff, Int.reduceToNat, Int.reducePow, Int.reduceBEq, Int.reduceBNe, Int.reduceLT, Int.reduceLE, decide_true, decide_false]; exact rfl) | exact rfl)) : AW P (.exit id) s Q := aw_exit (e ▸ h)
theorem retS {s : St} {Q : Exit → St → Prop} {p : Prop}  (h : p) (e : Q .ret s = p := by (first | (simp only [go_sem, Nat.reduceAdd, Nat.reduceMul, reduceIte, Nat.reduceEqDiff, Nat.reduceLeDiff, Int.reduceToNat, Int.reducePow, Int.reduceBEq, Int.reduceBNe, Int.reduceLT, Int.reduceLE, decide_true, decide_false]; exact rfl) | exact rfl)) : AW P .ret s Q := aw_ret (e ▸ h)
theorem skipS {s : St} {Q : Exit → St → Prop} {p : Prop}  (h : p) (e : Q .normal s = p := by (first | (simp only [go_sem, Nat.reduceAdd, Nat.reduceMul, reduceIte, Nat.reduceEqDiff, Nat.reduceLeDiff, Int.reduceToNat, Int.reducePow, Int.reduceBEq, Int.reduceBNe, Int.reduceLT, Int.reduceLE, decide_true, decide_false]; exact rfl) | exact rfl)) : AW P .skip s Q := aw_skip (e ▸ h)
theorem guardS {tab : Nat → Option TI} {all : Array Oper} {K : St → Prop} {o : Oper} {r : List Oper} {s : St} {c b : Bool} {p1 p2 q1 q2 : Prop}
     
      (k1 : q1 → p1) (k2 : q2 → p2) (e1 : c = true → wgd P tab all K o r s (gdt (.bool c) b) = p1 := by (intro hc; first | (simp only [hc, go_sem, Nat.reduceAdd, Nat.reduceMul, reduceIte, Nat.reduceEqDiff, Nat.reduceLeDiff, Int.reduceToNat, Int.reducePow, Int.reduceBEq, Int.reduceBNe, Int.reduceLT, Int.reduceLE, decide_true, decide_false]; exact rfl) | exact rfl)) (e2 : c = false → wgd P tab all K o r s (gdt (.bool c) b) = p2 := by (intro hc; first | (simp only [hc, go_sem, Nat.reduceAdd, Nat.reduceMul, reduceIte, Nat.reduceEqDiff, Nat.reduceLeDiff, Int.reduceToNat, Int.reducePow, Int.reduceBEq, Int.reduceBNe, Int.reduceLT, Int.reduceLE, decide_true, decide_false]; exact rfl) | exact rfl)) (f1 : (c = true) = q1 := by (first | (simp only [go_sem, decide_eq_true_eq, decide_eq_false_iff_not, Int.not_lt, Int.not_le, beq_iff_eq, bne_iff_ne, ne_eq, beq_eq_false_iff_ne, bne_eq_false_iff_eq, Decidable.not_not, Bool.not_eq_true', Bool.not_eq_false', decide_true, Bool.true_and, Bool.and_true, Bool.false_or, Bool.or_false, Bool.and_eq_true, Bool.or_eq_true, Bool.and_eq_false_iff, Bool.or_eq_false_iff]; exact rfl) | exact rfl)) (f2 : (c = false) = q2 := by (first | (simp only [go_sem, decide_eq_true_eq, decide_eq_false_iff_not, Int.not_lt, Int.not_le, beq_iff_eq, bne_iff_ne, ne_eq, beq_eq_false_iff_ne, bne_eq_false_iff_eq, Decidable.not_not, Bool.not_eq_true', Bool.not_eq_false', decide_true, Bool.true_and, Bool.and_true, Bool.false_or, Bool.or_false, Bool.and_eq_true, Bool.or_eq_true, Bool.and_eq_false_iff, Bool.or_eq_false_iff]; exact rfl) | exact rfl)) : wgd P tab all K o r s (gdt (.bool c) b) :=
  wgd_split (fun hc => e1 hc ▸ k1 (f1 ▸ hc)) (fun hc => e2 hc ▸ k2 (f2 ▸ hc))
theorem guardD {tab : Nat → Option TI} {ops : Array Oper} {hs : List Nat} {K : St → Prop} {m : Nat} {o : Oper} {r : Sc} {s : St} {c b : Bool} {p1 p2 q1 q2 : Prop}
     
      (k1 : q1 → p1) (k2 : q2 → p2) (e1 : c = true → wdt P tab ops hs K m o r s (gdt (.bool c) b) = p1 := by (intro hc; first | (simp only [hc, go_sem, Nat.reduceAdd, Nat.reduceMul, reduceIte, Nat.reduceEqDiff, Nat.reduceLeDiff, Int.reduceToNat, Int.reducePow, Int.reduceBEq, Int.reduceBNe, Int.reduceLT, Int.reduceLE, decide_true, decide_false]; exact rfl) | exact rfl)) (e2 : c = false → wdt P tab ops hs K m o r s (gdt (.bool c) b) = p2 := by (intro hc; first | (simp only [hc, go_sem, Nat.reduceAdd, Nat.reduceMul, reduceIte, Nat.reduceEqDiff, Nat.reduceLeDiff, Int.reduceToNat, Int.reducePow, Int.reduceBEq, Int.reduceBNe, Int.reduceLT, Int.reduceLE, decide_true, decide_false]; exact rfl) | exact rfl)) (f1 : (c = true) = q1 := by (first | (simp only [go_sem, decide_eq_true_eq, decide_eq_false_iff_not, Int.not_lt, Int.not_le, beq_iff_eq, bne_iff_ne, ne_eq, beq_eq_false_iff_ne, bne_eq_false_iff_eq, Decidable.not_not, Bool.not_eq_true', Bool.not_eq_false', decide_true, Bool.true_and, Bool.and_true, Bool.false_or, Bool.or_false, Bool.and_eq_true, Bool.or_eq_true, Bool.and_eq_false_iff, Bool.or_eq_false_iff]; exact rfl) | exact rfl)) (f2 : (c = false) = q2 := by (first | (simp only [go_sem, decide_eq_true_eq, decide_eq_false_iff_not, Int.not_lt, Int.not_le, beq_iff_eq, bne_iff_ne, ne_eq, beq_eq_false_iff_ne, bne_eq_false_iff_eq, Decidable.not_not, Bool.not_eq_true', Bool.not_eq_false', decide_true, Bool.true_and, Bool.and_true, Bool.false_or, Bool.or_false, Bool.and_eq_true, Bool.or_eq_true, Bool.and_eq_false_iff, Bool.or_eq_false_iff]; exact rfl) | exact rfl)) : wdt P tab ops hs K m o r s (gdt (.bool c) b) :=
  wdt_split (fun hc => e1 hc ▸ k1 (f1 ▸ hc)) (fun hc => e2 hc ▸ k2 (f2 ▸ hc))
theorem condS {c : Operand} {x y : Code} {s s1 s2 : St} {Q : Exit → St → Prop} {b : Bool} {q1 q2 : Prop}   
      (k1 : q1 → AW P x s1 Q) (k2 : q2 → AW P y s2 Q) (hc : s.eval c = .bool b := by rfl) (e1 : b = true → s = s1 := by (intro hc; first | (simp only [hc, go_sem, Nat.reduceAdd, Nat.reduceMul, reduceIte, Nat.reduceEqDiff, Nat.reduceLeDiff, Int.reduceToNat, Int.reducePow, Int.reduceBEq, Int.reduceBNe, Int.reduceLT, Int.reduceLE, decide_true, decide_false]; exact rfl) | exact rfl)) (e2 : b = false → s = s2 := by (intro hc; first | (simp only [hc, go_sem, Nat.reduceAdd, Nat.reduceMul, reduceIte, Nat.reduceEqDiff, Nat.reduceLeDiff, Int.reduceToNat, Int.reducePow, Int.reduceBEq, Int.reduceBNe, Int.reduceLT, Int.reduceLE, decide_true, decide_false]; exact rfl) | exact rfl)) (f1 : (b = true) = q1 := by (first | (simp only [go_sem, decide_eq_true_eq, decide_eq_false_iff_not, Int.not_lt, Int.not_le, beq_iff_eq, bne_iff_ne, ne_eq, beq_eq_false_iff_ne, bne_eq_false_iff_eq, Decidable.not_not, Bool.not_eq_true', Bool.not_eq_false', decide_true, Bool.true_and, Bool.and_true, Bool.false_or, Bool.or_false, Bool.and_eq_true, Bool.or_eq_true, Bool.and_eq_false_iff, Bool.or_eq_false_iff]; exact rfl) | exact rfl)) (f2 : (b = false) = q2 := by (first | (simp only [go_sem, decide_eq_true_eq, decide_eq_false_iff_not, Int.not_lt, Int.not_le, beq_iff_eq, bne_iff_ne, ne_eq, beq_eq_false_iff_ne, bne_eq_false_iff_eq, Decidable.not_not, Bool.not_eq_true', Bool.not_eq_false', decide_true, Bool.true_and, Bool.and_true, Bool.false_or, Bool.or_false, Bool.and_eq_true, Bool.or_eq_true, Bool.and_eq_false_iff, Bool.or_eq_false_iff]; exact rfl) | exact rfl)) : AW P (.cond c x y) s Q :=
  aw_cond hc (fun h => by have := e1 h; subst this; exact k1 (f1 ▸ h)) (fun h => by have := e2 h; subst this; exact k2 (f2 ▸ h))
theorem condT {c : Operand} {x y : Code} {s : St} {Q : Exit → St → Prop}  (h : AW P x s Q) (hc : s.eval c = .bool true := by rfl) : AW P (.cond c x y) s Q := aw_condT hc h
theorem condF {c : Operand} {x y : Code} {s : St} {Q : Exit → St → Prop}  (h : AW P y s Q) (hc : s.eval c = .bool false := by rfl) : AW P (.cond c x y) s Q := aw_condF hc h
theorem drS {tab : Nat → Option TI} [hT : Tb P tab] {id : Nat} {l : List Oper} {s : St} {Q : Exit → St → Prop} {p : Prop} (sc : Sc) (hs : List Nat)
    
     (h : p) (hok : (P.follows .mixedOrders && schedFast l hs sc) = true := by kernel_rfl) (e : wdr P tab l.toArray hs (Q .normal) sc s = p := by (first | (simp only [go_sem, Nat.reduceAdd, Nat.reduceMul, reduceIte, Nat.reduceEqDiff, Nat.reduceLeDiff, Int.reduceToNat, Int.reducePow, Int.reduceBEq, Int.reduceBNe, Int.reduceLT, Int.reduceLE, decide_true, decide_false]; exact rfl) | exact rfl)) (hd : noDef l = true := by rfl) : AW P (.region id l.toArray true) s Q := aw_dr sc hs hok (e ▸ h) hd
/-- A region whose ways all end in one state. -/
theorem aw_endE {c : Code} {s s1 : St} {Q : Exit → St → Prop} (h : AW P c s (fun e s' => e = .normal ∧ Le s' s1)) (k : Q .normal s1) : AW P c s Q :=
  fun ro ho R β G a w hr => wpIn_mono (h ro ho R β G a w hr) (fun e a' w' ⟨β', G', s', ⟨he, hle⟩, hr'⟩ => by
    subst he
    obtain ⟨β2, G2, hr2⟩ := hle R β' G' a' w' hr'
    exact ⟨β2, G2, s1, k, hr2⟩)
theorem drE {tab : Nat → Option TI} [hT : Tb P tab] {id : Nat} {l : List Oper} {s s1 : St} {Q : Exit → St → Prop} {p : (St → Prop) → Prop} (sc : Sc) (hs : List Nat)
     (h : p (fun s' => Le s' s1)) (k : Q .normal s1) (hok : (P.follows .mixedOrders && schedFast l hs sc) = true := by kernel_rfl) (e : ∀ K : St → Prop, wdr P tab l.toArray hs K sc s = p K := by (intro K; (first | (simp only [go_sem, Nat.reduceAdd, Nat.reduceMul, reduceIte, Nat.reduceEqDiff, Nat.reduceLeDiff, Int.reduceToNat, Int.reducePow, Int.reduceBEq, Int.reduceBNe, Int.reduceLT, Int.reduceLE, decide_true, decide_false]; exact rfl) | exact rfl))) (hd : noDef l = true := by rfl) : AW P (.region id l.toArray true) s Q :=
  aw_endE (s1 := s1) (aw_mono (aw_dr (Q := fun e s' => e = .normal ∧ Le s' s1) sc hs hok (by
    have h2 : wdr P tab l.toArray hs (fun s' => Le s' s1) sc s := e _ ▸ h
    have : (fun s' => Le s' s1) = (fun s' => Exit.normal = Exit.normal ∧ Le s' s1) := by funext s'; simp
    rw [this] at h2
    exact h2) hd) (fun _ _ h => h)) k
theorem enterS {f : FuncId} {fn : Func} {c : Code} {args fr : List AV} {Q : AV → Prop} {n : Nat} {rs : Array ResultVar} (hf : P.funcs[f]? = some fn) (hn : fn.ntmps = n)  
     (h : AW P c ⟨fr, []⟩ (Fin P rs Q)) (hb : fn.body = some c := by rfl) (hrs : fn.results = rs := by rfl) (he : args ++ List.replicate (n - args.length) .any = fr := by simp only [go_sem, Nat.reduceAdd, Nat.reduceSub, List.replicate_succ, List.replicate_zero]; exact rfl) : PCall P f args Q := pcall_of hf hb hn hrs (by rw [he]; exact h)
theorem enterO {f : FuncId} {fn : Func} {c : Code} {args fr : List AV} {ids : List Nat} {Q : AV → Hp → Prop} {n : Nat} {rs : Array ResultVar} (hf : P.funcs[f]? = some fn) (hn : fn.ntmps = n)  
     (h : AW P c ⟨fr, []⟩ (OFin P rs ids Q)) (hb : fn.body = some c := by rfl) (hrs : fn.results = rs := by rfl) (he : args ++ List.replicate (n - args.length) .any = fr := by simp only [go_sem, Nat.reduceAdd, Nat.reduceSub, List.replicate_succ, List.replicate_zero]; exact rfl) : OCall P f args ids Q := ocall_of hf hb hn hrs (by rw [he]; exact h)
/-! Guards: the goal is of this form. -/
theorem gL {s s' : St} (h : Le s s') : Le s s' := h
theorem gRx {id : Nat} {ops : Array Oper} {d : Bool} {s : St} {Q : Exit → St → Prop} (k : Nat) (_hk : (id == k) = false) (h : AW P (.region id ops d) s Q) : AW P (.region id ops d) s Q := h
theorem gR {id : Nat} {l : Array Oper} {s : St} {Q : Exit → St → Prop} (h : AW P (.region id l false) s Q) : AW P (.region id l false) s Q := h
theorem gD (id : Nat) {l : Array Oper} {s : St} {Q : Exit → St → Prop} (h : AW P (.region id l true) s Q) : AW P (.region id l true) s Q := h
theorem gE {c : Prop} {p : c → Prop} (h : ∃ x, p x) : ∃ x, p x := h
theorem gC (f : FuncId) {all : Array Oper} {K : St → Prop} {r : List Oper} {s : St} {d : Option Tmp} {args : Array Operand} {tys : Array TypeId} {ty : TypeId} {pos : String} {aft : Array Edge} {g : Option (Nat × Bool)}
    (h : AStk P all ⟨d, .call { callee := .value (.func f), args, argTypes := tys }, ty, pos, aft, g⟩ r s K) : AStk P all ⟨d, .call { callee := .value (.func f), args, argTypes := tys }, ty, pos, aft, g⟩ r s K := h
theorem gCd (f : FuncId) {ops : Array Oper} {hs : List Nat} {K : St → Prop} {r : Sc} {s : St} {d : Option Tmp} {args : Array Operand} {tys : Array TypeId} {ty : TypeId} {pos : String} {aft : Array Edge} {g : Option (Nat × Bool)}
    (h : ADx P ops hs ⟨d, .call { callee := .value (.func f), args, argTypes := tys }, ty, pos, aft, g⟩ r s K) : ADx P ops hs ⟨d, .call { callee := .value (.func f), args, argTypes := tys }, ty, pos, aft, g⟩ r s K := h
theorem gW {tab : Nat → Option TI} {all : Array Oper} {K : St → Prop} {r : List Oper} {s : St} (h : wops P tab all K r s) : wops P tab all K r s := h
theorem gWd {tab : Nat → Option TI} {ops : Array Oper} {hs : List Nat} {K : St → Prop} {r : Sc} {s : St} (h : wdr P tab ops hs K r s) : wdr P tab ops hs K r s := h
theorem gG {tab : Nat → Option TI} {all : Array Oper} {K : St → Prop} {o : Oper} {r : List Oper} {s : St} {x : GT} (h : wgd P tab all K o r s x) : wgd P tab all K o r s x := h
theorem gGd {tab : Nat → Option TI} {ops : Array Oper} {hs : List Nat} {K : St → Prop} {m : Nat} {o : Oper} {r : Sc} {s : St} {x : GT} (h : wdt P tab ops hs K m o r s x) : wdt P tab ops hs K m o r s x := h
theorem gQ {c : Operand} {x y : Code} {s : St} {Q : Exit → St → Prop} (h : AW P (.cond c x y) s Q) : AW P (.cond c x y) s Q := h
theorem gX {id : Nat} {s : St} {Q : Exit → St → Prop} (h : AW P (.exit id) s Q) : AW P (.exit id) s Q := h
theorem gT {s : St} {Q : Exit → St → Prop} (h : AW P .ret s Q) : AW P .ret s Q := h
theorem gS {s : St} {Q : Exit → St → Prop} (h : AW P .skip s Q) : AW P .skip s Q := h
theorem hsub_has {i : Nat} {b : Blk} {l l' : Hp} (hn : hget l i = some b) (h : hsub l l') : hsub l ((i, b) :: l') := by
  intro k c hk
  simp only [hget] at hk
  split at hk
  · rename_i hik
    subst hik
    injection hk with hk
    subst hk
    exact hn
  · exact h k c hk
theorem weakS {f f' : List AV} {h h' : Hp} (hf : WeakL f f' := by (repeat (first | exact .nil | refine .drop ?_ | refine .keep ?_))) (hh : hsub h h' := by first | exact hsub_refl _ | ((repeat refine hsub_has (by rfl) ?_); exact hsub_nil _)) : Le ⟨f, h⟩ ⟨f', h'⟩ := le_weak hf hh
/-! The same, where blocks and slots are equal by a proof. -/
theorem hsub_hasE {i : Nat} {T : TypeId} {cs cs' : List AV} {fl : Bool} {l l' : Hp} (hn : hget l i = some ⟨T, cs, fl⟩) (hc : cs = cs') (h : hsub l l') : hsub l ((i, ⟨T, cs', fl⟩) :: l') := by
  subst hc; exact hsub_has hn h
/-! What is known of the lengths of all slices within a value. -/
inductive Sub : AV → AV → Prop
  | refl {x : AV} : Sub x x
  | agg {cs : List AV} {c z : AV} (hc : c ∈ cs) (h : Sub c z) : Sub (.agg cs) z
  | iptr {cs : List AV} {c z : AV} (hc : c ∈ cs) (h : Sub c z) : Sub (.iptr cs) z
  | isl {sz bw : Nat} {es : List AV} {e c z : AV} (he : e ∈ es) (hc : c ∈ e.cells) (h : Sub c z) : Sub (.isl sz bw es) z
theorem mem_pair {α β : Type} {xs : List α} {ys : List β} (hl : xs.length = ys.length) {x : α} (h : x ∈ xs) : ∃ (j : Nat) (y : β), xs[j]? = some x ∧ ys[j]? = some y := by
  obtain ⟨j, hj, rfl⟩ := List.getElem_of_mem h
  exact ⟨j, ys[j]'(by omega), by simp, by simp⟩
theorem conc_sub {G : Seal} {x z : AV} (h : Sub x z) : ∀ {β : Ids} {y : Value}, Conc G β x y → ∃ β' y', Conc G β' z y' := by
  induction h with
  | refl => intro β y hy; exact ⟨β, y, hy⟩
  | agg hc _ ih =>
    intro β y hy
    cases hy with
    | agg xs hl hs =>
      obtain ⟨j, y', h1, h2⟩ := mem_pair hl hc
      exact ih (hs j _ _ h1 h2)
  | iptr hc _ ih =>
    intro β y hy
    cases hy with
    | iptr ys hl hr hs =>
      obtain ⟨j, y', h1, h2⟩ := mem_pair hl.symm hc
      exact ih (hs j _ _ h1 h2)
  | isl he hc _ ih =>
    intro β y hy
    cases hy with
    | isl ys hu hl hc' hb hA hr hs =>
      have hm := List.mem_flatMap.2 ⟨_, he, hc⟩
      obtain ⟨j, y', h1, h2⟩ := mem_pair (ys := ys) (by rw [flat_len hu]; exact hl.symm) hm
      exact ih (hs j _ _ h1 h2)
theorem aw_reach {c : Code} {s : St} {Q : Exit → St → Prop} {i : Nat} {x : AV} (hx : s.fr[i]? = some x) (h : (∀ sz bw es, Sub x (.isl sz bw es) → es.length * bw ≤ 140737488355328) → AW P c s Q) : AW P c s Q := by
  intro ro ho R β G a w hr
  have hlt : i < a.tmps.size := by rw [hr.size]; exact lt_of_get hx
  have hc := hr.fr i _ _ hx (Array.getElem?_eq_getElem hlt)
  refine h (fun sz bw es hs => ?_) ro ho R β G a w hr
  obtain ⟨β', y', hy⟩ := conc_sub hs hc
  cases hy with
  | isl ys hu hl hc' hb hA hr' hs' => exact hb
theorem gO {ops : Array Oper} {hs : List Nat} {o : Oper} {r : Sc} {s : St} {K : St → Prop} (h : ADo P ops hs o r s K) : ADo P ops hs o r s K := h
theorem adoS {tab : Nat → Option TI} [hT : Tb P tab] {ops : Array Oper} {hs : List Nat} {K : St → Prop} {r : Sc} {s : St} {d : Option Tmp} {op : Op} {ty : TypeId} {pos : String} {aft : Array Edge} {g : Option (Nat × Bool)} {p : Prop} (h : p)
    (e : wdo P tab ops hs K r (sop tab op d s) = p := by (first | (simp only [go_sem, Nat.reduceAdd, Nat.reduceMul, reduceIte, Nat.reduceEqDiff, Nat.reduceLeDiff, Int.reduceToNat, Int.reducePow, Int.reduceBEq, Int.reduceBNe, Int.reduceLT, Int.reduceLE, decide_true, decide_false]; exact rfl) | exact rfl)) : ADo P ops hs ⟨d, op, ty, pos, aft, g⟩ r s K := ado_sop (e ▸ h)
theorem gDx {ops : Array Oper} {hs : List Nat} {o : Oper} {r : Sc} {s : St} {K : St → Prop} (h : ADx P ops hs o r s K) : ADx P ops hs o r s K := h
theorem adxS {tab : Nat → Option TI} [hT : Tb P tab] {ops : Array Oper} {hs : List Nat} {K : St → Prop} {r : Sc} {s : St} {d : Option Tmp} {op : Op} {ty : TypeId} {pos : String} {aft : Array Edge} {g : Option (Nat × Bool)} {p : Prop} (h : p)
    (e : wdp P tab ops hs K d r s (pvo tab op s) = p := by (first | (simp only [go_sem, Nat.reduceAdd, Nat.reduceMul, reduceIte, Nat.reduceEqDiff, Nat.reduceLeDiff, Int.reduceToNat, Int.reducePow, Int.reduceBEq, Int.reduceBNe, Int.reduceLT, Int.reduceLE, decide_true, decide_false]; exact rfl) | exact rfl)) : ADx P ops hs ⟨d, op, ty, pos, aft, g⟩ r s K := adx_pvo (e ▸ h)
/-! Appends, and nil rows taken as own ones, with what they ask for found by tactics. -/
theorem appendS {d : Tmp} {t el : TypeId} {x y : Operand} {sz bw id n : Nat} {z : Value} {bk : Blk} {es : List AV} {ty : TypeId} {pos : String} {aft : Array Edge} {g : Option (Nat × Bool)} {s : St} {K : St → Prop}
    [hu : TyU P t (.slice el)] [hi : TyI P el z sz bw]
    (hk : K ⟨(AV.purgeL id s.fr).set d (.sl sz bw id 0 (n + es.length)), hset (purgeHp id s.hp) id ⟨el, AV.purgeL id bk.cs ++ es.flatMap AV.cells, false⟩⟩)
    (hx : s.eval x = .sl sz bw id 0 n := by rfl) (hb : hget s.hp id = some bk := by rfl) (hT : bk.T = el := by rfl) (hl : bk.cs.length = n * sz := by first | rfl | (simp only [go_sem, Nat.reduceAdd, Nat.reduceMul, reduceIte, Nat.reduceEqDiff, Nat.reduceLeDiff, Int.reduceToNat, Int.reducePow, Int.reduceBEq, Int.reduceBNe, Int.reduceLT, Int.reduceLE, decide_true, decide_false, List.length_take, List.length_map] <;> omega) | simp) (hy : s.eval y = .isl sz bw es := by rfl) (h1 : esOne es := by first | exact esOne_one rfl | exact esOne_map (fun _ => rfl))
    (hz : z.cells.size = sz := by rfl) (hs : 0 < sz := by first | decide | (simp; done) | (simp; omega)) (hw : 0 < bw := by first | decide | (simp; done) | (simp; omega)) (hbytes : (n + es.length) * bw ≤ 140737488355328 := by first | omega | (simp only [go_sem, Nat.reduceAdd, Nat.reduceMul, reduceIte, Nat.reduceEqDiff, Nat.reduceLeDiff, Int.reduceToNat, Int.reducePow, Int.reduceBEq, Int.reduceBNe, Int.reduceLT, Int.reduceLE, decide_true, decide_false]; omega)) :
    AOp P ⟨some d, .call { callee := .builtin .append, args := #[x, y], argTypes := #[t, t] }, ty, pos, aft, g⟩ s K := aop_append hx hb hT hl hy h1 hz hs hw hbytes hk
theorem virtS {o : Oper} {f : List AV} {hp : Hp} {s' : St} {K : St → Prop} (i id sz bw : Nat) (T : TypeId) (h : AOp P o s' K) (hx : f[i]? = some .nilS := by rfl) (hf : St.free ⟨f, hp⟩ id = true := by first | rfl | (simp only [go_sem, Nat.reduceAdd, Nat.reduceMul, reduceIte, Nat.reduceEqDiff, Nat.reduceLeDiff, Int.reduceToNat, Int.reducePow, Int.reduceBEq, Int.reduceBNe, Int.reduceLT, Int.reduceLE, decide_true, decide_false]; done) | (simp only [go_sem, Nat.reduceAdd, Nat.reduceMul, reduceIte, Nat.reduceEqDiff, Nat.reduceLeDiff, Int.reduceToNat, Int.reducePow, Int.reduceBEq, Int.reduceBNe, Int.reduceLT, Int.reduceLE, decide_true, decide_false]; rfl) | (simp [St.free, mentHp, AV.mentL, AV.ment]))
    (e : (⟨f.set i (.sl sz bw id 0 0), hset hp id ⟨T, [], false⟩⟩ : St) = s' := by (simp only [go_sem, Nat.reduceAdd, Nat.reduceMul, reduceIte, Nat.reduceEqDiff, Nat.reduceLeDiff, Int.reduceToNat, Int.reducePow, Int.reduceBEq, Int.reduceBNe, Int.reduceLT, Int.reduceLE, decide_true, decide_false]; exact rfl)) : AOp P o ⟨f, hp⟩ K := aop_le (e ▸ le_virt i id sz bw T hx hf) h
theorem awVirt {c : Code} {f : List AV} {hp : Hp} {s' : St} {Q : Exit → St → Prop} (i id sz bw : Nat) (T : TypeId) (h : AW P c s' Q) (hx : f[i]? = some .nilS := by rfl) (hf : St.free ⟨f, hp⟩ id = true := by first | rfl | (simp only [go_sem, Nat.reduceAdd, Nat.reduceMul, reduceIte, Nat.reduceEqDiff, Nat.reduceLeDiff, Int.reduceToNat, Int.reducePow, Int.reduceBEq, Int.reduceBNe, Int.reduceLT, Int.reduceLE, decide_true, decide_false]; done) | (simp only [go_sem, Nat.reduceAdd, Nat.reduceMul, reduceIte, Nat.reduceEqDiff, Nat.reduceLeDiff, Int.reduceToNat, Int.reducePow, Int.reduceBEq, Int.reduceBNe, Int.reduceLT, Int.reduceLE, decide_true, decide_false]; rfl) | (simp [St.free, mentHp, AV.mentL, AV.ment]))
    (e : (⟨f.set i (.sl sz bw id 0 0), hset hp id ⟨T, [], false⟩⟩ : St) = s' := by (simp only [go_sem, Nat.reduceAdd, Nat.reduceMul, reduceIte, Nat.reduceEqDiff, Nat.reduceLeDiff, Int.reduceToNat, Int.reducePow, Int.reduceBEq, Int.reduceBNe, Int.reduceLT, Int.reduceLE, decide_true, decide_false]; exact rfl)) : AW P c ⟨f, hp⟩ Q := aw_le (e ▸ le_virt i id sz bw T hx hf) h
/-! The goal in its normal form. -/
theorem nmS {a b : Prop} (h : b) (e : a = b := by (simp only [go_sem, Nat.reduceAdd, Nat.reduceMul, reduceIte, Nat.reduceEqDiff, Nat.reduceLeDiff, Int.reduceToNat, Int.reducePow, Int.reduceBEq, Int.reduceBNe, Int.reduceLT, Int.reduceLE, decide_true, decide_false]; exact rfl)) : a := e ▸ h
theorem atS {a b : Prop} (h : b) (e : a = b := by (simp only [sets, havoc, go_sem, Nat.reduceAdd, Nat.reduceMul, reduceIte, Nat.reduceEqDiff, Nat.reduceLeDiff, Int.reduceToNat, Int.reducePow, Int.reduceBEq, Int.reduceBNe, Int.reduceLT, Int.reduceLE, decide_true, decide_false]; exact rfl)) : a := e ▸ h
end Go.Ab
