/- The abstract layer, fifth half: calls that are lent several own blocks. -/
import Derived.Test.YthdlckclpmfidaaAbn
set_option linter.unusedSimpArgs false
set_option linter.unusedVariables false
set_option linter.unusedSimpArgs false
set_option linter.unusedVariables false
namespace Go.Ab
open Go.RowKit
variable {P : Program}
/-! ### A call that is lent several blocks of the caller's own; pointers into the pinned ones stay as they were -/
def memN (i : Nat) : List Nat → Bool
  | [] => false
  | j :: r => i == j || memN i r
theorem memN_iff {i : Nat} : ∀ {l : List Nat}, memN i l = true ↔ i ∈ l
  | [] => by simp [memN]
  | j :: r => by simp [memN, memN_iff (i := i) (l := r)]
theorem memN_f {i : Nat} {l : List Nat} : memN i l = false ↔ i ∉ l := by
  rw [← Bool.not_eq_true, memN_iff]
def keysH : Hp → List Nat
  | [] => []
  | (i, _) :: r => i :: keysH r
theorem keysH_mem {i : Nat} : ∀ {hp : Hp}, i ∈ keysH hp ↔ ∃ bk, hget hp i = some bk
  | [] => by simp [keysH, hget]
  | (j, b) :: r => by
    by_cases h : j = i
    · subst h; simp [keysH, hget]
    · simp [keysH, hget, h, Ne.symm h, keysH_mem (i := i) (hp := r)]
def lentS (β : Ids) (ids : List Nat) : Nat → Prop := fun b => ∃ id ∈ ids, (∃ t, β id = .at b t) ∨ ∃ y, β id = .gh (some (b, y))
/-- Records of loops over functions stay known. -/
def GhR (β β' : Ids) (ids : List Nat) : Prop := ∀ id ∈ ids, ∀ p, id < 2000000000 → β id = .gh (some p) → β' id = .gh (some p)
def recOk (ids : List Nat) : Hp → Bool
  | [] => true
  | (i, b) :: r => (Nat.ble b.T 1000000000 || memN i ids) && recOk ids r
theorem recOk_get {ids : List Nat} : ∀ {hp : Hp} {i : Nat} {bk : Blk}, recOk ids hp = true → hget hp i = some bk → 1000000000 < bk.T → i ∈ ids
  | [], _, _, _, h, _ => by simp [hget] at h
  | (j, b) :: r, i, bk, h, hb, hT => by
    simp only [recOk, Bool.and_eq_true, Bool.or_eq_true] at h
    simp only [hget] at hb
    split at hb
    · rename_i e; subst e; injection hb with hb; subst hb
      rcases h.1 with h1 | h1
      · exact absurd hT (Nat.not_lt.2 (Nat.le_of_ble_eq_true h1))
      · exact memN_iff.1 h1
    · exact recOk_get h.2 hb hT
/-- The records among blocks. -/
def recI : Hp → List Nat
  | [] => []
  | (i, b) :: r => bif Nat.ble b.T 1000000000 then recI r else i :: recI r
theorem recI_get : ∀ {hp : Hp} {i : Nat} {bk : Blk}, hget hp i = some bk → 1000000000 < bk.T → i ∈ recI hp
  | [], _, _, h, _ => by simp [hget] at h
  | (j, b) :: r, i, bk, hb, hT => by
    simp only [hget] at hb
    simp only [recI]
    split at hb
    · rename_i e; subst e; injection hb with hb; subst hb
      cases hq : Nat.ble b.T 1000000000 with
      | true => exact absurd hT (Nat.not_lt.2 (Nat.le_of_ble_eq_true hq))
      | false => simp
    · have := recI_get hb hT
      cases Nat.ble b.T 1000000000 with
      | true => exact this
      | false => exact List.mem_cons_of_mem _ this
def recK (hp' : Hp) : List Nat → Bool
  | [] => true
  | i :: r => (Nat.ble 1000000000 i && match hget hp' i with | some b' => Nat.ble 1000000001 b'.T | none => false) && recK hp' r
theorem recK_get {hp' : Hp} : ∀ {l : List Nat} {i : Nat}, recK hp' l = true → i ∈ l → 1000000000 ≤ i ∧ ∃ bk', hget hp' i = some bk' ∧ 1000000000 < bk'.T
  | [], _, _, h => by cases h
  | j :: r, i, h, hi => by
    simp only [recK, Bool.and_eq_true] at h
    rcases List.mem_cons.1 hi with rfl | hi
    · obtain ⟨h0, h1⟩ := h.1
      split at h1
      · rename_i b' hb'; exact ⟨Nat.le_of_ble_eq_true h0, b', hb', Nat.lt_of_succ_le (Nat.le_of_ble_eq_true h1)⟩
      · cases h1
    · exact recK_get h.2 hi
def soft : Obj → Bool
  | .loop _ => true
  | .map _ _ => true
  | _ => false
/-- A record's state tells that it is one. -/
theorem gh_rec {R : Rg} {β : Ids} {G : Seal} {id T : Nat} {fl : Bool} {cs : List AV} {o : Option (Nat × YInfo)} (h : GhB R β G id T fl cs o) : (1000000000 < T ↔ ∃ l y, o = some (l, y) ∧ y.mp = false) ∧ (∀ l y, o = some (l, y) → y.mp = true → 2000000000 ≤ id ∧ y = mapY) ∧ ∀ l y, o = some (l, y) → (R.w0.heap.size ≤ l ∨ R.ex l) ∧ (∃ z, G l = some z ∧ soft z = true) ∧ (y.mp = false → ∃ D, R.lp id = some (l, D, y) ∧ l < R.w0.heap.size ∧ R.ex l ∧ ∃ z, G l = some (.loop z)) := by
  rcases h with ⟨outs, _, ⟨_, h1⟩, h2, _⟩ | ⟨b, es, clock, h0, ⟨_, h1, hid⟩, h2, h3, _⟩
  · cases o with
    | none =>
      have : T - 1000000000 = 0 := h2
      exact ⟨⟨fun h => by omega, fun ⟨_, _, h, _⟩ => by cases h⟩, fun l y e => by (cases e), fun l y e => by cases e⟩
    | some p =>
      obtain ⟨k0, km, D, k1, k2, k3, k5, k4, _⟩ := h2
      exact ⟨⟨fun _ => ⟨p.1, p.2, rfl, km⟩, fun _ => by omega⟩, fun l y e hm => by (injection e with e; subst e; rw [km] at hm; cases hm), fun l y e => by injection e with e; subst e; exact ⟨.inr k5, ⟨_, k4, rfl⟩, fun _ => ⟨D, k1, k3, k5, _, k4⟩⟩⟩
  · subst h0
    exact ⟨⟨fun _ => by omega, fun ⟨_, _, e, hm⟩ => by injection e with e; injection e with e1 e2; subst e2; cases hm⟩, fun l y e _ => by (injection e with e; injection e with e1 e2; exact ⟨hid, e2.symm⟩), fun l y e => by injection e with e; injection e with e1 e2; subst e1; subst e2; exact ⟨h2, ⟨_, h3, rfl⟩, fun h => by cases h⟩⟩
/-- Lent are all maps, or none. -/
def mapSep (ids : List Nat) (hp : Hp) : Bool := ids.all (fun i => Nat.blt i 2000000000) || hp.all fun p => Nat.blt p.1 2000000000 || memN p.1 ids
theorem mapSep_get {ids : List Nat} {hp : Hp} (h : mapSep ids hp = true) {i j : Nat} {bk : Blk} (hb : hget hp i = some bk) (h1 : 2000000000 ≤ i) (hj : j ∈ ids) (h2 : 2000000000 ≤ j) : i ∈ ids := by
  unfold mapSep at h
  rw [Bool.or_eq_true, List.all_eq_true, List.all_eq_true] at h
  rcases h with h | h
  · have h0 := h j hj
    rw [Nat.blt_eq] at h0; omega
  · have key : ∀ hp : Hp, hget hp i = some bk → ∃ b, (i, b) ∈ hp := by
      intro hp
      induction hp with
      | nil => intro h; simp [hget] at h
      | cons p r ih =>
        intro h
        obtain ⟨k, b⟩ := p
        simp only [hget] at h
        split at h
        · rename_i e; subst e; exact ⟨b, by simp⟩
        · obtain ⟨b', hb'⟩ := ih h; exact ⟨b', by simp [hb']⟩
    obtain ⟨b, hm⟩ := key hp hb
    have := h _ hm
    rw [Bool.or_eq_true] at this
    rcases this with h3 | h3
    · rw [Nat.blt_eq] at h3; simp only at h3; omega
    · exact memN_iff.1 h3
def PinR (β β' : Ids) (pins : List Nat) : Prop := ∀ id ∈ pins, ∀ b t, β id = .at b t → ∃ t', β' id = .at b t'
/-- Called with blocks of the caller's own, which it may write, and of which it hands back what it says. -/
def HCall (P : Program) (f : FuncId) (args : List AV) (hp : Hp) (news pins : List Nat) (Q : AV → Hp → Prop) : Prop :=
  (∀ id ∈ news, id ≤ 999999999) → ∀ β G w vals out lp, RepH ⟨w, lentS β (keysH hp), G, out, lp⟩ β G hp w → (∀ id ∈ news, β id = .no) → ConcB G β args vals → Calls P f vals.toArray w fun e w' =>
    ∃ y G' β' x hp', e = .returned y ∧ Q x hp' ∧ Within (keysH hp ++ news) x hp' ∧ PinR β β' pins ∧ GhR β β' (keysH hp) ∧ Conc G' β' x y ∧ RepH ⟨w, lentS β (keysH hp), G, out, lp⟩ β' G' hp' w'
mutual
def AV.okP (ids pins : List Nat) : AV → Bool
  | .ptr i _ => !memN i ids || memN i pins
  | .sl _ _ i _ _ => !memN i ids
  | .yl i _ => Nat.blt i 2000000000 || !memN i ids
  | .agg cs => AV.okPL ids pins cs
  | .tup cs => AV.okPL ids pins cs
  | .fn _ cs => AV.okPL ids pins cs
  | .any => true
  | .v _ => true
  | .isl _ _ _ => true
  | .iptr _ => true
def AV.okPL (ids pins : List Nat) : List AV → Bool
  | [] => true
  | x :: r => AV.okP ids pins x && AV.okPL ids pins r
end
def AV.fix (ids pins : List Nat) (x : AV) : AV := if AV.okP ids pins x then x else .any
def AV.fixL (ids pins : List Nat) : List AV → List AV
  | [] => []
  | x :: r => AV.fix ids pins x :: AV.fixL ids pins r
def fixHp (ids pins : List Nat) : Hp → Hp
  | [] => []
  | (i, b) :: r => if memN i ids then fixHp ids pins r else (i, { b with cs := AV.fixL ids pins b.cs }) :: fixHp ids pins r
theorem fixL_eq (ids pins : List Nat) (l : List AV) : AV.fixL ids pins l = l.map (AV.fix ids pins) := by
  induction l with
  | nil => rfl
  | cons x l ih => simp [AV.fixL, ih]
theorem hget_fixHp (ids pins : List Nat) (hp : Hp) (i : Nat) : hget (fixHp ids pins hp) i = if memN i ids then none else (hget hp i).map fun b => { b with cs := AV.fixL ids pins b.cs } := by
  induction hp with
  | nil => simp [fixHp, hget]
  | cons p r ih =>
    obtain ⟨j, b⟩ := p
    by_cases hj : memN j ids = true
    · simp only [fixHp, hj, if_true, ih, hget]
      split
      · rfl
      · rename_i hi
        rw [if_neg]
        rintro rfl; exact hi hj
    · simp only [fixHp, hj, if_false, Bool.false_eq_true, hget, ih]
      by_cases hji : j = i
      · subst hji; simp [hj]
      · simp [hji]
theorem okPL_get {ids pins : List Nat} : ∀ {cs : List AV} {j : Nat} {x : AV}, AV.okPL ids pins cs = true → cs[j]? = some x → AV.okP ids pins x = true
  | [], _, _, _, h => by simp at h
  | c :: cs, 0, x, h, hx => by simp at hx; subst hx; simp [AV.okPL] at h; exact h.1
  | c :: cs, j+1, x, h, hx => by simp at hx; simp [AV.okPL] at h; exact okPL_get h.2 hx
theorem Conc.okP {G G2 : Seal} {β β2 : Ids} {ids pins : List Nat} {x : AV} {y : Value} (h : Conc G β x y) (hok : AV.okP ids pins x = true) (hβ : ∀ i, memN i ids = false → β2 i = β i) (hpin : PinR β β2 pins) (hgr : GhR β β2 ids)
    (hG : ∀ a y, gcell G a = some y → gcell G2 a = some y) : Conc G2 β2 x y := by
  have key : ∀ {β0 x y}, Conc G β0 x y → β0 = β → AV.okP ids pins x = true → Conc G2 β2 x y := by
    intro β0 x y h
    induction h with
    | any => intros; exact .any
    | v => intros; exact .v
    | agg xs hl _ ih => intro e ho; exact .agg xs hl fun j x y hx hy => ih j x y hx hy e (okPL_get (by simpa [AV.okP] using ho) hx)
    | tup xs hl _ ih => intro e ho; exact .tup xs hl fun j x y hx hy => ih j x y hx hy e (okPL_get (by simpa [AV.okP] using ho) hx)
    | fn xs hf hl _ ih => intro e ho; exact .fn xs hf hl fun j x y hx hy => ih j x y hx hy e (okPL_get (by simpa [AV.okP] using ho) hx)
    | ifc _ ih => intro e ho; exact .ifc (ih e (by simpa [AV.okP, AV.okPL] using ho))
    | @ptr β1 i off b t hb =>
      intro e ho
      subst e
      simp only [AV.okP, Bool.or_eq_true, Bool.not_eq_true'] at ho
      rcases ho with ho | ho
      · exact .ptr (by rw [hβ i ho]; exact hb)
      · obtain ⟨t', ht'⟩ := hpin i (memN_iff.1 ho) b t hb
        exact .ptr ht'
    | @slN β1 a b i hb =>
      intro e ho
      subst e
      simp only [AV.okP, Bool.not_eq_true'] at ho
      exact .slN (by rw [hβ i ho]; exact hb)
    | @sl β1 a b i off k c bb t hb hn ht hm hbw =>
      intro e ho
      subst e
      simp only [AV.okP, Bool.not_eq_true'] at ho
      exact .sl (by rw [hβ i ho]; exact hb) hn ht hm hbw
    | @yl β1 i y l hb =>
      intro e ho
      subst e
      cases hm : memN i ids with
      | false => exact .yl (by rw [hβ i hm]; exact hb)
      | true =>
        simp only [AV.okP, hm, Bool.not_true, Bool.or_false] at ho
        rw [Nat.blt_eq] at ho
        exact .yl (hgr i (memN_iff.1 hm) _ ho hb)
    | isl ys hu hl hc' hb hA hr hs _ => intro _ _; exact (Conc.isl (β := β) ys hu hl hc' hb hA hr hs).extG (fun _ h => by simp [AV.ment] at h) hG
    | iptr ys hl hr hs _ => intro _ _; exact (Conc.iptr (β := β) ys hl hr hs).extG (fun _ h => by simp [AV.ment] at h) hG
  exact key h rfl hok
theorem Conc.fix {G G2 : Seal} {β β2 : Ids} {ids pins : List Nat} {x : AV} {y : Value} (h : Conc G β x y) (hβ : ∀ i, memN i ids = false → β2 i = β i) (hpin : PinR β β2 pins) (hgr : GhR β β2 ids)
    (hG : ∀ a y, gcell G a = some y → gcell G2 a = some y) : Conc G2 β2 (AV.fix ids pins x) y := by
  unfold AV.fix
  split
  · rename_i ho; exact h.okP ho hβ hpin hgr hG
  · exact .any
theorem lend_many {R : Rg} {β : Ids} {G : Seal} {H : Hp} {w : World} (h : RepH R β G H w) {hp : Hp} (hin : ∀ id bk, hget hp id = some bk → hget H id = some bk) : RepH ⟨w, lentS β (keysH hp), G, R.out, lpCut R⟩ β G hp w := by
  refine ⟨h.gs, fun i bk hi => ?_, fun i j b t t' hi hj hbi hbj => ?_, ⟨rfl, rfl, rfl, Nat.le_refl _, fun _ _ _ => rfl⟩, fun b hb => .inl hb, h.idr⟩
  · have := h.blk _ _ (hin i bk hi)
    unfold BlkOk at this ⊢
    cases hβ : β i with
    | no => rw [hβ] at this; exact this
    | nil => rw [hβ] at this; exact this
    | «at» b t =>
      rw [hβ] at this
      obtain ⟨g1, _, g3⟩ := this
      exact ⟨g1, .inr ⟨i, keysH_mem.2 ⟨bk, hi⟩, .inl ⟨t, hβ⟩⟩, g3⟩
    | gh o => rw [hβ] at this; exact gh_lend this h.keeps.size fun l y e => ⟨i, keysH_mem.2 ⟨bk, hi⟩, .inr ⟨y, by rw [hβ, e]⟩⟩
  · obtain ⟨x, hx⟩ := Option.isSome_iff_exists.1 hi
    obtain ⟨y, hy⟩ := Option.isSome_iff_exists.1 hj
    exact h.inj i j b t t' (by rw [hin i x hx]; rfl) (by rw [hin j y hy]; rfl) hbi hbj
/-- The state once the blocks have been written and handed back. -/
theorem Rep.lentH {R : Rg} {β : Ids} {G : Seal} {s : St} {a : Act} {w : World} (h : Rep R β G s a w) {hp : Hp} {news pins : List Nat} (hin : ∀ id bk, hget hp id = some bk → hget s.hp id = some bk) (hfree : ∀ id ∈ news, s.free id = true) (hrec : recOk (keysH hp) s.hp = true) (hms : mapSep (keysH hp) s.hp = true) (hno : ∀ id ∈ news, β id = .no)
    {w' : World} {G' : Seal} {β' : Ids} {hp' : Hp} {x : AV} {y : Value} (hwi : Within (keysH hp ++ news) x hp') (hpin : PinR β β' pins) (hgr : GhR β β' (keysH hp)) (hps : ∀ i ∈ pins, i ∈ keysH hp) (hcx : Conc G' β' x y) (hrh : RepH ⟨w, lentS β (keysH hp), G, R.out, lpCut R⟩ β' G' hp' w') (d : Option Tmp) :
    ∃ β2 G2, Rep R β2 G2 ⟨(St.put ⟨AV.fixL (keysH hp ++ news) pins s.fr, []⟩ d x).fr, hp' ++ fixHp (keysH hp ++ news) pins s.hp⟩ (a.put d y) w' := by
  have hkeep := hrh.keeps
  -- blocks, and records
  have hlentA : ∀ b, (∃ id ∈ keysH hp, ∃ t, β id = .at b t) → G b = none ∧ (R.w0.heap.size ≤ b ∨ R.ex b) ∧ b < w.heap.size := fun b ⟨id, hid, t, ht⟩ => by
    obtain ⟨bk, hbk⟩ := keysH_mem.1 hid
    obtain ⟨g1, g2, arr, g3, _⟩ := h.hp.block (hin id bk hbk) ht
    exact ⟨g1, g2, heap_lt g3⟩
  have hrecF : ∀ b, (∃ id ∈ keysH hp, ∃ y, β id = .gh (some (b, y))) → (∃ z, G b = some z ∧ soft z = true) ∧ (R.w0.heap.size ≤ b ∨ R.ex b) ∧ b < w.heap.size := fun b ⟨id, hid, y, hy⟩ => by
    obtain ⟨bk, hbk⟩ := keysH_mem.1 hid
    have h0 := h.hp.blk id bk (hin id bk hbk)
    unfold BlkOk at h0
    rw [hy] at h0
    obtain ⟨k1, ⟨z, k2, k3⟩, _⟩ := (gh_rec h0).2.2 b y rfl
    exact ⟨⟨z, k2, k3⟩, k1, heap_lt (h.hp.gs b z k2)⟩
  have hlent : ∀ b, lentS β (keysH hp) b → (R.w0.heap.size ≤ b ∨ R.ex b) ∧ b < w.heap.size := fun b ⟨id, hid, hh⟩ => by
    rcases hh with ⟨t, ht⟩ | ⟨y, hy⟩
    · exact (hlentA b ⟨id, hid, t, ht⟩).2
    · exact (hrecF b ⟨id, hid, y, hy⟩).2
  have hsame : ∀ b, b < w.heap.size → ¬ lentS β (keysH hp) b → w'.heap[b]? = w.heap[b]? := fun b h1 h2 => hkeep.block b h1 h2
  let isRec : Nat → Prop := fun b => ∃ id ∈ keysH hp, ∃ y, β id = .gh (some (b, y))
  have hgs : ∀ b o, G b = some o → ¬ isRec b → w'.heap[b]? = some o := fun b o hg hnr => by
    have h1 := h.hp.gs b o hg
    rw [hsame b (heap_lt h1) (fun ⟨id, hid, hh⟩ => by
      rcases hh with ⟨t, ht⟩ | hy
      · have := (hlentA b ⟨id, hid, t, ht⟩).1; rw [hg] at this; cases this
      · exact hnr ⟨id, hid, hy⟩)]
    exact h1
  let G3 : Seal := fun b => @ite _ (isRec b) (Classical.propDecidable _) (G' b) (match G b with | some o => some o | none => G' b)
  have g3r : ∀ b, isRec b → G3 b = G' b := fun b hb => by simp only [G3, hb, if_true]
  have g3n : ∀ b, ¬ isRec b → G3 b = match G b with | some o => some o | none => G' b := fun b hb => by simp only [G3, hb, if_false]
  have m1 : ∀ b o, G b = some o → ¬ isRec b → G3 b = some o := fun b o hb hn => by rw [g3n b hn, hb]
  have m1c : ∀ a y, gcell G a = some y → gcell G3 a = some y := fun a y hy => by
    by_cases hr : isRec a.block
    · obtain ⟨⟨z, hz, hsz⟩, _⟩ := hrecF _ hr
      unfold gcell at hy
      rw [hz] at hy
      cases z <;> first | cases hy | cases hsz
    · unfold gcell at hy ⊢
      cases hq : G a.block with
      | none => rw [hq] at hy; cases hy
      | some o => rw [m1 _ _ hq hr]; rw [hq] at hy; exact hy
  have m1d : ∀ D x, G D = some (.deferred x) → G3 D = some (.deferred x) := fun D x hD => m1 D _ hD fun hr => by
    obtain ⟨⟨z, hz, hsz⟩, _⟩ := hrecF _ hr
    rw [hz] at hD; injection hD with hD; subst hD; cases hsz
  have m2 : ∀ b o, G' b = some o → G3 b = some o := fun b o hb => by
    by_cases hr : isRec b
    · rw [g3r b hr]; exact hb
    · cases hg : G b with
      | none => rw [g3n b hr, hg]; exact hb
      | some o' =>
        have e1 := hgs b o' hg hr
        have e2 := hrh.gs b o hb
        rw [e1] at e2; injection e2 with e2; subst e2
        exact m1 b _ hg hr
  have m3 : ∀ b, G3 b ≠ none → (G b ≠ none ∧ ¬ isRec b) ∨ G' b ≠ none := fun b hb => by
    by_cases hr : isRec b
    · rw [g3r b hr] at hb; exact .inr hb
    · rw [g3n b hr] at hb
      cases hg : G b with
      | some o => exact .inl ⟨by simp, hr⟩
      | none => rw [hg] at hb; exact .inr hb
  have hG' : ∀ b, G' b ≠ none → G b ≠ none ∨ w.heap.size ≤ b ∨ lentS β (keysH hp) b := fun b hb => hrh.dom b hb
  let ids := keysH hp ++ news
  let β2 : Ids := fun i => if memN i ids then β' i else β i
  have b1 : ∀ i, i ∈ ids → β2 i = β' i := fun i hi => by simp only [β2]; rw [if_pos (memN_iff.2 hi)]
  have b2 : ∀ i, memN i ids = false → β2 i = β i := fun i hi => by simp only [β2, hi]; rfl
  have hpin2 : PinR β β2 pins := fun id hid b t hb => by
    rw [b1 id (List.mem_append_left _ (hps id hid))]; exact hpin id hid b t hb
  have hgr2 : GhR β β2 ids := fun id hid p hm hb => by
    rw [b1 id hid]
    rcases List.mem_append.1 hid with h1 | h1
    · exact hgr id h1 p hm hb
    · rw [hno id h1] at hb; cases hb
  have hold : ∀ u v, Conc G β u v → Conc G3 β2 (AV.fix ids pins u) v := fun u v hc => hc.fix b2 hpin2 hgr2 m1c
  have hin2 : ∀ i, AV.ment i x = true ∨ mentHp i hp' = true → i ∈ ids := fun i hm => by
    by_cases hi : i ∈ ids
    · exact hi
    · have := hwi i hi
      rcases hm with hm | hm
      · rw [this.1] at hm; cases hm
      · rw [this.2] at hm; cases hm
  have hnew : ∀ u v, (∀ i, AV.ment i u = true → i ∈ ids) → Conc G' β' u v → Conc G3 β2 u v := fun u v ho hc => hc.ext (fun i hm => b1 i (ho i hm)) m2
  -- blocks that are not lent
  have hother : ∀ i bk0 b t, memN i ids = false → hget s.hp i = some bk0 → β i = .at b t → ¬ lentS β (keysH hp) b ∧ b < w.heap.size ∧ G3 b = none := fun i bk0 b t hne hi hβ => by
    obtain ⟨g1, g2, arr, g3, _⟩ := h.hp.block hi hβ
    have hnl : ¬ lentS β (keysH hp) b := fun ⟨id, hid, hh⟩ => by
      rcases hh with ⟨t', ht'⟩ | hy
      · obtain ⟨bk, hbk⟩ := keysH_mem.1 hid
        have := h.hp.inj i id b t t' (by rw [hi]; rfl) (by rw [hin id bk hbk]; rfl) hβ ht'
        subst this
        exact (memN_f.1 hne) (List.mem_append_left _ hid)
      · obtain ⟨⟨z, hz, _⟩, _⟩ := hrecF b ⟨id, hid, hy⟩
        rw [hz] at g1; cases g1
    refine ⟨hnl, heap_lt g3, ?_⟩
    cases hq : G3 b with
    | none => rfl
    | some o =>
      rcases m3 b (by rw [hq]; simp) with ⟨h1, _⟩ | h1
      · exact absurd g1 h1
      · rcases hG' b h1 with h2 | h2 | h2
        · exact absurd g1 h2
        · have := heap_lt g3; omega
        · exact absurd h2 hnl
  have hpre : Rep R β2 G3 ⟨AV.fixL ids pins s.fr, hp' ++ fixHp ids pins s.hp⟩ a w' := by
    refine ⟨(let ⟨Ds, d1, d2, d3⟩ := h.defers; ⟨Ds, d1, d2, fun D hD => ⟨(d3 D hD).1, m1d _ _ (d3 D hD).2⟩⟩), by rw [fixL_eq, List.length_map]; exact h.size, fun i u v hu hv => ?_, ⟨fun b o hb' => ?_, fun i bk0 hi => ?_, fun i j b t t' hi hj hbi hbj => ?_, ?_, fun b hb' => ?_, fun i hi => ?_⟩⟩
    · rw [fixL_eq, List.getElem?_map, Option.map_eq_some_iff] at hu
      obtain ⟨u0, hu0, rfl⟩ := hu
      exact hold _ _ (h.fr i u0 v hu0 hv)
    · by_cases hr : isRec b
      · rw [g3r b hr] at hb'; exact hrh.gs b o hb'
      · rw [g3n b hr] at hb'
        split at hb'
        · rename_i o' hg; injection hb' with hb'; subst hb'; exact hgs b _ hg hr
        · exact hrh.gs b o hb'
    · rw [hget_append] at hi
      cases hq : hget hp' i with
      | some bk' =>
        rw [hq] at hi; simp at hi; subst hi
        have hii := hin2 i (.inr (mentHp_key hq))
        have hblk' := hrh.blk i bk' hq
        unfold BlkOk at hblk' ⊢
        rw [b1 i hii]
        have hcell : ∀ u ∈ bk'.cs, ∀ k, AV.ment k u = true → k ∈ ids := fun u hu k hk => by
          obtain ⟨j, hj⟩ := List.getElem?_of_mem hu
          exact hin2 k (.inr (mentHp_cell hq (mentL_mem hj hk)))
        cases hβ : β' i with
        | no => rw [hβ] at hblk'; exact hblk'
        | nil => rw [hβ] at hblk'; exact hblk'
        | gh o => rw [hβ] at hblk'; exact gh_same (gh_back hblk' h.hp.keeps.size (fun b hb => (hlent b hb).1)) m2 fun u hu v hc => hnew u v (hcell u hu) hc
        | «at» b t =>
          rw [hβ] at hblk'
          obtain ⟨g1, g2, arr', g3, g4, g5, g6, g7⟩ := hblk'
          refine ⟨?_, ?_, arr', g3, g4, g5, g6, fun j u v hu hv => hnew u v (hcell u (List.mem_of_getElem? hu)) (g7 j u v hu hv)⟩
          · cases hq : G3 b with
            | none => rfl
            | some o =>
              rcases m3 b (by rw [hq]; simp) with ⟨h1, hr⟩ | h1
              · rcases g2 with h2 | ⟨id, hid, hh⟩
                · cases hq2 : G b with
                  | none => exact absurd hq2 h1
                  | some o2 => have := heap_lt (h.hp.gs b o2 hq2); simp only at h2; omega
                · rcases hh with ⟨t', ht'⟩ | hy
                  · exact absurd (hlentA b ⟨id, hid, t', ht'⟩).1 h1
                  · exact absurd ⟨id, hid, hy⟩ hr
              · exact absurd g1 h1
          · rcases g2 with h2 | h2
            · exact .inl (Nat.le_trans h.hp.keeps.size h2)
            · exact (hlent b h2).1
      | none =>
        rw [hq] at hi; simp at hi
        rw [hget_fixHp] at hi
        split at hi
        · cases hi
        · rename_i hid
          have hid : memN i ids = false := by simpa using hid
          rw [Option.map_eq_some_iff] at hi
          obtain ⟨bk1, hi1, rfl⟩ := hi
          have := h.hp.blk i bk1 hi1
          unfold BlkOk at this ⊢
          rw [b2 i hid]
          cases hβ : β i with
          | no => rw [hβ] at this; exact this
          | nil => rw [hβ] at this; exact ⟨by rw [this.1]; rfl, this.2⟩
          | gh o =>
            rw [hβ] at this
            have hnr := (gh_rec this).1
            have hle : ¬ 1000000000 < bk1.T := fun hT => (memN_f.1 hid) (List.mem_append_left _ (recOk_get hrec hi1 hT))
            rcases this with ⟨outs, h0, h1, h2, h3, h4⟩ | ⟨b, es, clock, e0, ⟨e1, e6, e7⟩, e2, e3, e4, e5⟩
            · have ho : o = none := by
                cases o with
                | none => rfl
                | some p => exact absurd (hnr.2 ⟨p.1, p.2, rfl, h2.2.1⟩) hle
              subst ho
              refine .inl ⟨outs, h0, h1, h2, by rw [fixL_eq, List.length_map]; exact h3, fun j u v hu hv => ?_⟩
              simp only [fixL_eq, List.getElem?_map, Option.map_eq_some_iff] at hu
              obtain ⟨u0, hu0, rfl⟩ := hu
              exact hold _ _ (h4 j u0 v hu0 hv)
            · have hnr2 : ¬ isRec b := fun ⟨k, hk, y, hy⟩ => by
                obtain ⟨bk2, hbk2⟩ := keysH_mem.1 hk
                have h6 := h.hp.blk k bk2 (hin k bk2 hbk2)
                unfold BlkOk at h6
                rw [hy] at h6
                obtain ⟨_, q2, q3⟩ := gh_rec h6
                cases hym : y.mp with
                | true =>
                  have h7 := (q2 b y rfl hym).1
                  exact (memN_f.1 hid) (List.mem_append_left _ (mapSep_get hms hi1 e7 hk h7))
                | false =>
                  obtain ⟨_, _, _, _, z, hz⟩ := (q3 b y rfl).2.2 hym
                  rw [e3] at hz; cases hz
              refine .inr ⟨b, es, clock, e0, ⟨e1, e6, e7⟩, e2, m1 b _ e3 hnr2, by rw [fixL_eq, List.length_map]; exact e4, fun j u v hu hv => ?_⟩
              simp only [fixL_eq, List.getElem?_map, Option.map_eq_some_iff] at hu
              obtain ⟨u0, hu0, rfl⟩ := hu
              exact hold _ _ (e5 j u0 v hu0 hv)
          | «at» b t =>
            obtain ⟨o1, o2, o3⟩ := hother i bk1 b t hid hi1 hβ
            rw [hβ] at this
            obtain ⟨g1, g2, arr', g3, g4, g5, g6, g7⟩ := this
            refine ⟨o3, g2, arr', by rw [hsame b o2 o1]; exact g3, g4, by simpa [fixL_eq] using g5, by simpa [fixL_eq] using g6, fun j u v hu hv => ?_⟩
            simp only [fixL_eq, List.getElem?_map, Option.map_eq_some_iff] at hu
            obtain ⟨u0, hu0, rfl⟩ := hu
            exact hold _ _ (g7 j u0 v hu0 hv)
    · have key : ∀ i b t, (hget (hp' ++ fixHp ids pins s.hp) i).isSome → β2 i = .at b t → ((hget hp' i).isSome ∧ β' i = .at b t ∧ (w.heap.size ≤ b ∨ lentS β (keysH hp) b)) ∨ ((hget s.hp i).isSome ∧ β i = .at b t ∧ ¬ lentS β (keysH hp) b ∧ b < w.heap.size) := by
        intro i b t his hbi
        rw [hget_append] at his
        cases hq : hget hp' i with
        | some bk' =>
          have hii := hin2 i (.inr (mentHp_key hq))
          rw [b1 i hii] at hbi
          have hblk' := hrh.blk i bk' hq
          unfold BlkOk at hblk'
          rw [hbi] at hblk'
          exact .inl ⟨rfl, hbi, hblk'.2.1⟩
        | none =>
          rw [hq] at his; simp at his
          rw [hget_fixHp] at his
          split at his
          · cases his
          · rename_i hid
            have hid : memN i ids = false := by simpa using hid
            rw [b2 i hid] at hbi
            obtain ⟨bk1, hb1⟩ := Option.isSome_iff_exists.1 his
            rw [Option.map_eq_some_iff] at hb1
            obtain ⟨bk2, hb2, _⟩ := hb1
            obtain ⟨o1, o2, _⟩ := hother i bk2 b t hid hb2 hbi
            exact .inr ⟨by rw [hb2]; rfl, hbi, o1, o2⟩
      rcases key i b t hi hbi with ⟨a1, a2, a3⟩ | ⟨a1, a2, a3, a4⟩ <;> rcases key j b t' hj hbj with ⟨c1, c2, c3⟩ | ⟨c1, c2, c3, c4⟩
      · exact hrh.inj i j b t t' a1 c1 a2 c2
      · exfalso
        rcases a3 with h1 | h1
        · omega
        · exact c3 h1
      · exfalso
        rcases c3 with h1 | h1
        · omega
        · exact a3 h1
      · exact h.hp.inj i j b t t' a1 c1 a2 c2
    · have hk := h.hp.keeps
      refine ⟨hkeep.os.trans hk.os, hkeep.tape.trans hk.tape, hkeep.output.trans hk.output, Nat.le_trans hk.size hkeep.size, fun j h1 h2 => ?_⟩
      rw [hsame j (Nat.lt_of_lt_of_le h1 hk.size) (fun hl => by rcases (hlent j hl).1 with h3 | h3; omega; exact h2 h3)]
      exact hk.block j h1 h2
    · rcases m3 b hb' with ⟨h1, _⟩ | h1
      · exact h.hp.dom b h1
      · rcases hG' b h1 with h2 | h2 | h2
        · exact h.hp.dom b h2
        · exact .inr (.inl (Nat.le_trans h.hp.keeps.size h2))
        · exact .inr (hlent b h2).1
    · cases hm : memN i ids with
      | true => rw [b1 i (memN_iff.1 hm)] at hi; exact hrh.idr i hi
      | false => rw [b2 i hm] at hi; exact h.hp.idr i hi
  refine ⟨β2, G3, ?_⟩
  have := hpre.put d (hnew x y (fun i hi => hin2 i (.inl hi)) hcx)
  cases d <;> exact this
/-- The ids that are free are no names. -/
theorem Rep.drop {R : Rg} {β : Ids} {G : Seal} {s : St} {a : Act} {w : World} (h : Rep R β G s a w) : ∀ (news : List Nat), (∀ id ∈ news, s.free id = true) → ∃ β', Rep R β' G s a w ∧ ∀ id ∈ news, β' id = .no
  | [], _ => ⟨β, h, fun _ h => by cases h⟩
  | i :: r, hf => by
    obtain ⟨β1, h1, h2⟩ := h.drop r fun id hid => hf id (by simp [hid])
    obtain ⟨f1, f2, f3⟩ := ment_of_free (hf i (by simp))
    have hoth : ∀ j, j ≠ i → (β1.set i .no) j = β1 j := fun j hj => by simp [Ids.set, hj]
    refine ⟨β1.set i .no, ⟨h1.defers, h1.size, fun j x y hx hy => (h1.fr j x y hx hy).setId (f1 j x hx) _, ⟨h1.hp.gs, fun j bk hj => ?_, fun j k b t t' hj hk hbj hbk => ?_, h1.hp.keeps, h1.hp.dom, h1.hp.idr.gone⟩⟩, fun id hid => ?_⟩
    · have hji : j ≠ i := fun e => by subst e; rw [f2] at hj; cases hj
      have := h1.hp.blk j bk hj
      unfold BlkOk at this ⊢
      rw [hoth j hji]
      cases hβ : β1 j with
      | no => rw [hβ] at this; exact this
      | nil => rw [hβ] at this; exact this
      | gh o =>
        rw [hβ] at this
        exact gh_same this (fun _ _ h => h) fun u hu v hc => by
          obtain ⟨k, hk⟩ := List.getElem?_of_mem hu
          exact hc.setId (f3 j bk k u hj hk) _
      | «at» b t =>
        rw [hβ] at this
        obtain ⟨g1, g2, arr, g3, g4, g5, g6, g7⟩ := this
        exact ⟨g1, g2, arr, g3, g4, g5, g6, fun k x y hx hy => (g7 k x y hx hy).setId (f3 j bk k x hj hx) _⟩
    · have n1 : j ≠ i := fun e => by subst e; simp [Ids.set] at hbj
      have n2 : k ≠ i := fun e => by subst e; simp [Ids.set] at hbk
      rw [hoth j n1] at hbj
      rw [hoth k n2] at hbk
      exact h1.hp.inj j k b t t' hj hk hbj hbk
    · by_cases he : id = i
      · subst he; simp [Ids.set]
      · rw [hoth id he]; exact h2 id (by simpa [he] using hid)
theorem aop_callHv {d : Option Tmp} {fo : Operand} {f : FuncId} {caps : List AV} {args : Array Operand} {tys : Array TypeId} {ty : TypeId} {pos : String} {aft : Array Edge} {g : Option (Nat × Bool)} {s : St} {K : St → Prop} {hp : Hp} {news pins : List Nat} {Q : AV → Hp → Prop}
    (hf : s.eval fo = .fn f caps) [hc : TyC P f]
    (h : HCall P f (evalL s args ++ caps) hp news pins Q) (hin : ∀ id bk, hget hp id = some bk → hget s.hp id = some bk) (hfree : ∀ id ∈ news, s.free id = true) (hps' : (pins.all fun i => memN i (keysH hp)) = true)
    (hk : ∀ x hp', Q x hp' → K ⟨(St.put ⟨AV.fixL (keysH hp ++ news) pins s.fr, []⟩ d x).fr, hp' ++ fixHp (keysH hp ++ news) pins s.hp⟩) (hrec : recOk (keysH hp) s.hp = true := by rfl) (hms : mapSep (keysH hp) s.hp = true := by rfl) :
    AOp P ⟨d, .call { callee := .value fo, args, argTypes := tys }, ty, pos, aft, g⟩ s K := by
  intro R β G a w Q' hr
  have hps : ∀ i ∈ pins, i ∈ keysH hp := fun i hi => memN_iff.1 (List.all_eq_true.1 hps' i hi)
  obtain ⟨β, hr, hno⟩ := hr.drop news hfree
  have e1 := hr.eval fo; rw [hf] at e1
  obtain ⟨xs, hfv, hxl, hxs⟩ := conc_fn_caps e1 hc.lt
  have hrun : (execOp a.eval ⟨d, .call { callee := .value fo, args, argTypes := tys }, ty, pos, aft, g⟩).run P w = .ok (.enter f (args.map a.eval ++ xs.toArray)) w := by
    simp [execOp, resolve, hfv, Deferred.ofValue, invoke, hc.ok]
  unfold Oper.wp
  rw [hrun, Oper.upon_enter]
  obtain ⟨l1, l2⟩ := evalL_agg hr args
  have hcl : ConcB G β (evalL s args ++ caps) ((args.map a.eval).toList ++ xs) := by
    refine ⟨by simp [l1, hxl], fun j x y hx hy => ?_⟩
    rcases Nat.lt_or_ge j (evalL s args).length with hj | hj
    · rw [List.getElem?_append_left hj] at hx
      rw [List.getElem?_append_left (by omega)] at hy
      exact l2 j x y hx hy
    · rw [List.getElem?_append_right hj] at hx
      rw [List.getElem?_append_right (by omega), ← l1] at hy
      exact hxs _ x y hx hy
  have := h (fun id hid => free_lt (hfree id hid)) β G w _ R.out (lpCut R) (lend_many hr.hp hin) hno hcl
  have harr : ((args.map a.eval).toList ++ xs).toArray = args.map a.eval ++ xs.toArray := by
    apply Array.ext'; simp
  rw [harr] at this
  refine this.mono fun e w' ⟨y, G', β', x, hp', he, hQ, hwi, hpn, hgr, hcx, hrh⟩ => ?_
  subst he
  obtain ⟨β2, G2, hr2⟩ := hr.lentH hin hfree hrec hms hno hwi hpn hgr hps hcx hrh d
  exact ⟨β2, G2, _, hk x hp' hQ, hr2⟩
theorem aop_callH {d : Option Tmp} {f : FuncId} {args : Array Operand} {tys : Array TypeId} {ty : TypeId} {pos : String} {aft : Array Edge} {g : Option (Nat × Bool)} {s : St} {K : St → Prop} {hp : Hp} {news pins : List Nat} {Q : AV → Hp → Prop} [hc : TyC P f]
    (h : HCall P f (evalL s args) hp news pins Q) (hin : ∀ id bk, hget hp id = some bk → hget s.hp id = some bk) (hfree : ∀ id ∈ news, s.free id = true) (hps' : (pins.all fun i => memN i (keysH hp)) = true)
    (hk : ∀ x hp', Q x hp' → K ⟨(St.put ⟨AV.fixL (keysH hp ++ news) pins s.fr, []⟩ d x).fr, hp' ++ fixHp (keysH hp ++ news) pins s.hp⟩) (hrec : recOk (keysH hp) s.hp = true := by rfl) (hms : mapSep (keysH hp) s.hp = true := by rfl) :
    AOp P ⟨d, .call { callee := .value (.func f), args, argTypes := tys }, ty, pos, aft, g⟩ s K := by
  intro R β G a w Q' hr
  have hps : ∀ i ∈ pins, i ∈ keysH hp := fun i hi => memN_iff.1 (List.all_eq_true.1 hps' i hi)
  obtain ⟨β, hr, hno⟩ := hr.drop news hfree
  have hrun : (execOp a.eval ⟨d, .call { callee := .value (.func f), args, argTypes := tys }, ty, pos, aft, g⟩).run P w = .ok (.enter f (args.map a.eval)) w := by
    simp [execOp, resolve, Act.eval, Deferred.ofValue, invoke, hc.ok]
  unfold Oper.wp
  rw [hrun, Oper.upon_enter]
  have := h (fun id hid => free_lt (hfree id hid)) β G w (args.map a.eval).toList R.out (lpCut R) (lend_many hr.hp hin) hno (evalL_agg hr args)
  simp only [Array.toArray_toList] at this
  refine this.mono fun e w' ⟨y, G', β', x, hp', he, hQ, hwi, hpn, hgr, hcx, hrh⟩ => ?_
  subst he
  obtain ⟨β2, G2, hr2⟩ := hr.lentH hin hfree hrec hms hno hwi hpn hgr hps hcx hrh d
  exact ⟨β2, G2, _, hk x hp' hQ, hr2⟩
/-! The contract from a walk. The waiting pointers lie in the block 1000000000. -/
def ghBlk (cs : List AV) : Blk := ⟨1000000000, cs, false⟩
def HFin (P : Program) (rs : Array ResultVar) (ids pins recs : List Nat) (Q : AV → Hp → Prop) : Exit → St → Prop
  | .normal, s | .ret, s => ∃ s' x hp', Le s s' ∧ RV P rs s' x ∧ hsub s'.hp hp' ∧ hget s'.hp 1000000000 = some (ghBlk (pins.map fun i => AV.ptr i 0)) ∧ Within ids x hp' ∧ recK hp' recs = true ∧ Q x hp'
  | _, _ => False
theorem gh_id {R : Rg} {β : Ids} {G : Seal} {hp : Hp} {w : World} (h : RepH R β G hp w) {bk : Blk} (hb : hget hp 1000000000 = some bk) : ∃ o, β 1000000000 = .gh o ∧ GhB R β G 1000000000 bk.T bk.full bk.cs o := by
  have := h.blk _ _ hb
  unfold BlkOk at this
  cases hβ : β 1000000000 with
  | no => rw [hβ] at this; exact this.elim
  | nil => have := h.idr _ (.inl hβ); omega
  | «at» b t => have := h.idr _ (.inr ⟨b, t, hβ⟩); omega
  | gh o => rw [hβ] at this; exact ⟨o, rfl, this⟩
def pinsOk (hp : Hp) (pins : List Nat) : Bool := pins.all fun i => match hget hp i with | some bk => bk.full | none => false
theorem hcall_of {f : FuncId} {fn : Func} {c : Code} {args : List AV} {hp : Hp} {news pins : List Nat} {Q : AV → Hp → Prop} {n : Nat} {rs : Array ResultVar} (hf : P.funcs[f]? = some fn) (hb : fn.body = some c) (hn : fn.ntmps = n) (hrs : fn.results = rs)
    (hg : (AV.mentL 1000000000 args || mentHp 1000000000 hp) = false) (hids : 1000000000 ∉ keysH hp ++ news) (hp1 : pinsOk hp pins = true)
    (h : AW P c ⟨args ++ List.replicate (n - args.length) .any, hp ++ [(1000000000, ghBlk (pins.map fun i => AV.ptr i 0))]⟩ (HFin P rs (keysH hp ++ news) pins (recI hp) Q)) : HCall P f args hp news pins Q := by
  intro hle β G w vals out lp hH hno ⟨hl, hc⟩
  subst hn
  simp only [Bool.or_eq_false_iff] at hg
  obtain ⟨hg1, hg2⟩ := hg
  have hgk : hget hp 1000000000 = none := by
    cases hq : hget hp 1000000000 with
    | none => rfl
    | some bk => rw [mentHp_key hq] at hg2; cases hg2
  -- the pinned blocks
  have hpa : ∀ i ∈ pins, ∃ b t, β i = .at b t := fun i hi => by
    have := List.all_eq_true.1 hp1 i hi
    cases hq : hget hp i with
    | none => rw [hq] at this; cases this
    | some bk =>
      rw [hq] at this
      simp only at this
      have h0 := hH.blk i bk hq
      unfold BlkOk at h0
      cases hβ : β i with
      | no => rw [hβ] at h0; exact h0.elim
      | nil => rw [hβ] at h0; rw [this] at h0; cases h0.2
      | gh o => rw [hβ] at h0; have h1 := GhB.big h0; rw [this] at h1; cases h1.1
      | «at» b t => exact ⟨b, t, rfl⟩
  let pv : Nat → Value := fun i => match β i with | .at b _ => .pointer (some ⟨b, 0, none⟩) | _ => undef
  let out' : Nat → Option (List Value) := fun i => if i = 1000000000 then some (pins.map pv) else out i
  let β1 := β.set 1000000000 (.gh none)
  have hoth : ∀ i, i ≠ 1000000000 → β1 i = β i := fun i hi => by simp [β1, Ids.set, hi]
  have hH1 : RepH ⟨w, lentS β (keysH hp), G, out', lp⟩ β1 G (hp ++ [(1000000000, ghBlk (pins.map fun i => AV.ptr i 0))]) w := by
    have hc1 : ∀ {i bk}, hget hp i = some bk → ∀ u ∈ bk.cs, ∀ v, Conc G β u v → Conc G β1 u v := fun {i bk} hi u hu v hcv => by
      obtain ⟨j, hj⟩ := List.getElem?_of_mem hu
      refine hcv.setId ?_ _
      cases hm : AV.ment 1000000000 u with
      | false => rfl
      | true => rw [mentHp_cell hi (mentL_mem hj hm)] at hg2; cases hg2
    refine ⟨hH.gs, fun i bk hi => ?_, fun i j b t t' hi hj hbi hbj => ?_, ⟨hH.keeps.os, hH.keeps.tape, hH.keeps.output, hH.keeps.size, hH.keeps.block⟩, hH.dom, fun i hi => ?_⟩
    · rw [hget_append] at hi
      cases hq : hget hp i with
      | some bk' =>
        rw [hq] at hi; simp at hi; subst hi
        have hne : i ≠ 1000000000 := fun e => by subst e; rw [hgk] at hq; cases hq
        have := hH.blk i bk' hq
        unfold BlkOk at this ⊢
        rw [hoth i hne]
        cases hβ : β i with
        | no => rw [hβ] at this; exact this
        | nil => rw [hβ] at this; exact this
        | gh o =>
          rw [hβ] at this
          rcases gh_same this (fun _ _ h => h) fun u hu v hcv => hc1 hq u hu v hcv with ⟨outs, k0, k1, k2, k3⟩ | hm
          · refine .inl ⟨outs, by simp only [out', hne, if_false]; exact k0, k1, ?_, k3⟩
            cases o with
            | none => exact k2
            | some p => exact k2
          · exact .inr hm
        | «at» b t =>
          rw [hβ] at this
          obtain ⟨g1, g2, arr, g3, g4, g5, g6, g7⟩ := this
          exact ⟨g1, g2, arr, g3, g4, g5, g6, fun j u v hu hv => hc1 hq u (List.mem_of_getElem? hu) v (g7 j u v hu hv)⟩
      | none =>
        rw [hq] at hi
        simp only [hget, Option.none_or] at hi
        split at hi
        · rename_i e; subst e; injection hi with hi; subst hi
          unfold BlkOk
          have : β1 1000000000 = .gh none := by simp [β1, Ids.set]
          rw [this]
          refine .inl ⟨pins.map pv, by simp [out'], ⟨rfl, Nat.le_refl _⟩, Nat.sub_self 1000000000, by simp [ghBlk], fun j u v hu hv => ?_⟩
          simp only [ghBlk, List.getElem?_map, Option.map_eq_some_iff] at hu hv
          obtain ⟨i, hi, rfl⟩ := hu
          obtain ⟨i', hi', rfl⟩ := hv
          rw [hi] at hi'; injection hi' with hi'; subst hi'
          have him := List.mem_of_getElem? hi
          obtain ⟨b, t, hbt⟩ := hpa i him
          have hne : i ≠ 1000000000 := fun e => by have := hH.idr i (.inr ⟨b, t, hbt⟩); omega
          have hpv : pv i = .pointer (some ⟨b, 0, none⟩) := by simp only [pv, hbt]
          rw [hpv]
          exact .ptr (by rw [hoth i hne]; exact hbt)
        · cases hi
    · have n1 : i ≠ 1000000000 := fun e => by subst e; simp [β1, Ids.set] at hbi
      have n2 : j ≠ 1000000000 := fun e => by subst e; simp [β1, Ids.set] at hbj
      rw [hoth i n1] at hbi
      rw [hoth j n2] at hbj
      have key : ∀ i, i ≠ 1000000000 → (hget (hp ++ [(1000000000, ghBlk (pins.map fun i => AV.ptr i 0))]) i).isSome → (hget hp i).isSome := fun i hi his => by
        rw [hget_append] at his
        cases hq : hget hp i with
        | some bk => rfl
        | none => rw [hq] at his; simp [hget, Ne.symm hi] at his
      exact hH.inj i j b t t' (key i n1 hi) (key j n2 hj) hbi hbj
    · by_cases he : i = 1000000000
      · subst he; simp [β1, Ids.set] at hi
      · rw [hoth i he] at hi; exact hH.idr i hi
  have hc1 : ∀ (j : Nat) x y, args[j]? = some x → vals[j]? = some y → Conc G β1 x y := fun j x y hx hy => (hc j x y hx hy).setId (mentL_get hg1 hx) _
  refine calls_of_aw (R := ⟨w, lentS β (keysH hp), G, out', lp⟩) (β := β1) (G := G) hf hb hrs (rep_start hl hc1 hH1) h fun e s' hq => ?_
  have key : (∃ s'' x hp', Le s' s'' ∧ RV P rs s'' x ∧ hsub s''.hp hp' ∧ hget s''.hp 1000000000 = some (ghBlk (pins.map fun i => AV.ptr i 0)) ∧ Within (keysH hp ++ news) x hp' ∧ recK hp' (recI hp) = true ∧ Q x hp') →
      ∃ s'' x, Le s' s'' ∧ RV P rs s'' x ∧ ∀ β2 G2 y w2, Conc G2 β2 x y → RepH ⟨w, lentS β (keysH hp), G, out', lp⟩ β2 G2 s''.hp w2 →
      (fun (e : Ending) (w' : World) => ∃ y G' β' x hp', e = .returned y ∧ Q x hp' ∧ Within (keysH hp ++ news) x hp' ∧ PinR β β' pins ∧ GhR β β' (keysH hp) ∧ Conc G' β' x y ∧ RepH ⟨w, lentS β (keysH hp), G, out, lp⟩ β' G' hp' w') (.returned y) w2 := by
    rintro ⟨s'', x, hp', hle, hrv, hsu, hgh, hwi, hrk, hQ⟩
    refine ⟨s'', x, hle, hrv, fun β2 G2 y w2 hcy hH2 => ⟨y, G2, β2, x, hp', rfl, hQ, hwi, fun i hi b t hbt => ?_, fun i hi p hpi hip => ?_, hcy, ?_⟩⟩
    · obtain ⟨o, ho, h7⟩ := gh_id hH2 hgh
      rcases h7 with ⟨outs, k0, _, _, _, k4⟩ | ⟨_, _, _, _, ⟨_, _, h8⟩, _⟩
      rotate_left
      · omega
      simp only [out', if_true] at k0
      injection k0 with k0; subst k0
      obtain ⟨j, hj⟩ := List.getElem?_of_mem hi
      have hpv : pv i = .pointer (some ⟨b, 0, none⟩) := by simp only [pv, hbt]
      have := k4 j (.ptr i 0) (pv i) (by simp [ghBlk, hj]) (by simp [hj])
      rw [hpv] at this
      cases this with
      | ptr hh => exact ⟨_, hh⟩
    · obtain ⟨bk, hbk⟩ := keysH_mem.1 hi
      have h0 := hH.blk i bk hbk
      unfold BlkOk at h0
      rw [hip] at h0
      obtain ⟨r1, r3, r2⟩ := gh_rec h0
      have hpm : p.2.mp = false := by
        cases hq : p.2.mp with
        | false => rfl
        | true => have := (r3 p.1 p.2 rfl hq).1; omega
      obtain ⟨D, k1, _⟩ := (r2 p.1 p.2 rfl).2.2 hpm
      obtain ⟨hbig, bk', hbk', hT'⟩ := recK_get hrk (recI_get hbk (r1.2 ⟨p.1, p.2, rfl, hpm⟩))
      have h3 := (hH2.sub hsu).blk i bk' hbk'
      unfold BlkOk at h3
      cases hβ : β2 i with
      | no => rw [hβ] at h3; exact h3.elim
      | nil => exact absurd (hH2.idr i (.inl hβ)) (Nat.not_le.2 (Nat.lt_of_succ_le hbig))
      | «at» b t => exact absurd (hH2.idr i (.inr ⟨b, t, hβ⟩)) (Nat.not_le.2 (Nat.lt_of_succ_le hbig))
      | gh o =>
        rw [hβ] at h3
        obtain ⟨q1, _, q2⟩ := gh_rec h3
        cases o with
        | none => obtain ⟨_, _, e, _⟩ := q1.1 hT'; cases e
        | some p' =>
          obtain ⟨l', y', e', hm'⟩ := q1.1 hT'
          injection e' with e'
          subst e'
          obtain ⟨D', k2, _⟩ := (q2 l' y' rfl).2.2 hm'
          simp only at k1 k2
          rw [k1] at k2
          injection k2 with k2
          injection k2 with e1 e2
          injection e2 with e2 e3
          have : p = (l', y') := Prod.ext e1 e3
          rw [this]
    · have hne : ∀ i bk, hget hp' i = some bk → i ≠ 1000000000 := fun i bk hi e => by
        subst e
        have := (hwi 1000000000 hids).2
        rw [mentHp_key hi] at this; cases this
      have h3 := hH2.sub hsu
      refine ⟨h3.gs, fun i bk hi => ?_, h3.inj, ⟨h3.keeps.os, h3.keeps.tape, h3.keeps.output, h3.keeps.size, h3.keeps.block⟩, h3.dom, h3.idr⟩
      have := h3.blk i bk hi
      unfold BlkOk at this ⊢
      cases hβ : β2 i with
      | no => rw [hβ] at this; exact this
      | nil => rw [hβ] at this; exact this
      | «at» b t => rw [hβ] at this; exact this
      | gh o =>
        rw [hβ] at this
        rcases this with ⟨outs, k0, k1, k2, k3⟩ | hm
        · simp only [out', hne i bk hi, if_false] at k0
          refine .inl ⟨outs, k0, k1, ?_, k3⟩
          cases o with
          | none => exact k2
          | some p => exact k2
        · exact .inr hm
  cases e with
  | normal => exact ⟨.inl rfl, key hq⟩
  | ret => exact ⟨.inr rfl, key hq⟩
  | _ => exact hq.elim

/-! Words for walks. -/
theorem rv_zero {s : St} : RV P #[] s (.tup []) := fun fn hf R β G a w hr => by
  refine ⟨.tuple #[], ?_, .tup [] rfl fun j x y hx => by simp at hx⟩
  rw [results_eq, hf]
  simp
theorem hin_nil {H : Hp} : ∀ id bk, hget [] id = some bk → hget H id = some bk := fun _ _ h => by simp [hget] at h
theorem hin_cons {H r : Hp} {i : Nat} {b : Blk} (h : hget H i = some b) (hr : ∀ id bk, hget r id = some bk → hget H id = some bk) : ∀ id bk, hget ((i, b) :: r) id = some bk → hget H id = some bk := fun id bk hb => by
  simp only [hget] at hb
  split at hb
  · rename_i e; subst e; injection hb with hb; subst hb; exact h
  · exact hr id bk hb
/-! Only ids that are listed. -/
mutual
def AV.onl (ids : List Nat) : AV → Bool
  | .ptr i _ => memN i ids
  | .sl _ _ i _ _ => memN i ids
  | .yl i _ => memN i ids
  | .agg cs => AV.onlL ids cs
  | .tup cs => AV.onlL ids cs
  | .fn _ cs => AV.onlL ids cs
  | .any => true
  | .v _ => true
  | .isl _ _ _ => true
  | .iptr _ => true
def AV.onlL (ids : List Nat) : List AV → Bool
  | [] => true
  | x :: r => AV.onl ids x && AV.onlL ids r
end
def onlHp (ids : List Nat) : Hp → Bool
  | [] => true
  | (i, b) :: r => memN i ids && AV.onlL ids b.cs && onlHp ids r
theorem onl_ment {ids : List Nat} {id : Nat} (hid : id ∉ ids) : ∀ (x : AV), AV.onl ids x = true → AV.ment id x = false := by
  intro x
  induction x using AV.rec (motive_2 := fun cs => AV.onlL ids cs = true → AV.mentL id cs = false) with
  | agg cs ih => intro h; simp only [AV.onl] at h; simp only [AV.ment]; exact ih h
  | tup cs ih => intro h; simp only [AV.onl] at h; simp only [AV.ment]; exact ih h
  | fn f cs ih => intro h; simp only [AV.onl] at h; simp only [AV.ment]; exact ih h
  | ptr i o => intro h; simp only [AV.onl, memN_iff] at h; simp only [AV.ment, beq_eq_false_iff_ne]; rintro rfl; exact hid h
  | sl a b i o n => intro h; simp only [AV.onl, memN_iff] at h; simp only [AV.ment, beq_eq_false_iff_ne]; rintro rfl; exact hid h
  | yl i y => intro h; simp only [AV.onl, memN_iff] at h; simp only [AV.ment, beq_eq_false_iff_ne]; rintro rfl; exact hid h
  | nil => rfl
  | cons x r h1 h2 => rename_i h; simp only [AV.onlL, Bool.and_eq_true] at h; simp only [AV.mentL, h1 h.1, h2 h.2, Bool.or_self]
  | _ => intro _; rfl
theorem onlL_ment {ids : List Nat} {id : Nat} (hid : id ∉ ids) (cs : List AV) (h : AV.onlL ids cs = true) : AV.mentL id cs = false := by
  have := onl_ment hid (.agg cs) (by simpa only [AV.onl] using h)
  simpa only [AV.ment] using this
theorem onlHp_ment {ids : List Nat} {id : Nat} (hid : id ∉ ids) : ∀ (hp : Hp), onlHp ids hp = true → mentHp id hp = false
  | [], _ => rfl
  | (i, b) :: r, h => by
    simp only [onlHp, Bool.and_eq_true, memN_iff] at h
    simp only [mentHp, onlL_ment hid _ h.1.2, onlHp_ment hid r h.2, Bool.or_false, beq_eq_false_iff_ne]
    rintro rfl; exact hid h.1.1
theorem within_of {ids : List Nat} {x : AV} {hp : Hp} (h : (AV.onl ids x && onlHp ids hp) = true) : Within ids x hp := fun id hid => by
  simp only [Bool.and_eq_true] at h
  exact ⟨onl_ment hid x h.1, onlHp_ment hid hp h.2⟩
theorem okP_pur {ids pins : List Nat} : ∀ (x : AV), x.pur = true → AV.okP ids pins x = true := by
  intro x
  induction x using AV.rec (motive_2 := fun cs => AV.purL cs = true → AV.okPL ids pins cs = true) with
  | agg cs ih => intro h; simp only [AV.pur] at h; simp only [AV.okP]; exact ih h
  | tup cs ih => intro h; simp only [AV.pur] at h; simp only [AV.okP]; exact ih h
  | fn f cs ih => intro h; simp only [AV.pur] at h; simp only [AV.okP]; exact ih h
  | ptr => intro h; simp [AV.pur] at h
  | sl => intro h; simp [AV.pur] at h
  | yl => intro h; simp [AV.pur] at h
  | nil => rfl
  | cons x r h1 h2 => rename_i h; simp only [AV.purL, Bool.and_eq_true] at h; simp only [AV.okPL, h1 h.1, h2 h.2, Bool.and_self]
  | _ => intro _; rfl
theorem fixL_pur {ids pins : List Nat} {l : List AV} (h : AV.purL l = true) : AV.fixL ids pins l = l := by
  induction l with
  | nil => rfl
  | cons x r ih => simp only [AV.purL, Bool.and_eq_true] at h; simp only [AV.fixL, AV.fix, okP_pur x h.1, if_true, ih h.2]
theorem fixL_map {α : Type} (ids pins : List Nat) (f : α → AV) (xs : List α) (h : ∀ a, (f a).pur = true) : AV.fixL ids pins (xs.map f) = xs.map f := fixL_pur (purL_map f xs h)
theorem onl_pur {ids : List Nat} : ∀ (x : AV), x.pur = true → AV.onl ids x = true := by
  intro x
  induction x using AV.rec (motive_2 := fun cs => AV.purL cs = true → AV.onlL ids cs = true) with
  | agg cs ih => intro h; simp only [AV.pur] at h; simp only [AV.onl]; exact ih h
  | tup cs ih => intro h; simp only [AV.pur] at h; simp only [AV.onl]; exact ih h
  | fn f cs ih => intro h; simp only [AV.pur] at h; simp only [AV.onl]; exact ih h
  | ptr => intro h; simp [AV.pur] at h
  | sl => intro h; simp [AV.pur] at h
  | yl => intro h; simp [AV.pur] at h
  | nil => rfl
  | cons x r h1 h2 => rename_i h; simp only [AV.purL, Bool.and_eq_true] at h; simp only [AV.onlL, h1 h.1, h2 h.2, Bool.and_self]
  | _ => intro _; rfl
theorem onlL_pur {ids : List Nat} {l : List AV} (h : AV.purL l = true) : AV.onlL ids l = true := by
  induction l with
  | nil => rfl
  | cons x r ih => simp only [AV.purL, Bool.and_eq_true] at h; simp only [AV.onlL, onl_pur x h.1, ih h.2, Bool.and_self]
@[go_sem] theorem hh : (∀ (ids pins : List Nat), AV.fix ids pins .any = .any) ∧
  (∀ (ids pins : List Nat) (x : Value), AV.fix ids pins (.v x) = .v x) ∧
  (∀ (ids pins : List Nat) (a b : Nat) (es : List AV), AV.fix ids pins (.isl a b es) = .isl a b es) ∧
  (∀ (ids pins : List Nat) (es : List AV), AV.fix ids pins (.iptr es) = .iptr es) ∧
  (∀ (ids pins : List Nat) (i o : Nat), AV.fix ids pins (.ptr i o) = if (!memN i ids || memN i pins) = true then .ptr i o else .any) ∧
  (∀ (ids pins : List Nat) (a b i o n : Nat), AV.fix ids pins (.sl a b i o n) = if (!memN i ids) = true then .sl a b i o n else .any) ∧
  (∀ (ids pins : List Nat) (y : YInfo), AV.fix ids pins (.yl 1000000001 y) = .yl 1000000001 y) ∧
  (∀ (ids pins : List Nat) (l : List AV), AV.fix ids pins (.agg l) = if AV.okPL ids pins l = true then .agg l else .any) ∧
  (∀ (ids pins : List Nat) (l : List AV), AV.fix ids pins (.tup l) = if AV.okPL ids pins l = true then .tup l else .any) ∧
  (∀ (ids pins : List Nat) (f : FuncId) (l : List AV), AV.fix ids pins (.fn f l) = if AV.okPL ids pins l = true then .fn f l else .any) ∧
  (∀ (ids pins : List Nat), AV.fixL ids pins [] = []) ∧
  (∀ (ids pins : List Nat) (x : AV) (r : List AV), AV.fixL ids pins (x :: r) = AV.fix ids pins x :: AV.fixL ids pins r) ∧
  (∀ (ids pins : List Nat), fixHp ids pins [] = []) ∧
  (∀ (ids pins : List Nat) (i : Nat) (b : Blk) (r : Hp), fixHp ids pins ((i, b) :: r) = if memN i ids = true then fixHp ids pins r else (i, ⟨b.T, AV.fixL ids pins b.cs, b.full⟩) :: fixHp ids pins r) ∧
  (∀ (i : Nat), memN i [] = false) ∧ (∀ (i j : Nat) (r : List Nat), memN i (j :: r) = (i == j || memN i r)) ∧
  (keysH [] = []) ∧ (∀ (i : Nat) (b : Blk) (r : Hp), keysH ((i, b) :: r) = i :: keysH r) := by
  refine ⟨?_, ?_, ?_, ?_, ?_, ?_, ?_, ?_, ?_, ?_, ?_, ?_, ?_, ?_, ?_, ?_, ?_, ?_⟩ <;> intros <;> rfl
@[go_sem] theorem fix_map (ids pins : List Nat) (y : YInfo) : AV.fix ids pins (.yl 2000000001 y) = if (!memN 2000000001 ids) = true then .yl 2000000001 y else .any := rfl
@[go_sem] theorem okP_map (ids pins : List Nat) (y : YInfo) : AV.okP ids pins (.yl 2000000001 y) = !memN 2000000001 ids := rfl
@[go_sem] theorem hh2 : (∀ (ids pins : List Nat), AV.okPL ids pins [] = true) ∧
  (∀ (ids pins : List Nat) (x : AV) (r : List AV), AV.okPL ids pins (x :: r) = (AV.okP ids pins x && AV.okPL ids pins r)) ∧
  (∀ (ids pins : List Nat), AV.okP ids pins .any = true) ∧
  (∀ (ids pins : List Nat) (x : Value), AV.okP ids pins (.v x) = true) ∧
  (∀ (ids pins : List Nat) (a b : Nat) (es : List AV), AV.okP ids pins (.isl a b es) = true) ∧
  (∀ (ids pins : List Nat) (es : List AV), AV.okP ids pins (.iptr es) = true) ∧
  (∀ (ids pins : List Nat) (i o : Nat), AV.okP ids pins (.ptr i o) = (!memN i ids || memN i pins)) ∧
  (∀ (ids pins : List Nat) (a b i o n : Nat), AV.okP ids pins (.sl a b i o n) = !memN i ids) ∧
  (∀ (ids pins : List Nat) (y : YInfo), AV.okP ids pins (.yl 1000000001 y) = true) ∧
  (∀ (ids pins : List Nat) (l : List AV), AV.okP ids pins (.agg l) = AV.okPL ids pins l) ∧
  (∀ (ids pins : List Nat) (l : List AV), AV.okP ids pins (.tup l) = AV.okPL ids pins l) ∧
  (∀ (ids pins : List Nat) (f : FuncId) (l : List AV), AV.okP ids pins (.fn f l) = AV.okPL ids pins l) ∧
  (∀ (ids pins : List Nat) (xs : List Int), AV.fixL ids pins (xs.map AV.int) = xs.map AV.int) ∧
  (∀ (ids pins : List Nat) (xs : List Bool), AV.fixL ids pins (xs.map AV.bool) = xs.map AV.bool) ∧
  (∀ (ids : List Nat), AV.onlL ids [] = true) ∧
  (∀ (ids : List Nat) (x : AV) (r : List AV), AV.onlL ids (x :: r) = (AV.onl ids x && AV.onlL ids r)) ∧
  (∀ (ids : List Nat), onlHp ids [] = true) ∧
  (∀ (ids : List Nat) (i : Nat) (b : Blk) (r : Hp), onlHp ids ((i, b) :: r) = (memN i ids && AV.onlL ids b.cs && onlHp ids r)) ∧
  (∀ (ids : List Nat) (xs : List Int), AV.onlL ids (xs.map AV.int) = true) ∧
  (∀ (ids : List Nat) (xs : List Bool), AV.onlL ids (xs.map AV.bool) = true) := by
  refine ⟨?_, ?_, ?_, ?_, ?_, ?_, ?_, ?_, ?_, ?_, ?_, ?_, ?_, ?_, ?_, ?_, ?_, ?_, ?_, ?_⟩ <;> intros <;> first | rfl | exact fixL_map _ _ _ _ (fun _ => rfl) | exact onlL_pur (purL_map _ _ fun _ => rfl)
@[go_sem] theorem hh3 : (∀ (ids : List Nat), AV.onl ids .any = true) ∧
  (∀ (ids : List Nat) (x : Value), AV.onl ids (.v x) = true) ∧
  (∀ (ids : List Nat) (a b : Nat) (es : List AV), AV.onl ids (.isl a b es) = true) ∧
  (∀ (ids : List Nat) (es : List AV), AV.onl ids (.iptr es) = true) ∧
  (∀ (ids : List Nat) (i o : Nat), AV.onl ids (.ptr i o) = memN i ids) ∧
  (∀ (ids : List Nat) (a b i o n : Nat), AV.onl ids (.sl a b i o n) = memN i ids) ∧
  (∀ (ids : List Nat) (i : Nat) (y : YInfo), AV.onl ids (.yl i y) = memN i ids) ∧
  (∀ (ids : List Nat) (l : List AV), AV.onl ids (.agg l) = AV.onlL ids l) ∧
  (∀ (ids : List Nat) (l : List AV), AV.onl ids (.tup l) = AV.onlL ids l) ∧
  (∀ (ids : List Nat) (f : FuncId) (l : List AV), AV.onl ids (.fn f l) = AV.onlL ids l) := by
  refine ⟨?_, ?_, ?_, ?_, ?_, ?_, ?_, ?_, ?_, ?_⟩ <;> intros <;> rfl
@[go_sem] theorem hh4 : (∀ (ids : List Nat) (a b : List AV), AV.onlL ids (a ++ b) = (AV.onlL ids a && AV.onlL ids b)) ∧
  (∀ (ids pins : List Nat) (a b : List AV), AV.okPL ids pins (a ++ b) = (AV.okPL ids pins a && AV.okPL ids pins b)) ∧
  (∀ (ids pins : List Nat) (a b : List AV), AV.fixL ids pins (a ++ b) = AV.fixL ids pins a ++ AV.fixL ids pins b) := by
  refine ⟨fun ids a b => ?_, fun ids pins a b => ?_, fun ids pins a b => ?_⟩
  · induction a with
    | nil => rfl
    | cons x r ih => simp [AV.onlL, ih, Bool.and_assoc]
  · induction a with
    | nil => rfl
    | cons x r ih => simp [AV.okPL, ih, Bool.and_assoc]
  · induction a with
    | nil => rfl
    | cons x r ih => simp [AV.fixL, ih]
theorem enterH {f : FuncId} {fn : Func} {c : Code} {args fr : List AV} {hp hp2 : Hp} {news pins ids recs : List Nat} {Q : AV → Hp → Prop} {n : Nat} {rs : Array ResultVar} (hf : P.funcs[f]? = some fn) (hn : fn.ntmps = n)
    (h : AW P c ⟨fr, hp2⟩ (HFin P rs ids pins recs Q)) (hb : fn.body = some c := by rfl) (hrs : fn.results = rs := by rfl)
    (hg : (AV.mentL 1000000000 args || mentHp 1000000000 hp) = false := by first | rfl | (simp only [go_sem, Nat.reduceBEq, Bool.or_self, Bool.or_false, Bool.false_or]; done))
    (hid : keysH hp ++ news = ids := by rfl) (hrc : recI hp = recs := by rfl) (hids : memN 1000000000 (keysH hp ++ news) = false := by rfl) (hp1 : pinsOk hp pins = true := by rfl)
    (he : args ++ List.replicate (n - args.length) .any = fr := by simp only [go_sem, Nat.reduceAdd, Nat.reduceSub, List.replicate_succ, List.replicate_zero]; exact rfl)
    (he2 : hp ++ [(1000000000, ghBlk (pins.map fun i => AV.ptr i 0))] = hp2 := by simp only [ghBlk, List.map_cons, List.map_nil, List.cons_append, List.nil_append]; exact rfl) : HCall P f args hp news pins Q := by
  subst hid hrc
  exact hcall_of hf hb hn hrs hg (memN_f.1 hids) hp1 (by rw [he, he2]; exact h)
theorem hfin_eq {rs : Array ResultVar} {ids pins recs : List Nat} {Q : AV → Hp → Prop} {e : Exit} {s s' : St} {x : AV} {hp' : Hp} (hle : Le s s') (hrv : RV P rs s' x) (hs : hsub s'.hp hp') (hg : hget s'.hp 1000000000 = some (ghBlk (pins.map fun i => AV.ptr i 0)))
    (hw : (AV.onl ids x && onlHp ids hp') = true) (hQ : Q x hp')
    (he : e = .ret ∨ e = .normal := by first | exact .inl rfl | exact .inr rfl) (hrk : recK hp' recs = true := by rfl) : HFin P rs ids pins recs Q e s := by
  have : ∃ s' x hp', Le s s' ∧ RV P rs s' x ∧ hsub s'.hp hp' ∧ hget s'.hp 1000000000 = some (ghBlk (pins.map fun i => AV.ptr i 0)) ∧ Within ids x hp' ∧ recK hp' recs = true ∧ Q x hp' := ⟨s', x, hp', hle, hrv, hs, hg, within_of hw, hrk, hQ⟩
  rcases he with rfl | rfl <;> exact this
theorem hsS {a b : Prop} (h : b) (e : a = b := by (simp only [go_sem, Nat.reduceAdd, Nat.reduceMul, reduceIte, Nat.reduceEqDiff, Nat.reduceLeDiff, Int.reduceToNat, Int.reducePow, Int.reduceBEq, Int.reduceBNe, Int.reduceLT, Int.reduceLE, decide_true, decide_false, Nat.reduceBEq, Bool.or_self, Bool.or_true, Bool.true_or, Bool.or_false, Bool.false_or, Bool.and_true, Bool.true_and, Bool.and_false, Bool.false_and, Bool.and_self, Bool.not_true, Bool.not_false, List.cons_append, List.nil_append, List.append_nil, if_true, if_false, Bool.false_eq_true, keysH]; exact rfl)) : a := e ▸ h
end Go.Ab
