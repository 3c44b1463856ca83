/- The abstract layer, first half: values without addresses, states without worlds, and a rule for each operation of the model. -/
import Derived.Deep.AppendLies
import Derived.Great.BuildSlice
import Derived.Laws.Small
import Derived.Laws.StructEq
import Derived.Lib.SliceRun
import Derived.Maps.AppendAt
import Derived.Orders
import Derived.RangeFuncCalls
import Derived.RangeFuncLeaves
import Derived.RangeFuncRecord
import Derived.WalkKit
set_option linter.unusedSimpArgs false
set_option linter.unusedVariables false
namespace Go.Ab
open Go.RowKit

/-- What a range over a function does with each round: the function, the variables, the codes. -/
structure YInfo where
  fn : FuncId
  ps : Array Tmp
  assign : Code
  body : Code
  mp : Bool := false
/-- What marks a map. -/
def mapY : YInfo := { fn := 0, ps := #[], assign := .skip, body := .skip, mp := true }
/-- Abstract values. -/
inductive AV where
  | any
  | v (x : Value)
  | agg (cs : List AV)
  | tup (cs : List AV)
  | isl (sz bw : Nat) (es : List AV)
  | iptr (cs : List AV)
  | ptr (id off : Nat)
  | sl (sz bw id off n : Nat)
  | fn (f : FuncId) (caps : List AV)
  | yl (id : Nat) (y : YInfo)
  deriving Inhabited

namespace AV
abbrev int (n : Int) : AV := .v (.int .i64 n)
abbrev bool (b : Bool) : AV := .v (.bool b)
abbrev nilS : AV := .v (.slice none 0 0)

def cells : AV → List AV
  | .agg cs => cs
  | x => [x]

def ofVal : Value → AV
  | .agg cs => .agg (cs.toList.map AV.v)
  | x => .v x

mutual
def ment (id : Nat) : AV → Bool
  | .ptr i _ => i == id
  | .sl _ _ i _ _ => i == id
  | .yl i _ => i == id
  | .agg cs => mentL id cs
  | .tup cs => mentL id cs
  | .fn _ cs => mentL id cs
  | .any => false
  | .v _ => false
  | .isl _ _ _ => false
  | .iptr _ => false
def mentL (id : Nat) : List AV → Bool
  | [] => false
  | x :: r => ment id x || mentL id r
end

/-- One memory cell. -/
def one : AV → Bool
  | .v x => x.oneCell'
  | .isl _ _ _ => true
  | .iptr _ => true
  | .ptr _ _ => true
  | .sl _ _ _ _ _ => true
  | .fn _ _ => true
  | .yl _ _ => true
  | .any => false
  | .agg _ => false
  | .tup _ => false
end AV

/-- What an id stands for: unknown, a nil slice's absent block, a block with its number of cells, or a frame that waits (with the record of its loop). -/
inductive BK where
  | no
  | nil
  | at (b tot : Nat)
  | gh (o : Option (Nat × YInfo))

abbrev Ids := Nat → BK
abbrev Seal := Nat → Option Obj
def nob : Ids := fun _ => .no
def Ids.set (β : Ids) (id : Nat) (k : BK) : Ids := fun i => if i = id then k else β i

/-- The cell at an address, as far as it lies in a sealed block. -/
def gcell (G : Seal) (a : Addr) : Option Value :=
  match G a.block with
  | some (.cells c _ _) => if a.spot.isSome then none else c[a.off]?
  | _ => none

def reach : Nat := 140737488355328

/-- The value of a loop's yield, or of a map. -/
def ylVal (y : YInfo) (l : Nat) : Value := if y.mp then .map (some l) else .func (.yield l) #[] #[]
inductive Conc (G : Seal) : Ids → AV → Value → Prop where
  | any {β x} : Conc G β .any x
  | v {β x} : Conc G β (.v x) x
  | agg {β cs} (xs : List Value) (hl : cs.length = xs.length)
      (hs : ∀ (j : Nat) x y, cs[j]? = some x → xs[j]? = some y → Conc G β x y) : Conc G β (.agg cs) (.agg xs.toArray)
  | tup {β cs} (xs : List Value) (hl : cs.length = xs.length)
      (hs : ∀ (j : Nat) x y, cs[j]? = some x → xs[j]? = some y → Conc G β x y) : Conc G β (.tup cs) (.tuple xs.toArray)
  | fn {β f cs} (xs : List Value) (hf : f ≤ 999999999) (hl : cs.length = xs.length)
      (hs : ∀ (j : Nat) x y, cs[j]? = some x → xs[j]? = some y → Conc G β x y) : Conc G β (.fn f cs) (.func (.func f) #[] xs.toArray)
  | ifc {β T x v} (h : Conc G β x v) : Conc G β (.fn (1000000000 + T) [x]) (.iface T v)
  | ptr {β id off b t} (h : β id = .at b t) : Conc G β (.ptr id off) (.pointer (some ⟨b, off, none⟩))
  | yl {β id y l} (h : β id = .gh (some (l, y))) : Conc G β (.yl id y) (ylVal y l)
  | slN {β sz bw id} (h : β id = .nil) : Conc G β (.sl sz bw id 0 0) (.slice none 0 0)
  | sl {β sz bw id off n c b t} (h : β id = .at b t) (hn : n ≤ c) (ht : off + c * sz = t) (hm : c ≤ maxLen) (hb : n * bw ≤ reach) :
      Conc G β (.sl sz bw id off n) (.slice (some ⟨b, off, none⟩) n c)
  | isl {β sz bw es A c} (ys : List Value) (hu : ∀ e ∈ es, e.cells.length = sz) (hl : ys.length = es.length * sz)
      (hc : es.length ≤ c) (hb : es.length * bw ≤ reach) (hA : 0 < es.length → A ≠ none)
      (hr : ∀ (j : Nat) y, ys[j]? = some y → ∃ a, A = some a ∧ gcell G (a.add j) = some y)
      (hs : ∀ (j : Nat) x y, (es.flatMap AV.cells)[j]? = some x → ys[j]? = some y → Conc G nob x y) :
      Conc G β (.isl sz bw es) (.slice A es.length c)
  | iptr {β cs a} (ys : List Value) (hl : ys.length = cs.length)
      (hr : ∀ (j : Nat) y, ys[j]? = some y → gcell G (a.add j) = some y)
      (hs : ∀ (j : Nat) x y, cs[j]? = some x → ys[j]? = some y → Conc G nob x y) : Conc G β (.iptr cs) (.pointer (some a))

theorem mentL_get {id : Nat} : ∀ {cs : List AV} {j : Nat} {x : AV}, AV.mentL id cs = false → cs[j]? = some x → AV.ment id x = false
  | [], _, _, _, h => by simp at h
  | c :: cs, 0, x, h, hx => by simp at hx; subst hx; simp [AV.mentL] at h; exact h.1
  | c :: cs, j+1, x, h, hx => by simp at hx; simp [AV.mentL] at h; exact mentL_get h.2 hx

theorem gcell_mono {G G' : Seal} (hG : ∀ b o, G b = some o → G' b = some o) {a : Addr} {y : Value} (h : gcell G a = some y) : gcell G' a = some y := by
  unfold gcell at *
  cases hg : G a.block with
  | none => rw [hg] at h; cases h
  | some o => rw [hg] at h; rw [hG _ _ hg]; exact h

/-- Concretization is stable under growth of the sealed part, and looks only at ids that are mentioned. -/
theorem Conc.extG {G G' : Seal} {β β' : Ids} {x : AV} {y : Value} (h : Conc G β x y)
    (hβ : ∀ id, AV.ment id x = true → β' id = β id) (hG : ∀ a y, gcell G a = some y → gcell G' a = some y) : Conc G' β' x y := by
  induction h generalizing β' with
  | any => exact .any
  | v => exact .v
  | agg xs hl _ ih =>
    refine .agg xs hl fun j x y hx hy => ih j x y hx hy (fun id hm => hβ id ?_)
    simp only [AV.ment]
    cases hq : AV.mentL id _ with
    | true => rfl
    | false => rw [mentL_get hq hx] at hm; cases hm
  | tup xs hl _ ih =>
    refine .tup xs hl fun j x y hx hy => ih j x y hx hy (fun id hm => hβ id ?_)
    simp only [AV.ment]
    cases hq : AV.mentL id _ with
    | true => rfl
    | false => rw [mentL_get hq hx] at hm; cases hm
  | fn xs hf hl _ ih =>
    refine .fn xs hf hl fun j x y hx hy => ih j x y hx hy (fun id hm => hβ id ?_)
    simp only [AV.ment]
    cases hq : AV.mentL id _ with
    | true => rfl
    | false => rw [mentL_get hq hx] at hm; cases hm
  | ifc _ ih => exact .ifc (ih (fun id hm => hβ id (by simp [AV.ment, AV.mentL, hm])))
  | ptr h => exact .ptr (by rw [hβ _ (by simp [AV.ment])]; exact h)
  | slN h => exact .slN (by rw [hβ _ (by simp [AV.ment])]; exact h)
  | yl h => exact .yl (by rw [hβ _ (by simp [AV.ment])]; exact h)
  | sl h hn ht hm hb => exact .sl (by rw [hβ _ (by simp [AV.ment])]; exact h) hn ht hm hb
  | isl ys hu hl hc hb hA hr hs ih =>
    exact .isl ys hu hl hc hb hA (fun j y hy => let ⟨a, ha, hg⟩ := hr j y hy; ⟨a, ha, hG _ _ hg⟩)
      (fun j x y hx hy => ih j x y hx hy (fun _ _ => rfl))
  | iptr ys hl hr hs ih =>
    exact .iptr ys hl (fun j y hy => hG _ _ (hr j y hy)) (fun j x y hx hy => ih j x y hx hy (fun _ _ => rfl))

theorem Conc.ext {G G' : Seal} {β β' : Ids} {x : AV} {y : Value} (h : Conc G β x y)
    (hβ : ∀ id, AV.ment id x = true → β' id = β id) (hG : ∀ b o, G b = some o → G' b = some o) : Conc G' β' x y := h.extG hβ fun _ _ h => gcell_mono hG h
theorem Conc.mono {G G' : Seal} {β : Ids} {x : AV} {y : Value} (h : Conc G β x y) (hG : ∀ b o, G b = some o → G' b = some o) : Conc G' β x y :=
  h.ext (fun _ _ => rfl) hG

/-- A value that mentions no id may be read under any naming. -/
theorem Conc.free {G : Seal} {x : AV} {y : Value} (h : Conc G nob x y) : ∀ β' : Ids, Conc G β' x y := by
  have key : ∀ {β x y}, Conc G β x y → (∀ id, β id = .no) → ∀ β' : Ids, Conc G β' x y := by
    intro β x y h
    induction h with
    | any => intro _ _; exact .any
    | v => intro _ _; exact .v
    | agg xs hl _ ih => intro hn β'; exact .agg xs hl fun j x y hx hy => ih j x y hx hy hn β'
    | tup xs hl _ ih => intro hn β'; exact .tup xs hl fun j x y hx hy => ih j x y hx hy hn β'
    | fn xs hf hl _ ih => intro hn β'; exact .fn xs hf hl fun j x y hx hy => ih j x y hx hy hn β'
    | ifc _ ih => intro hn β'; exact .ifc (ih hn β')
    | ptr h => intro hn; rw [hn] at h; cases h
    | slN h => intro hn; rw [hn] at h; cases h
    | yl h => intro hn; rw [hn] at h; cases h
    | sl h => intro hn; rw [hn] at h; cases h
    | isl ys hu hl hc hb hA hr hs _ => intro _ β'; exact .isl ys hu hl hc hb hA hr hs
    | iptr ys hl hr hs _ => intro _ β'; exact .iptr ys hl hr hs
  exact key h (fun _ => rfl)

theorem Conc.one {G : Seal} {β : Ids} {x : AV} {y : Value} (h : Conc G β x y) (h1 : x.one = true) : y.oneCell' = true := by
  cases h with
  | @yl _ _ y l _ => unfold ylVal; split <;> rfl
  | _ => simp_all [AV.one, Value.oneCell']

/-! ### The state -/
structure Blk where
  T : TypeId
  cs : List AV
  full : Bool

abbrev Hp := List (Nat × Blk)
def hget : Hp → Nat → Option Blk
  | [], _ => none
  | (i, b) :: r, k => if i = k then some b else hget r k
def hset : Hp → Nat → Blk → Hp
  | [], k, x => [(k, x)]
  | (i, b) :: r, k, x => if i = k then (i, x) :: r else (i, b) :: hset r k x
def hdel : Hp → Nat → Hp
  | [], _ => []
  | (i, b) :: r, k => if i = k then hdel r k else (i, b) :: hdel r k

theorem hget_hset (hp : Hp) (k : Nat) (x : Blk) (i : Nat) : hget (hset hp k x) i = if k = i then some x else hget hp i := by
  induction hp with
  | nil => simp [hset, hget]
  | cons p r ih =>
    obtain ⟨j, b⟩ := p
    by_cases hjk : j = k
    · subst hjk
      simp only [hset, if_true, hget]
      split <;> rfl
    · simp only [hset, hjk, if_false, hget, ih]
      by_cases hji : j = i
      · subst hji; simp [Ne.symm hjk]
      · simp [hji]

theorem hget_hdel (hp : Hp) (k i : Nat) : hget (hdel hp k) i = if k = i then none else hget hp i := by
  induction hp with
  | nil => simp [hdel, hget]
  | cons p r ih =>
    obtain ⟨j, b⟩ := p
    by_cases hjk : j = k
    · subst hjk
      simp only [hdel, if_true, ih, hget]
      split <;> rfl
    · simp only [hdel, hjk, if_false, hget, ih]
      by_cases hji : j = i
      · subst hji; simp [Ne.symm hjk]
      · simp [hji]

structure St where
  fr : List AV
  hp : Hp

def St.put (s : St) (d : Option Nat) (x : AV) : St :=
  match d with
  | some d => { s with fr := s.fr.set d x }
  | none => s

/-- A function by its number. -/
def fnA (f : FuncId) : AV := if f ≤ 999999999 then .fn f [] else .any
theorem fnA_ok {f : FuncId} (h : f ≤ 999999999) : fnA f = .fn f [] := if_pos h
def St.eval (s : St) : Operand → AV
  | .tmp t => s.fr.getD t .any
  | .const x => .ofVal x
  | .global _ => .any
  | .func f => fnA f

def mentHp (id : Nat) : Hp → Bool
  | [] => false
  | (i, b) :: r => i == id || AV.mentL id b.cs || mentHp id r

/-- The id is in no use. -/
def St.free (s : St) (id : Nat) : Bool := decide (id ≤ 999999999) && !(AV.mentL id s.fr || mentHp id s.hp)

/-- The call's rigid part: the world at its start, and the blocks that were lent to it. -/
structure Rg where
  w0 : World
  ex : Nat → Prop
  g0 : Seal
  out : Nat → Option (List Value)
  lp : Nat → Option (Nat × Nat × YInfo)

structure Keeps (R : Rg) (w : World) : Prop where
  os : w.os = R.w0.os
  tape : w.tape = R.w0.tape
  output : w.output = R.w0.output
  size : R.w0.heap.size ≤ w.heap.size
  block : ∀ k, k < R.w0.heap.size → ¬ R.ex k → w.heap[k]? = R.w0.heap[k]?

/-- The state of a loop's record: 0 ready, 1 in a round, 2 left by a return, k + 3 left by the exit k. -/
def stT : Nat → LoopState
  | 0 => .ready
  | 1 => .busy
  | _ => .done
def peT : Nat → Option Code
  | 0 => none
  | 1 => none
  | 2 => some .ret
  | k + 3 => some (.exit k)
def YInfo.loop (y : YInfo) (T : Nat) (outs : List Value) (D : Nat) : Loop := { state := stT T, pending := peT T, fn := y.fn, tmps := outs.toArray, params := y.ps, assign := y.assign, body := y.body, defers := D }
def ghLp (R : Rg) (G : Seal) (id : Nat) (T : Nat) (outs : List Value) : Option (Nat × YInfo) → Prop
  | none => T = 0
  | some (l, y) => 1 ≤ T ∧ y.mp = false ∧ ∃ D, R.lp id = some (l, D, y) ∧ D < R.w0.heap.size ∧ l < R.w0.heap.size ∧ R.ex l ∧ G l = some (.loop (y.loop (T - 1) outs D)) ∧ G D = some (.deferred (some []))
theorem ghLp.mono {R : Rg} {G G' : Seal} {id T : Nat} {outs : List Value} {o : Option (Nat × YInfo)} (h : ghLp R G id T outs o) (hG : ∀ b x, G b = some x → G' b = some x) : ghLp R G' id T outs o := by
  cases o with
  | none => exact h
  | some p => obtain ⟨h0, hp, D, h1, h4, h5, h6, h2, h3⟩ := h; exact ⟨h0, hp, D, h1, h4, h5, h6, hG _ _ h2, hG _ _ h3⟩
/-- A map's entries, one by one. -/
def flatE (es : Array MapEntry) : List Value := es.toList.flatMap fun e => [e.key, e.val]
/-- A frame that waits. -/
def GhF (R : Rg) (β : Ids) (G : Seal) (id : Nat) (T : Nat) (fl : Bool) (cs : List AV) (o : Option (Nat × YInfo)) : Prop :=
  ∃ outs, R.out id = some outs ∧ (fl = false ∧ 1000000000 ≤ T) ∧ ghLp R G id (T - 1000000000) outs o ∧ cs.length = outs.length ∧ ∀ (j : Nat) x y, cs[j]? = some x → outs[j]? = some y → Conc G β x y
/-- A map. -/
def GhM (R : Rg) (β : Ids) (G : Seal) (id : Nat) (T : Nat) (fl : Bool) (cs : List AV) (o : Option (Nat × YInfo)) : Prop :=
  ∃ b es clock, o = some (b, mapY) ∧ (fl = false ∧ T = 1000000000 ∧ 2000000000 ≤ id) ∧ (R.w0.heap.size ≤ b ∨ R.ex b) ∧ G b = some (.map es clock) ∧ cs.length = (flatE es).length ∧ ∀ (j : Nat) x y, cs[j]? = some x → (flatE es)[j]? = some y → Conc G β x y
def GhB (R : Rg) (β : Ids) (G : Seal) (id : Nat) (T : Nat) (fl : Bool) (cs : List AV) (o : Option (Nat × YInfo)) : Prop := GhF R β G id T fl cs o ∨ GhM R β G id T fl cs o
theorem GhB.big {R : Rg} {β : Ids} {G : Seal} {id T : Nat} {fl : Bool} {cs : List AV} {o : Option (Nat × YInfo)} (h : GhB R β G id T fl cs o) : fl = false ∧ 1000000000 ≤ T := by
  rcases h with ⟨_, _, h, _⟩ | ⟨_, _, _, _, ⟨h1, h2, _⟩, _⟩
  · exact h
  · exact ⟨h1, by omega⟩

theorem GhB.view {R : Rg} {β : Ids} {G : Seal} {id T : Nat} {fl : Bool} {cs : List AV} {o : Option (Nat × YInfo)} (h : GhB R β G id T fl cs o) :
    ∃ outs : List Value, cs.length = outs.length ∧ (∀ (j : Nat) x y, cs[j]? = some x → outs[j]? = some y → Conc G β x y) ∧
      ∀ (β' : Ids) (cs' : List AV), cs'.length = outs.length → (∀ (j : Nat) x y, cs'[j]? = some x → outs[j]? = some y → Conc G β' x y) → GhB R β' G id T fl cs' o := by
  rcases h with ⟨outs, h0, h1, h2, h3, h4⟩ | ⟨b, es, clock, h0, h1, h2, h3, h4, h5⟩
  · exact ⟨outs, h3, h4, fun β' cs' k1 k2 => .inl ⟨outs, h0, h1, h2, k1, k2⟩⟩
  · exact ⟨flatE es, h4, h5, fun β' cs' k1 k2 => .inr ⟨b, es, clock, h0, h1, h2, h3, k1, k2⟩⟩
def BlkOk (R : Rg) (β : Ids) (G : Seal) (w : World) (id : Nat) (bk : Blk) : Prop :=
  match β id with
  | .no => False
  | .nil => bk.cs = [] ∧ bk.full = false
  | .at b tot => G b = none ∧ (R.w0.heap.size ≤ b ∨ R.ex b) ∧ ∃ arr : Array Value, w.heap[b]? = some (.cells arr bk.T (0, 0)) ∧ arr.size = tot ∧ bk.cs.length ≤ tot ∧
      (bk.full = true → bk.cs.length = tot) ∧ ∀ (j : Nat) x y, bk.cs[j]? = some x → arr[j]? = some y → Conc G β x y
  | .gh o => GhB R β G id bk.T bk.full bk.cs o

/-- The ids of blocks; beyond them lie those of frames that wait. -/
def IdR (β : Ids) : Prop := ∀ id, (β id = .nil ∨ ∃ b t, β id = .at b t) → id ≤ 999999999
theorem IdR.set {β : Ids} (h : IdR β) {id : Nat} (k : BK) (hid : id ≤ 999999999) : IdR (β.set id k) := fun i hi => by
  by_cases he : i = id
  · rw [he]; exact hid
  · simp only [Ids.set, he, if_false] at hi; exact h i hi
theorem IdR.gone {β : Ids} (h : IdR β) {id : Nat} : IdR (β.set id .no) := fun i hi => by
  by_cases he : i = id
  · subst he; simp [Ids.set] at hi
  · simp only [Ids.set, he, if_false] at hi; exact h i hi
theorem idr_nob : IdR nob := fun _ h => by rcases h with h | ⟨_, _, h⟩ <;> cases h
structure RepH (R : Rg) (β : Ids) (G : Seal) (hp : Hp) (w : World) : Prop where
  gs : ∀ b o, G b = some o → w.heap[b]? = some o
  blk : ∀ id bk, hget hp id = some bk → BlkOk R β G w id bk
  inj : ∀ i j b t t', (hget hp i).isSome → (hget hp j).isSome → β i = .at b t → β j = .at b t' → i = j
  keeps : Keeps R w
  dom : ∀ b, G b ≠ none → R.g0 b ≠ none ∨ R.w0.heap.size ≤ b ∨ R.ex b
  idr : IdR β

/-- What waits for the frame's end: the (empty) lists of loops over functions. -/
def DefOk (n : Nat) (G : Seal) (ds : List Deferred) : Prop :=
  ∃ Ds : List Nat, ds = Ds.map (fun D => { target := .collected D, args := #[] }) ∧ Ds.Nodup ∧ ∀ D ∈ Ds, n ≤ D ∧ G D = some (.deferred (some []))
theorem DefOk.mono {n : Nat} {G G' : Seal} {ds : List Deferred} (h : DefOk n G ds) (hG : ∀ b x, G b = some x → G' b = some x) : DefOk n G' ds :=
  let ⟨Ds, h1, h2, h3⟩ := h; ⟨Ds, h1, h2, fun D hD => ⟨(h3 D hD).1, hG _ _ (h3 D hD).2⟩⟩
theorem defOk_nil {n : Nat} {G : Seal} : DefOk n G [] := ⟨[], rfl, List.nodup_nil, fun _ h => by cases h⟩
/-- The waiting frame after a change of the ids and a growth of the seal. -/
theorem gh_mono {R : Rg} {β β' : Ids} {G G' : Seal} {id T : Nat} {fl : Bool} {o : Option (Nat × YInfo)} {cs : List AV} (h : GhB R β G id T fl cs o)
    (hG : ∀ b x, G b = some x → G' b = some x) (f : AV → AV) (hc : ∀ x ∈ cs, ∀ y, Conc G β x y → Conc G' β' (f x) y) (cs' : List AV) (hcs : cs' = cs.map f) : GhB R β' G' id T fl cs' o := by
  subst hcs
  have key : ∀ outs : List Value, (∀ (j : Nat) x y, cs[j]? = some x → outs[j]? = some y → Conc G β x y) → ∀ (j : Nat) x y, (cs.map f)[j]? = some x → outs[j]? = some y → Conc G' β' x y := fun outs h4 j x y hx hy => by
    rw [List.getElem?_map, Option.map_eq_some_iff] at hx
    obtain ⟨x0, hx0, rfl⟩ := hx
    exact hc x0 (List.mem_of_getElem? hx0) y (h4 j x0 y hx0 hy)
  rcases h with ⟨outs, h0, h1, h2, h3, h4⟩ | ⟨b, es, clock, h0, h1, h2, h3, h4, h5⟩
  · exact .inl ⟨outs, h0, h1, h2.mono hG, by rw [List.length_map]; exact h3, key outs h4⟩
  · exact .inr ⟨b, es, clock, h0, h1, h2, hG _ _ h3, by rw [List.length_map]; exact h4, key _ h5⟩
theorem gh_same {R : Rg} {β β' : Ids} {G G' : Seal} {id T : Nat} {fl : Bool} {o : Option (Nat × YInfo)} {cs : List AV} (h : GhB R β G id T fl cs o)
    (hG : ∀ b x, G b = some x → G' b = some x) (hc : ∀ x ∈ cs, ∀ y, Conc G β x y → Conc G' β' x y) : GhB R β' G' id T fl cs o :=
  gh_mono h hG (fun x => x) hc cs (by simp)

open Classical in
/-- What a called function is told of the frames that wait. -/
noncomputable def lpCut (R : Rg) : Nat → Option (Nat × Nat × YInfo) := fun i => (R.lp i).filter fun p => decide (p.1 < R.w0.heap.size) && decide (p.2.1 < R.w0.heap.size) && decide (R.ex p.1)
theorem gh_lend {R : Rg} {β : Ids} {G : Seal} {id T : Nat} {fl : Bool} {cs : List AV} {o : Option (Nat × YInfo)} {w : World} {ex : Nat → Prop} {g : Seal} (h : GhB R β G id T fl cs o) (hw : R.w0.heap.size ≤ w.heap.size) (hx : ∀ l y, o = some (l, y) → ex l) : GhB ⟨w, ex, g, R.out, lpCut R⟩ β G id T fl cs o := by
  rcases h with ⟨outs, h0, h1, h2, h3⟩ | ⟨b, es, clock, h0, h1, h2, h3⟩
  · refine .inl ⟨outs, h0, h1, ?_, h3⟩
    cases o with
    | none => exact h2
    | some p =>
      obtain ⟨k0, km, D, k1, k2, k3, k5, k4⟩ := h2
      exact ⟨k0, km, D, by simp [lpCut, k1, k2, k3, k5], Nat.lt_of_lt_of_le k2 hw, Nat.lt_of_lt_of_le k3 hw, hx _ _ rfl, k4⟩
  · exact .inr ⟨b, es, clock, h0, h1, .inr (hx _ _ h0), h3⟩
theorem gh_back {R : Rg} {β : Ids} {G : Seal} {id T : Nat} {fl : Bool} {cs : List AV} {o : Option (Nat × YInfo)} {w : World} {ex : Nat → Prop} {g : Seal} (h : GhB ⟨w, ex, g, R.out, lpCut R⟩ β G id T fl cs o) (hw : R.w0.heap.size ≤ w.heap.size) (hx : ∀ b, ex b → R.w0.heap.size ≤ b ∨ R.ex b) : GhB R β G id T fl cs o := by
  rcases h with ⟨outs, h0, h1, h2, h3⟩ | ⟨b, es, clock, h0, h1, h2, h3⟩
  · refine .inl ⟨outs, h0, h1, ?_, h3⟩
    cases o with
    | none => exact h2
    | some p =>
      obtain ⟨k0, km, D, k1, k2, k3, k5, k4⟩ := h2
      simp only [lpCut, Option.filter_eq_some_iff, Bool.and_eq_true, decide_eq_true_eq] at k1
      exact ⟨k0, km, D, k1.1, k1.2.1.2, k1.2.1.1, k1.2.2, k4⟩
  · refine .inr ⟨b, es, clock, h0, h1, ?_, h3⟩
    rcases h2 with h2 | h2
    · exact .inl (Nat.le_trans hw h2)
    · exact hx b h2

structure Rep (R : Rg) (β : Ids) (G : Seal) (s : St) (a : Act) (w : World) : Prop where
  defers : DefOk R.w0.heap.size G a.defers
  size : a.tmps.size = s.fr.length
  fr : ∀ (i : Nat) x y, s.fr[i]? = some x → a.tmps[i]? = some y → Conc G β x y
  hp : RepH R β G s.hp w

/-- Evaluation of an operand. -/
theorem Rep.eval {R : Rg} {β : Ids} {G : Seal} {s : St} {a : Act} {w : World} (h : Rep R β G s a w) (x : Operand) : Conc G β (s.eval x) (a.eval x) := by
  cases x with
  | tmp t =>
    simp only [St.eval, Act.eval]
    by_cases ht : t < s.fr.length
    · have h1 : s.fr[t]? = some s.fr[t] := List.getElem?_eq_getElem ht
      have h2 : a.tmps[t]? = some (a.tmps[t]'(by rw [h.size]; exact ht)) := Array.getElem?_eq_getElem (by rw [h.size]; exact ht)
      have := h.fr t _ _ h1 h2
      simp only [List.getD_eq_getElem?_getD, h1, Option.getD_some, Array.getD_eq_getD_getElem?, h2]
      exact this
    · simp only [List.getD_eq_getElem?_getD, List.getElem?_eq_none (Nat.le_of_not_lt ht), Option.getD_none]
      exact .any
  | const x =>
    simp only [St.eval, Act.eval]
    cases x <;> simp only [AV.ofVal] <;> try exact .v
    case agg cs =>
      have := Conc.agg (G := G) (β := β) (cs := cs.toList.map AV.v) cs.toList (by simp) (by
        intro j x y hx hy
        simp only [List.getElem?_map, hy, Option.map_some, Option.some.injEq] at hx
        subst hx; exact .v)
      simpa using this
  | global g => exact .any
  | func f =>
    simp only [St.eval, Act.eval, fnA]
    split
    · rename_i hf
      have := Conc.fn (G := G) (β := β) (f := f) (cs := []) [] hf rfl (by simp)
      simpa using this
    · exact .any

theorem Rep.put {R : Rg} {β : Ids} {G : Seal} {s : St} {a : Act} {w : World} (h : Rep R β G s a w) (d : Option Nat) {x : AV} {y : Value} (hx : Conc G β x y) :
    Rep R β G (s.put d x) (a.put d y) w := by
  cases d with
  | none => exact h
  | some d =>
    refine ⟨h.defers, by simp [St.put, Act.put, h.size], ?_, h.hp⟩
    intro i x' y' hi hj
    simp only [St.put, Act.put] at hi hj
    rw [List.getElem?_set] at hi
    rw [Array.getElem?_setIfInBounds] at hj
    by_cases hdi : d = i
    · subst hdi
      simp only [if_true] at hi hj
      split at hi <;> simp at hi
      split at hj <;> simp at hj
      subst hi; subst hj; exact hx
    · simp only [hdi, if_false] at hi hj
      exact h.fr i x' y' hi hj
end Go.Ab

namespace Go.Ab
open Go.RowKit
variable {P : Program}

class TyU (P : Program) (t : TypeId) (d : outParam TypeDesc) : Prop where
  ok : P.underlying t = some d
class TyI (P : Program) (t : TypeId) (z : outParam Value) (size bytes : outParam Nat) : Prop where
  ok : ∃ i, P.info? t = some i ∧ i.zero = some z ∧ i.size = size ∧ i.bytes = bytes

def aggB : TypeDesc → Bool
  | .struct _ | .array _ _ => true
  | _ => false

theorem run_isAgg {t : TypeId} {d : TypeDesc} (h : P.underlying t = some d) (w : World) : (isAgg t).run P w = .ok (aggB d) w := by
  unfold isAgg
  rw [Sem.run_bind, run_underlying h w]
  cases d <;> simp [aggB]

theorem run_sizeOf_i {t : TypeId} {z : Value} {n b : Nat} (h : TyI P t z n b) (w : World) : (sizeOf t).run P w = .ok n w := by
  obtain ⟨i, hi, _, hs, _⟩ := h.ok
  simp [sizeOf, typeInfo, hi, hs]

theorem run_zero_i {t : TypeId} {z : Value} {n b : Nat} (h : TyI P t z n b) (w : World) : (zeroValue t).run P w = .ok z w := by
  obtain ⟨i, hi, hz, _, _⟩ := h.ok
  simp [zeroValue, typeInfo, hi, hz]

/-- Some state of which K holds stands for this frame and this world. -/
def RK (R : Rg) (K : St → Prop) (a : Act) (w : World) : Prop := ∃ β G s, K s ∧ Rep R β G s a w

def AOp (P : Program) (o : Oper) (s : St) (K : St → Prop) : Prop :=
  ∀ R β G a w Q, Rep R β G s a w → o.wp P a w (RK R K) Q

def AOps (P : Program) (all : Array Oper) (rest : List Oper) (s : St) (K : St → Prop) : Prop :=
  ∀ R β G a w (Q : Exit → Act → World → Prop), (∀ a w, RK R K a w → Q .normal a w) → Rep R β G s a w → wpList P all Q rest a w

theorem aops_nil {all : Array Oper} {s : St} {K : St → Prop} (h : K s) : AOps P all [] s K :=
  fun _ β G a w _ hQ hr => hQ a w ⟨β, G, s, h, hr⟩

theorem aops_cons' {all : Array Oper} {o : Oper} {rest : List Oper} {s : St} {K : St → Prop} (hg : o.guard = none)
    (h : AOp P o s fun s' => AOps P all rest s' K) : AOps P all (o :: rest) s K := by
  intro R β G a w Q hQ hr
  refine wpList_plain hg fun K' hK' => ?_
  exact Oper.wp_mono (fun a' w' ⟨β', G', s', hs, hr'⟩ => hK' _ _ (hs R β' G' a' w' Q hQ hr')) (h R β G a w Q hr)

theorem aops_cons {all : Array Oper} {o : Oper} {rest : List Oper} {s : St} {K : St → Prop} (hg : o.guard = none)
    (h : ∀ K' : St → Prop, (∀ s', AOps P all rest s' K → K' s') → AOp P o s K') : AOps P all (o :: rest) s K :=
  aops_cons' hg (h _ fun _ h => h)

theorem AOp.noguard {d : Option Tmp} {op : Op} {ty : TypeId} {pos : String} {aft : Array Edge} {g g' : Option (Nat × Bool)} {s : St} {K : St → Prop}
    (h : AOp P ⟨d, op, ty, pos, aft, g⟩ s K) : AOp P ⟨d, op, ty, pos, aft, g'⟩ s K := fun R β G a w Q hr => h R β G a w Q hr

theorem conc_bool {G : Seal} {β : Ids} {b : Bool} {y : Value} (h : Conc G β (.bool b) y) : y = .bool b := by cases h; rfl
theorem conc_int {G : Seal} {β : Ids} {n : Int} {y : Value} (h : Conc G β (.int n) y) : y = .int .i64 n := by cases h; rfl
theorem conc_v {G : Seal} {β : Ids} {x y : Value} (h : Conc G β (.v x) y) : y = x := by cases h; rfl

/-- A guarded operation: the guard's temporary holds a bool that is known. -/
theorem aops_guard {all : Array Oper} {o : Oper} {rest : List Oper} {s : St} {K : St → Prop} {j t : Nat} {b c : Bool}
    (hg : o.guard = some (j, b)) (ht : (all[j]?).bind (·.dst) = some t) (hc : s.fr[t]? = some (.bool c))
    (hy : c = b → ∀ K' : St → Prop, (∀ s', AOps P all rest s' K → K' s') → AOp P o s K')
    (hn : c ≠ b → AOps P all rest (s.put o.dst (.v undef)) K) : AOps P all (o :: rest) s K := by
  intro R β G a w Q hQ hr
  have hlt : t < a.tmps.size := by
    rw [hr.size]
    rcases Nat.lt_or_ge t s.fr.length with h | h
    · exact h
    · rw [List.getElem?_eq_none h] at hc; cases hc
  have hb := conc_bool (hr.fr t _ _ hc (Array.getElem?_eq_getElem hlt))
  have hyd : yielded all a.tmps j = some c := by
    unfold yielded
    rw [ht]
    simp [Array.getElem?_eq_getElem hlt, hb]
  refine wpList_step fun K' hK' => ?_
  by_cases hcb : c = b
  · have hw : Region.wanted o (yielded all a.tmps) = true := by simp [Region.wanted, hg, hyd, hcb]
    rw [if_pos hw]
    exact Oper.wp_mono (fun a' w' ⟨β', G', s', hs, hr'⟩ => hK' _ _ (hs R β' G' a' w' Q hQ hr')) (hy hcb _ (fun _ h => h) R β G a w Q hr)
  · have hw : ¬ Region.wanted o (yielded all a.tmps) = true := by simp [Region.wanted, hg, hyd, hcb]
    rw [if_neg hw]
    exact hK' _ _ (hn hcb R β G _ w Q hQ (hr.put o.dst .v))

/-- .. or it was itself passed over. -/
theorem aops_guardU' {all : Array Oper} {o : Oper} {rest : List Oper} {s : St} {K : St → Prop} {j t : Nat} {b : Bool}
    (hg : o.guard = some (j, b)) (ht : (all[j]?).bind (·.dst) = some t) (hc : s.fr[t]? = some (.v undef))
    (hn : AOps P all rest (s.put o.dst (.v undef)) K) : AOps P all (o :: rest) s K := by
  intro R β G a w Q hQ hr
  have hlt : t < a.tmps.size := by
    rw [hr.size]
    rcases Nat.lt_or_ge t s.fr.length with h | h
    · exact h
    · rw [List.getElem?_eq_none h] at hc; cases hc
  have hb := conc_v (hr.fr t _ _ hc (Array.getElem?_eq_getElem hlt))
  have hyd : yielded all a.tmps j = none := by
    unfold yielded
    rw [ht]
    simp [Array.getElem?_eq_getElem hlt, hb, undef]
  refine wpList_step fun K' hK' => ?_
  have hw : ¬ Region.wanted o (yielded all a.tmps) = true := by simp [Region.wanted, hg, hyd]
  rw [if_neg hw]
  exact hK' _ _ (hn R β G _ w Q hQ (hr.put o.dst .v))

/-! ### Operations that only make a value -/

/-- Old blocks are as they were. -/
abbrev Ext (w w' : World) : Prop := Below w.heap.size w w'

/-- The operation yields this value, now and in every later world that has kept the blocks of this one. -/
def PV (P : Program) (op : Op) (s : St) (x : AV) : Prop :=
  ∀ R β G a w, Rep R β G s a w → ∃ y, Conc G β x y ∧ ∀ w' d ty pos aft g, Ext w w' → (execOp a.eval ⟨d, op, ty, pos, aft, g⟩).run P w' = .ok (.value y) w'

theorem aop_pv {d : Option Tmp} {op : Op} {ty : TypeId} {pos : String} {aft : Array Edge} {g : Option (Nat × Bool)} {s : St} {x : AV} {K : St → Prop}
    (h : PV P op s x) (hk : K (s.put d x)) : AOp P ⟨d, op, ty, pos, aft, g⟩ s K := by
  intro R β G a w Q hr
  obtain ⟨y, hy, hrun⟩ := h R β G a w hr
  unfold Oper.wp
  rw [hrun w d ty pos aft g (Below.refl _ _), Oper.upon_value]
  exact ⟨β, G, _, hk, hr.put d hy⟩

/-- .. from an equation at every world, given the operands' values. -/
theorem pv_of {op : Op} {s : St} {x : AV}
    (h : ∀ R β G a w, Rep R β G s a w → ∃ y, Conc G β x y ∧ ∀ w' d ty pos aft g, (execOp a.eval ⟨d, op, ty, pos, aft, g⟩).run P w' = .ok (.value y) w') : PV P op s x :=
  fun R β G a w hr => let ⟨y, hy, hrun⟩ := h R β G a w hr; ⟨y, hy, fun w' d ty pos aft g _ => hrun w' d ty pos aft g⟩

theorem pv_move {s : St} {x : Operand} : PV P (.move x) s (s.eval x) :=
  pv_of fun _ _ _ _ _ hr => ⟨_, hr.eval x, fun _ _ _ _ _ _ => rfl⟩
theorem pv_assign {s : St} {x : Operand} : PV P (.assign x) s (s.eval x) :=
  pv_of fun _ _ _ _ _ hr => ⟨_, hr.eval x, fun _ _ _ _ _ _ => rfl⟩

theorem pv_pick {s : St} {c x y : Operand} {b : Bool} (hc : s.eval c = .bool b) : PV P (.pick c x y) s (if b then s.eval x else s.eval y) :=
  pv_of fun _ _ _ a _ hr => by
    have h := hr.eval c
    rw [hc] at h
    have h := conc_bool h
    cases b
    · exact ⟨_, hr.eval y, fun _ _ _ _ _ _ => by simp [execOp, h, asBool]⟩
    · exact ⟨_, hr.eval x, fun _ _ _ _ _ _ => by simp [execOp, h, asBool]⟩

/-- pick of two bools. -/
theorem pv_pickB {s : St} {c x y : Operand} {b p q : Bool} (hc : s.eval c = .bool b) (hx : s.eval x = .bool p) (hy : s.eval y = .bool q) :
    PV P (.pick c x y) s (.bool (if b then p else q)) := by
  have h := pv_pick (P := P) (x := x) (y := y) hc
  rw [hx, hy] at h
  cases b <;> exact h

section ints
variable {s : St} {x y : Operand} {n m : Int} {t u : TypeId}
theorem wrap_in {n : Int} (h1 : -9223372036854775808 ≤ n) (h2 : n ≤ 9223372036854775807) : IntKind.i64.wrap n = n := by
  rw [IntKind.wrap_i64]; omega
theorem pv_bin {op : BinOp} {r : Value} (hx : s.eval x = .int n) (hy : s.eval y = .int m) (he : op ≠ .eql ∧ op ≠ .neq)
    (hr : ∀ w, (binOp op t (.int .i64 n) (.int .i64 m)).run P w = .ok r w) : PV P (.binOp op t x y u) s (.v r) :=
  pv_of fun _ _ _ a _ h => ⟨r, .v, fun w' _ _ _ _ _ => by
    have h1 := h.eval x; rw [hx] at h1
    have h2 := h.eval y; rw [hy] at h2
    have hg : (eqGuard op t x y (a.eval x) (a.eval y)).run P w' = .ok () w' := by
      unfold eqGuard
      cases op <;> first | (exact absurd rfl he.1) | (exact absurd rfl he.2) | simp
    simp only [execOp, Sem.run_bind, hg, Result.andThen_ok]
    rw [conc_int h1, conc_int h2, hr w']
    simp⟩
theorem pv_add (hx : s.eval x = .int n) (hy : s.eval y = .int m) (h1 : -9223372036854775808 ≤ n + m) (h2 : n + m ≤ 9223372036854775807) :
    PV P (.binOp .add t x y u) s (.int (n + m)) := pv_bin hx hy (by simp) fun w => by simp [binOp, Op.intArith, wrap_in h1 h2]
theorem pv_sub (hx : s.eval x = .int n) (hy : s.eval y = .int m) (h1 : -9223372036854775808 ≤ n - m) (h2 : n - m ≤ 9223372036854775807) :
    PV P (.binOp .sub t x y u) s (.int (n - m)) := pv_bin hx hy (by simp) fun w => by simp [binOp, Op.intArith, wrap_in h1 h2]
theorem pv_mul (hx : s.eval x = .int n) (hy : s.eval y = .int m) (h1 : -9223372036854775808 ≤ n * m) (h2 : n * m ≤ 9223372036854775807) :
    PV P (.binOp .mul t x y u) s (.int (n * m)) := pv_bin hx hy (by simp) fun w => by simp [binOp, Op.intArith, wrap_in h1 h2]
/-- Without a bound: the machine's own number. -/
theorem pv_addw (hx : s.eval x = .int n) (hy : s.eval y = .int m) : PV P (.binOp .add t x y u) s (.int (IntKind.i64.wrap (n + m))) :=
  pv_bin hx hy (by simp) fun w => by simp [binOp, Op.intArith]
theorem pv_subw (hx : s.eval x = .int n) (hy : s.eval y = .int m) : PV P (.binOp .sub t x y u) s (.int (IntKind.i64.wrap (n - m))) :=
  pv_bin hx hy (by simp) fun w => by simp [binOp, Op.intArith]
theorem pv_mulw (hx : s.eval x = .int n) (hy : s.eval y = .int m) : PV P (.binOp .mul t x y u) s (.int (IntKind.i64.wrap (n * m))) :=
  pv_bin hx hy (by simp) fun w => by simp [binOp, Op.intArith]
theorem pv_lss (hx : s.eval x = .int n) (hy : s.eval y = .int m) : PV P (.binOp .lss t x y u) s (.bool (decide (n < m))) :=
  pv_bin hx hy (by simp) fun w => by simp [binOp, Op.intCmp]
theorem pv_leq (hx : s.eval x = .int n) (hy : s.eval y = .int m) : PV P (.binOp .leq t x y u) s (.bool (decide (n ≤ m))) :=
  pv_bin hx hy (by simp) fun w => by simp [binOp, Op.intCmp]
theorem pv_gtr (hx : s.eval x = .int n) (hy : s.eval y = .int m) : PV P (.binOp .gtr t x y u) s (.bool (decide (m < n))) :=
  pv_bin hx hy (by simp) fun w => by simp [binOp, Op.intCmp]
theorem pv_geq (hx : s.eval x = .int n) (hy : s.eval y = .int m) : PV P (.binOp .geq t x y u) s (.bool (decide (m ≤ n))) :=
  pv_bin hx hy (by simp) fun w => by simp [binOp, Op.intCmp]
theorem run_eqGuard_int (op : BinOp) (k k' : IntKind) (w : World) : (eqGuard op t x y (.int k n) (.int k' m)).run P w = .ok () w := by
  unfold eqGuard; cases op <;> simp
theorem pv_eql (hx : s.eval x = .int n) (hy : s.eval y = .int m) : PV P (.binOp .eql t x y u) s (.bool (n == m)) :=
  pv_of fun _ _ _ a _ h => ⟨_, .v, fun w' _ _ _ _ _ => by
    have h1 := h.eval x; rw [hx] at h1
    have h2 := h.eval y; rw [hy] at h2
    simp only [execOp]
    rw [conc_int h1, conc_int h2]
    simp only [Sem.run_bind, run_eqGuard_int, Result.andThen_ok]
    simp [binOp, Op.intCmp]⟩
theorem pv_neq (hx : s.eval x = .int n) (hy : s.eval y = .int m) : PV P (.binOp .neq t x y u) s (.bool (n != m)) :=
  pv_of fun _ _ _ a _ h => ⟨_, .v, fun w' _ _ _ _ _ => by
    have h1 := h.eval x; rw [hx] at h1
    have h2 := h.eval y; rw [hy] at h2
    simp only [execOp]
    rw [conc_int h1, conc_int h2]
    simp only [Sem.run_bind, run_eqGuard_int, Result.andThen_ok]
    simp [binOp, Op.intCmp]⟩
end ints

theorem pv_not {s : St} {x : Operand} {b : Bool} {t : TypeId} (hx : s.eval x = .bool b) : PV P (.unOp .not t x) s (.bool (!b)) :=
  pv_of fun _ _ _ a _ h => ⟨_, .v, fun w' _ _ _ _ _ => by
    have h1 := h.eval x; rw [hx] at h1
    simp [execOp, conc_bool h1, Op.unary]⟩
theorem pv_neg {s : St} {x : Operand} {n : Int} {t : TypeId} (hx : s.eval x = .int n) (h1 : -9223372036854775808 ≤ -n) (h2 : -n ≤ 9223372036854775807) : PV P (.unOp .neg t x) s (.int (-n)) :=
  pv_of fun _ _ _ a _ h => ⟨_, .v, fun w' _ _ _ _ _ => by
    have h3 := h.eval x; rw [hx] at h3
    have : IntKind.i64.wrap (0 - n) = -n := by rw [wrap_in (by omega) (by omega)]; omega
    simp [execOp, conc_int h3, Op.unary, Op.intArith] at *
    first | exact this | (rw [this])⟩

theorem pv_extract {s : St} {x : Operand} {cs : List AV} {i : Nat} {c : AV} (hx : s.eval x = .tup cs) (hc : cs[i]? = some c) : PV P (.extract x i) s c :=
  pv_of fun _ _ _ a _ h => by
    have h1 := h.eval x; rw [hx] at h1
    generalize he : a.eval x = y at h1
    cases h1 with
    | tup xs hl hs =>
      have hi : i < xs.length := by
        rw [← hl]
        rcases Nat.lt_or_ge i cs.length with h | h
        · exact h
        · rw [List.getElem?_eq_none h] at hc; cases hc
      refine ⟨xs[i], hs i _ _ hc (List.getElem?_eq_getElem hi), fun w' _ _ _ _ _ => ?_⟩
      simp [execOp, he, Instr.extract, hi]

theorem run_underlying_u {t : TypeId} {d : TypeDesc} (h : TyU P t d) (w : World) : (underlying t).run P w = .ok d w := run_underlying h.ok w

/-- len of an immutable slice. -/
theorem pv_len {s : St} {x : Operand} {t e : TypeId} {sz bw : Nat} {es : List AV} [hu : TyU P t (.slice e)] (hx : s.eval x = .isl sz bw es) :
    PV P (.call { callee := .builtin .len, args := #[x], argTypes := #[t] }) s (.int es.length) :=
  pv_of fun _ _ _ a _ h => by
    have h1 := h.eval x; rw [hx] at h1
    generalize he : a.eval x = y at h1
    cases h1 with
    | isl ys _ _ _ _ _ _ _ =>
      refine ⟨_, .v, fun w' _ _ _ _ _ => ?_⟩
      simp [execOp, resolve, invoke, builtin, he, Builtin.len_, run_underlying_u hu, goInt]
theorem pv_lenS {s : St} {x : Operand} {t e : TypeId} {sz bw id off n : Nat} [hu : TyU P t (.slice e)] (hx : s.eval x = .sl sz bw id off n) :
    PV P (.call { callee := .builtin .len, args := #[x], argTypes := #[t] }) s (.int n) :=
  pv_of fun _ _ _ a _ h => by
    have h1 := h.eval x; rw [hx] at h1
    generalize he : a.eval x = y at h1
    cases h1 <;> exact ⟨_, .v, fun w' _ _ _ _ _ => by simp [execOp, resolve, invoke, builtin, he, Builtin.len_, run_underlying_u hu, goInt]⟩
theorem pv_lenN {s : St} {x : Operand} {t e : TypeId} {A : Option Addr} {n c : Nat} [hu : TyU P t (.slice e)] (hx : s.eval x = .v (.slice A n c)) :
    PV P (.call { callee := .builtin .len, args := #[x], argTypes := #[t] }) s (.int n) :=
  pv_of fun _ _ _ a _ h => by
    have h1 := h.eval x; rw [hx] at h1
    exact ⟨_, .v, fun w' _ _ _ _ _ => by simp [execOp, resolve, invoke, builtin, conc_v h1, Builtin.len_, run_underlying_u hu, goInt]⟩

/-- A field's address. -/
theorem Addr.add_none (b o n : Nat) : (⟨b, o, none⟩ : Addr).add n = ⟨b, o + n, none⟩ := by unfold Addr.add; split <;> simp_all
theorem run_fieldAt {t : TypeId} {fs : Array Field} {f : Nat} {fl : Field} {z : Value} {n b : Nat} (hu : TyU P t (.struct fs)) (hf : fs[f]? = some fl) (hi : TyI P fl.type z n b) (hn : n ≠ 0)
    (ad : Addr) (w : World) : (Instr.fieldAt t (.pointer (some ad)) f).run P w = .ok (.pointer (some (ad.add fl.offset))) w := by
  simp [Instr.fieldAt, run_underlying_u hu, hf, Instr.sureAddr, fieldPlace, run_sizeOf_i hi, hn]
theorem pv_fieldAddr {s : St} {x : Operand} {t : TypeId} {fs : Array Field} {f : Nat} {fl : Field} {z : Value} {n b id off : Nat} [hu : TyU P t (.struct fs)] (hx : s.eval x = .ptr id off)
    (hf : fs[f]? = some fl) [hi : TyI P fl.type z n b] (hn : n ≠ 0) : PV P (.fieldAddr t x f) s (.ptr id (off + fl.offset)) :=
  pv_of fun _ _ _ a _ h => by
    have h1 := h.eval x; rw [hx] at h1
    generalize he : a.eval x = y at h1
    cases h1 with
    | ptr hb => exact ⟨_, .ptr hb, fun w' _ _ _ _ _ => by simp [execOp, he, run_fieldAt hu hf hi hn, Addr.add_none]⟩
theorem addr_add_add (a : Addr) (i j : Nat) : (a.add i).add j = a.add (i + j) := by
  unfold Addr.add
  by_cases hi : i = 0 <;> by_cases hj : j = 0 <;> simp [hi, hj, Nat.add_assoc]
theorem conc_iptr_drop {G : Seal} {β : Ids} {cs : List AV} {ad : Addr} (h : Conc G β (.iptr cs) (.pointer (some ad))) (k : Nat) : Conc G β (.iptr (cs.drop k)) (.pointer (some (ad.add k))) := by
  cases h with
  | iptr ys hl hr hs =>
    refine .iptr (ys.drop k) (by simp [hl]) (fun j y hy => ?_) (fun j x y hx hy => ?_)
    · rw [addr_add_add]; exact hr _ _ (by simpa [List.getElem?_drop] using hy)
    · exact hs (k + j) x y (by simpa [List.getElem?_drop] using hx) (by simpa [List.getElem?_drop] using hy)
theorem pv_fieldAddrI {s : St} {x : Operand} {t : TypeId} {fs : Array Field} {f : Nat} {fl : Field} {z : Value} {n b : Nat} {cs : List AV} [hu : TyU P t (.struct fs)] (hx : s.eval x = .iptr cs)
    (hf : fs[f]? = some fl) [hi : TyI P fl.type z n b] (hn : n ≠ 0) : PV P (.fieldAddr t x f) s (.iptr (cs.drop fl.offset)) :=
  pv_of fun _ _ _ a _ h => by
    have h1 := h.eval x; rw [hx] at h1
    generalize he : a.eval x = y at h1
    cases h1 with
    | iptr ys hl hr hs => exact ⟨_, conc_iptr_drop (.iptr ys hl hr hs) _, fun w' _ _ _ _ _ => by simp [execOp, he, run_fieldAt hu hf hi hn]⟩
end Go.Ab

namespace Go.Ab
open Go.RowKit
variable {P : Program}

/-! ### Addresses of elements, loads -/
theorem flat_get {sz : Nat} : ∀ {es : List AV}, (∀ e ∈ es, e.cells.length = sz) → ∀ {k j : Nat} {e : AV}, es[k]? = some e → j < sz → (es.flatMap AV.cells)[k * sz + j]? = e.cells[j]?
  | [], _, k, _, _, h, _ => by simp at h
  | x :: es, hu, 0, j, e, h, hj => by
    simp at h; subst h
    have := hu x (by simp)
    simp only [Nat.zero_mul, Nat.zero_add, List.flatMap_cons]
    rw [List.getElem?_append_left (by omega)]
  | x :: es, hu, k+1, j, e, h, hj => by
    have h1 := hu x (by simp)
    have h2 : es[k]? = some e := by simpa using h
    have ih := flat_get (es := es) (fun e he => hu e (by simp [he])) h2 hj
    simp only [List.flatMap_cons]
    rw [List.getElem?_append_right (by rw [h1, Nat.add_mul]; omega), h1]
    rw [← ih]; congr 1; rw [Nat.add_mul]; omega

theorem flat_len {sz : Nat} : ∀ {es : List AV}, (∀ e ∈ es, e.cells.length = sz) → (es.flatMap AV.cells).length = es.length * sz
  | [], _ => by simp
  | x :: es, hu => by
    have ih := flat_len (es := es) (fun e he => hu e (by simp [he]))
    simp only [List.flatMap_cons, List.length_append, ih, hu x (by simp), List.length_cons, Nat.add_mul]; omega

theorem lt_of_get {α : Type} {l : List α} {k : Nat} {e : α} (h : l[k]? = some e) : k < l.length := by
  rcases Nat.lt_or_ge k l.length with h' | h'
  · exact h'
  · rw [List.getElem?_eq_none h'] at h; cases h

/-- The address of an element of an immutable slice. -/
theorem conc_elem {G : Seal} {β : Ids} {sz bw : Nat} {es : List AV} {A : Option Addr} {c k : Nat} {e : AV} (h : Conc G β (.isl sz bw es) (.slice A es.length c)) (hk : es[k]? = some e) :
    ∃ a, A = some a ∧ Conc G β (.iptr e.cells) (.pointer (some (a.add (k * sz)))) := by
  have hlt := lt_of_get hk
  generalize hy : Value.slice A es.length c = y at h
  cases h with
  | @isl _ _ _ _ A' c' ys hu hl hc hb hA hr hs =>
    injection hy with h1 h2 h3
    subst h1
    obtain ⟨a, rfl⟩ : ∃ a, A = some a := by
      cases A with
      | none => exact absurd rfl (hA (by omega))
      | some a => exact ⟨a, rfl⟩
    refine ⟨a, rfl, ?_⟩
    have hek := hu e (List.mem_of_getElem? hk)
    have hle : (k + 1) * sz ≤ es.length * sz := Nat.mul_le_mul_right _ hlt
    rw [Nat.add_mul] at hle
    refine .iptr ((ys.drop (k * sz)).take sz) (by simp [hek, hl]; omega) (fun j y hj => ?_) (fun j x y hx hj => ?_)
    · have hjs : j < sz := by have := lt_of_get hj; simp at this; omega
      have hj' : ys[k * sz + j]? = some y := by simpa [List.getElem?_take, hjs, List.getElem?_drop] using hj
      obtain ⟨a', ha, hg⟩ := hr _ _ hj'
      injection ha with ha; subst ha
      rw [addr_add_add]; exact hg
    · have hjs : j < sz := by have := lt_of_get hx; omega
      have hj' : ys[k * sz + j]? = some y := by simpa [List.getElem?_take, hjs, List.getElem?_drop] using hj
      exact hs _ x y (by rw [flat_get hu hk hjs]; exact hx) hj'

theorem run_indexAt {t e : TypeId} {z : Value} {sz b : Nat} (hu : TyU P t (.slice e)) (hi : TyI P e z sz b) (a : Addr) (len cap : Nat) (n : Int) (h0 : 0 ≤ n) (h1 : n.toNat < len) (w : World) :
    (Instr.indexAt t (.slice (some a) len cap) (.int .i64 n)).run P w = .ok (.pointer (some (a.add (n.toNat * sz)))) w := by
  have hlt : n < (len : Int) := by omega
  simp [Instr.indexAt, asIntOf, run_underlying_u hu, run_sizeOf_i hi, h0, hlt]

theorem pv_indexAddr {s : St} {x i : Operand} {t el : TypeId} {sz bw b : Nat} {es : List AV} {n : Int} {e : AV} {z : Value} [hu : TyU P t (.slice el)] [hi : TyI P el z sz b]
    (hx : s.eval x = .isl sz bw es) (hn : s.eval i = .int n) (h0 : 0 ≤ n) (he : es[n.toNat]? = some e) : PV P (.indexAddr t x i) s (.iptr e.cells) :=
  pv_of fun _ _ _ a _ h => by
    have h1 := h.eval x; rw [hx] at h1
    have h2 := h.eval i; rw [hn] at h2
    generalize hy : a.eval x = y at h1
    obtain ⟨A, c, rfl⟩ : ∃ A c, y = .slice A es.length c := by cases h1; exact ⟨_, _, rfl⟩
    obtain ⟨ad, rfl, hc⟩ := conc_elem h1 he
    exact ⟨_, hc, fun w' _ _ _ _ _ => by
      simp [execOp, hy, conc_int h2, run_indexAt hu hi ad _ _ n h0 (lt_of_get he)]⟩

/-- .. of a list that is written as a map. -/
theorem pv_indexAddrM {α : Type} {s : St} {x i : Operand} {t el : TypeId} {sz bw b : Nat} {xs : List α} {f : α → AV} {n : Int} {z : Value} [hu : TyU P t (.slice el)] [hi : TyI P el z sz b]
    (hx : s.eval x = .isl sz bw (xs.map f)) (hn : s.eval i = .int n) (h0 : 0 ≤ n) (h1 : n.toNat < xs.length) : PV P (.indexAddr t x i) s (.iptr (f xs[n.toNat]).cells) :=
  pv_indexAddr hx hn h0 (by simp [h1])

/-- .. of a slice in a block of the call's own. -/
theorem pv_indexAddrS {s : St} {x i : Operand} {t el : TypeId} {sz bw b id off len : Nat} {n : Int} {z : Value} [hu : TyU P t (.slice el)] [hi : TyI P el z sz b]
    (hx : s.eval x = .sl sz bw id off len) (hn : s.eval i = .int n) (h0 : 0 ≤ n) (h1 : n.toNat < len) : PV P (.indexAddr t x i) s (.ptr id (off + n.toNat * sz)) :=
  pv_of fun _ _ _ a _ h => by
    have h3 := h.eval x; rw [hx] at h3
    have h2 := h.eval i; rw [hn] at h2
    generalize hy : a.eval x = y at h3
    cases h3 with
    | slN _ => omega
    | sl hb hc ht hm hbw =>
      exact ⟨_, .ptr hb, fun w' _ _ _ _ _ => by simp [execOp, hy, conc_int h2, run_indexAt hu hi _ _ _ n h0 h1, Addr.add_none]⟩

/-- .. of an array behind a pointer. -/
theorem run_indexAtA {t e : TypeId} {z : Value} {sz b N : Nat} (hu : TyU P t (.array N e)) (hi : TyI P e z sz b) (a : Addr) (n : Int) (h0 : 0 ≤ n) (h1 : n.toNat < N) (w : World) :
    (Instr.indexAt t (.pointer (some a)) (.int .i64 n)).run P w = .ok (.pointer (some (a.add (n.toNat * sz)))) w := by
  have hlt : n < (N : Int) := by omega
  simp [Instr.indexAt, asIntOf, run_underlying_u hu, run_sizeOf_i hi, h0, hlt, Instr.sureAddr]
theorem pv_indexAddrA {s : St} {x i : Operand} {t el : TypeId} {sz b id off N : Nat} {n : Int} {z : Value} [hu : TyU P t (.array N el)] [hi : TyI P el z sz b]
    (hx : s.eval x = .ptr id off) (hn : s.eval i = .int n) (h0 : 0 ≤ n) (h1 : n.toNat < N) : PV P (.indexAddr t x i) s (.ptr id (off + n.toNat * sz)) :=
  pv_of fun _ _ _ a _ h => by
    have h3 := h.eval x; rw [hx] at h3
    have h2 := h.eval i; rw [hn] at h2
    generalize hy : a.eval x = y at h3
    cases h3 with
    | ptr hb => exact ⟨_, .ptr hb, fun w' _ _ _ _ _ => by simp [execOp, hy, conc_int h2, run_indexAtA hu hi _ n h0 h1, Addr.add_none]⟩
theorem pv_indexAddrIA {s : St} {x i : Operand} {t el : TypeId} {sz b N : Nat} {n : Int} {z : Value} {cs : List AV} [hu : TyU P t (.array N el)] [hi : TyI P el z sz b]
    (hx : s.eval x = .iptr cs) (hn : s.eval i = .int n) (h0 : 0 ≤ n) (h1 : n.toNat < N) : PV P (.indexAddr t x i) s (.iptr (cs.drop (n.toNat * sz))) :=
  pv_of fun _ _ _ a _ h => by
    have h3 := h.eval x; rw [hx] at h3
    have h2 := h.eval i; rw [hn] at h2
    generalize hy : a.eval x = y at h3
    cases h3 with
    | iptr ys hl hr hs => exact ⟨_, conc_iptr_drop (.iptr ys hl hr hs) _, fun w' _ _ _ _ _ => by simp [execOp, hy, conc_int h2, run_indexAtA hu hi _ n h0 h1]⟩

theorem cell_of_gcell {R : Rg} {β : Ids} {G : Seal} {hp : Hp} {w w' : World} (h : RepH R β G hp w) (he : Ext w w') {a : Addr} {y : Value} (hg : gcell G a = some y) : w'.cell? a = some y := by
  unfold gcell at hg
  cases hG : G a.block with
  | none => rw [hG] at hg; cases hg
  | some o =>
    rw [hG] at hg
    have h1 := h.gs _ _ hG
    have hlt : a.block < w.heap.size := by
      rcases Nat.lt_or_ge a.block w.heap.size with h' | h'
      · exact h'
      · rw [Array.getElem?_eq_none h'] at h1; cases h1
    have h2 := he.block _ hlt
    unfold World.cell?
    rw [h2, h1]
    exact hg

theorem run_loadVar1 {t : TypeId} {d : TypeDesc} (hu : TyU P t d) (hd : aggB d = false) {ad : Addr} {y : Value} {w : World} (hc : w.cell? ad = some y) : (loadVar t ad).run P w = .ok y w := by
  simp [loadVar, run_isAgg hu.ok, hd, hc]
theorem run_loadVarA {t : TypeId} {d : TypeDesc} {z : Value} {b : Nat} (hu : TyU P t d) (hd : aggB d = true) {ad : Addr} (ys : List Value) (hi : TyI P t z ys.length b) {w : World}
    (hc : ∀ j y, ys[j]? = some y → w.cell? (ad.add j) = some y) : (loadVar t ad).run P w = .ok (.agg ys.toArray) w := by
  simp [loadVar, run_isAgg hu.ok, hd, run_sizeOf_i hi, run_loadCells_list w ad ys hc]

theorem pv_loadI {s : St} {x : Operand} {t : TypeId} {d : TypeDesc} {cs : List AV} {c : AV} [hu : TyU P t d] (hx : s.eval x = .iptr cs) (hd : aggB d = false) (hc : cs[0]? = some c) : PV P (.load t x) s c :=
  fun R β G a w h => by
    have h3 := h.eval x; rw [hx] at h3
    generalize hy : a.eval x = y at h3
    cases h3 with
    | @iptr _ _ ad ys hl hr hs =>
      have hlt : 0 < ys.length := by rw [hl]; exact lt_of_get hc
      have h0 : ys[0]? = some ys[0] := List.getElem?_eq_getElem hlt
      refine ⟨ys[0], (hs 0 _ _ hc h0).free β, fun w' _ _ _ _ _ he => ?_⟩
      have hcell := cell_of_gcell h.hp he (hr 0 _ h0)
      have hz : ad.add 0 = ad := by simp [Addr.add]
      rw [hz] at hcell
      simp [execOp, hy, Instr.loadAt, Instr.sureAddr, run_loadVar1 hu hd hcell]

theorem pv_loadIA {s : St} {x : Operand} {t : TypeId} {d : TypeDesc} {cs : List AV} {z : Value} {n b : Nat} [hu : TyU P t d] [hi : TyI P t z n b] (hx : s.eval x = .iptr cs) (hd : aggB d = true) (hn : n ≤ cs.length) :
    PV P (.load t x) s (.agg (cs.take n)) :=
  fun R β G a w h => by
    have h3 := h.eval x; rw [hx] at h3
    generalize hy : a.eval x = y at h3
    cases h3 with
    | @iptr _ _ ad ys hl hr hs =>
      have hlen : (ys.take n).length = n := by simp; omega
      refine ⟨.agg (ys.take n).toArray, .agg (ys.take n) (by simp; omega) (fun j x y hx hy => ?_), fun w' _ _ _ _ _ he => ?_⟩
      · have hj : j < n := by have := lt_of_get hx; simp at this; omega
        simp only [List.getElem?_take, hj, if_true] at hx hy
        exact (hs j x y hx hy).free β
      · have hi' : TyI P t z (ys.take n).length b := by rw [hlen]; exact hi
        have := run_loadVarA hu hd (ad := ad) (ys.take n) hi' (w := w') (fun j y hj => by
          have hjn : j < n := by have := lt_of_get hj; simp at this; omega
          simp only [List.getElem?_take, hjn, if_true] at hj
          exact cell_of_gcell h.hp he (hr j y hj))
        simp only [execOp, hy, Instr.loadAt, Instr.sureAddr, Sem.run_bind, Sem.run_pure, Result.andThen_ok, this]

/-- A block of the call's own, as the world has it. -/
theorem RepH.block {R : Rg} {β : Ids} {G : Seal} {hp : Hp} {w : World} (h : RepH R β G hp w) {id b t : Nat} {bk : Blk} (hb : hget hp id = some bk) (hβ : β id = .at b t) :
    G b = none ∧ (R.w0.heap.size ≤ b ∨ R.ex b) ∧ ∃ arr : Array Value, w.heap[b]? = some (.cells arr bk.T (0, 0)) ∧ arr.size = t ∧ bk.cs.length ≤ t ∧
      (bk.full = true → bk.cs.length = t) ∧ ∀ (j : Nat) x y, bk.cs[j]? = some x → arr[j]? = some y → Conc G β x y := by
  have := h.blk id bk hb
  unfold BlkOk at this
  rw [hβ] at this
  exact this

theorem heap_lt {w : World} {b : Nat} {o : Obj} (h : w.heap[b]? = some o) : b < w.heap.size := by
  rcases Nat.lt_or_ge b w.heap.size with h' | h'
  · exact h'
  · rw [Array.getElem?_eq_none h'] at h; cases h

theorem cell_of_blk {w w' : World} {b : Nat} {arr : Array Value} {T : TypeId} {f : Nat × Nat} (h : w.heap[b]? = some (.cells arr T f)) (he : Ext w w') (j : Nat) : w'.cell? ⟨b, j, none⟩ = arr[j]? := by
  have h2 := he.block b (heap_lt h)
  simp [World.cell?, h2, h]

theorem pv_load {s : St} {x : Operand} {t : TypeId} {d : TypeDesc} {id off : Nat} {bk : Blk} {c : AV} [hu : TyU P t d] (hx : s.eval x = .ptr id off) (hd : aggB d = false) (hb : hget s.hp id = some bk) (hc : bk.cs[off]? = some c) :
    PV P (.load t x) s c :=
  fun R β G a w h => by
    have h3 := h.eval x; rw [hx] at h3
    generalize hy : a.eval x = y at h3
    cases h3 with
    | ptr hβ =>
      obtain ⟨_, _, arr, harr, hsz, hle, _, hcs⟩ := h.hp.block hb hβ
      have hlt : off < arr.size := by have := lt_of_get hc; omega
      have h0 : arr[off]? = some arr[off] := Array.getElem?_eq_getElem hlt
      refine ⟨arr[off], hcs off _ _ hc h0, fun w' _ _ _ _ _ he => ?_⟩
      simp [execOp, hy, Instr.loadAt, Instr.sureAddr, run_loadVar1 hu hd ((cell_of_blk harr he off).trans h0)]

theorem pv_loadA {s : St} {x : Operand} {t : TypeId} {d : TypeDesc} {id off : Nat} {bk : Blk} {z : Value} {n b : Nat} [hu : TyU P t d] [hi : TyI P t z n b] (hx : s.eval x = .ptr id off) (hd : aggB d = true)
    (hb : hget s.hp id = some bk) (hc : off + n ≤ bk.cs.length) : PV P (.load t x) s (.agg ((bk.cs.drop off).take n)) :=
  fun R β G a w h => by
    have h3 := h.eval x; rw [hx] at h3
    generalize hy : a.eval x = y at h3
    cases h3 with
    | @ptr _ _ _ bb _ hβ =>
      obtain ⟨_, _, arr, harr, hsz, hle, _, hcs⟩ := h.hp.block hb hβ
      have hlen : ((arr.toList.drop off).take n).length = n := by simp; omega
      refine ⟨.agg ((arr.toList.drop off).take n).toArray, .agg _ (by simp; omega) (fun j x y hx hy => ?_), fun w' _ _ _ _ _ he => ?_⟩
      · have hj : j < n := by have := lt_of_get hx; simp at this; omega
        simp only [List.getElem?_take, hj, if_true, List.getElem?_drop, Array.getElem?_toList] at hx hy
        exact hcs _ x y hx hy
      · have hi' : TyI P t z ((arr.toList.drop off).take n).length b := by rw [hlen]; exact hi
        have := run_loadVarA hu hd (ad := ⟨bb, off, none⟩) ((arr.toList.drop off).take n) hi' (w := w') (fun j y hj => by
          have hjn : j < n := by have := lt_of_get hj; simp at this; omega
          simp only [List.getElem?_take, hjn, if_true, List.getElem?_drop, Array.getElem?_toList] at hj
          rw [Addr.add_none, cell_of_blk harr he]; exact hj)
        simp only [execOp, hy, Instr.loadAt, Instr.sureAddr, Sem.run_bind, Sem.run_pure, Result.andThen_ok, this]

/-! ### New blocks -/
theorem Conc.setId {G : Seal} {β : Ids} {x : AV} {y : Value} (h : Conc G β x y) {id : Nat} (hf : AV.ment id x = false) (k : BK) : Conc G (β.set id k) x y :=
  h.ext (fun i hm => by unfold Ids.set; rw [if_neg]; rintro rfl; rw [hf] at hm; cases hm) (fun _ _ h => h)

theorem ment_of_free {s : St} {id : Nat} (hf : s.free id = true) : (∀ (i : Nat) x, s.fr[i]? = some x → AV.ment id x = false) ∧ hget s.hp id = none ∧
    ∀ k bk (j : Nat) x, hget s.hp k = some bk → bk.cs[j]? = some x → AV.ment id x = false := by
  simp only [St.free, Bool.and_eq_true, Bool.not_eq_true', Bool.or_eq_false_iff] at hf
  replace hf := hf.2
  refine ⟨fun i x hx => mentL_get hf.1 hx, ?_, ?_⟩
  · have := hf.2
    generalize s.hp = hp at this
    induction hp with
    | nil => rfl
    | cons p r ih =>
      obtain ⟨i, b⟩ := p
      simp [mentHp] at this
      simp [hget, this.1.1, ih this.2]
  · have := hf.2
    generalize s.hp = hp at this
    induction hp with
    | nil => intro k bk j x h; simp [hget] at h
    | cons p r ih =>
      obtain ⟨i, b⟩ := p
      simp [mentHp] at this
      intro k bk j x h hx
      simp only [hget] at h
      split at h
      · injection h with h; subst h; exact mentL_get this.1.2 hx
      · exact ih this.2 k bk j x h hx

theorem free_lt {s : St} {id : Nat} (hf : s.free id = true) : id ≤ 999999999 := by
  simp only [St.free, Bool.and_eq_true, decide_eq_true_eq] at hf
  exact hf.1
theorem heap_alloc_lt (w : World) (o : Obj) {k : Nat} (h : k < w.heap.size) : (w.alloc o).heap[k]? = w.heap[k]? := Below.heap_alloc w o k h

theorem Keeps.alloc {R : Rg} {w : World} (h : Keeps R w) (o : Obj) : Keeps R (w.alloc o) :=
  ⟨h.os, h.tape, h.output, by have := h.size; simp; omega, fun k hk he => by rw [heap_alloc_lt w o (Nat.lt_of_lt_of_le hk h.size)]; exact h.block k hk he⟩

/-- The world grows by one block, of which a new id is the name. -/
theorem Rep.newBlk {R : Rg} {β : Ids} {G : Seal} {s : St} {a : Act} {w : World} (h : Rep R β G s a w) {id : Nat} (hf : s.free id = true) (T : TypeId) (cs : List AV) (arr : Array Value) (full : Bool)
    (hle : cs.length ≤ arr.size) (hfull : full = true → cs.length = arr.size) (hcs : ∀ (j : Nat) x y, cs[j]? = some x → arr[j]? = some y → Conc G β x y) (hm : AV.mentL id cs = false) :
    Rep R (β.set id (.at w.heap.size arr.size)) G ⟨s.fr, hset s.hp id ⟨T, cs, full⟩⟩ a (w.alloc (.cells arr T (0, 0))) := by
  obtain ⟨f1, f2, f3⟩ := ment_of_free hf
  have hself : (β.set id (.at w.heap.size arr.size)) id = .at w.heap.size arr.size := by simp [Ids.set]
  have hoth : ∀ i, i ≠ id → (β.set id (.at w.heap.size arr.size)) i = β i := fun i hi => by simp [Ids.set, hi]
  refine ⟨h.defers, h.size, fun i x y hx hy => (h.fr i x y hx hy).setId (f1 i x hx) _, ?_⟩
  have hgs : ∀ b o, G b = some o → b < w.heap.size := fun b o hb => heap_lt (h.hp.gs b o hb)
  refine ⟨fun b o hb => by rw [heap_alloc_lt w _ (hgs b o hb)]; exact h.hp.gs b o hb, fun i bk hi => ?_, fun i j b t t' hi hj hbi hbj => ?_, h.hp.keeps.alloc _, h.hp.dom, h.hp.idr.set _ (free_lt hf)⟩
  · rw [hget_hset] at hi
    unfold BlkOk
    by_cases hid : id = i
    · subst hid
      simp only [if_true, Option.some.injEq] at hi
      subst hi
      rw [hself]
      refine ⟨?_, .inl h.hp.keeps.size, arr, heap_alloc_new w _, rfl, hle, hfull, fun j x y hx hy => (hcs j x y hx hy).setId (mentL_get hm hx) _⟩
      cases hg : G w.heap.size with
      | none => rfl
      | some o => exact absurd (hgs _ _ hg) (by omega)
    · simp only [hid, if_false] at hi
      rw [hoth i (Ne.symm hid)]
      have := h.hp.blk i bk hi
      unfold BlkOk at this
      cases hβ : β i with
      | no => rw [hβ] at this; exact this
      | nil => rw [hβ] at this; exact this
      | «at» b t =>
        rw [hβ] at this
        obtain ⟨g1, g2, arr', g3, g4, g5, g6, g7⟩ := this
        exact ⟨g1, g2, arr', by rw [heap_alloc_lt w _ (heap_lt g3)]; exact g3, g4, g5, g6, fun j x y hx hy => (g7 j x y hx hy).setId (f3 i bk j x hi hx) _⟩
      | gh o =>
        rw [hβ] at this
        exact gh_same this (fun _ _ h => h) fun x hx y hc => by
          obtain ⟨j, hj⟩ := List.getElem?_of_mem hx
          exact hc.setId (f3 i bk j x hi hj) _
  · have hlt : ∀ i b t, i ≠ id → (hget (hset s.hp id ⟨T, cs, full⟩) i).isSome → (β.set id (.at w.heap.size arr.size)) i = .at b t → b < w.heap.size ∧ (hget s.hp i).isSome ∧ β i = .at b t := by
      intro i b t hne his hbi
      rw [hget_hset, if_neg (Ne.symm hne)] at his
      rw [hoth i hne] at hbi
      obtain ⟨bk, hbk⟩ := Option.isSome_iff_exists.1 his
      obtain ⟨_, _, arr', g3, _⟩ := h.hp.block hbk hbi
      exact ⟨heap_lt g3, his, hbi⟩
    by_cases hi' : i = id
    · by_cases hj' : j = id
      · rw [hi', hj']
      · subst hi'
        rw [hself] at hbi
        injection hbi with hb _
        have := (hlt j b t' hj' hj hbj).1
        omega
    · by_cases hj' : j = id
      · subst hj'
        rw [hself] at hbj
        injection hbj with hb _
        have := (hlt i b t hi' hi hbi).1
        omega
      · obtain ⟨_, a1, a2⟩ := hlt i b t hi' hi hbi
        obtain ⟨_, b1, b2⟩ := hlt j b t' hj' hj hbj
        exact h.hp.inj i j b t t' a1 b1 a2 b2

theorem conc_ofVal_cells {G : Seal} {β : Ids} (z : Value) : ∀ (j : Nat) x y, (AV.ofVal z).cells[j]? = some x → z.cells[j]? = some y → Conc G β x y := by
  intro j x y hx hy
  cases z <;> simp only [AV.ofVal, AV.cells, Value.cells] at hx hy
  case agg cs =>
    simp only [List.getElem?_map, Array.getElem?_toList, hy, Option.map_some, Option.some.injEq] at hx
    subst hx; exact .v
  all_goals
    cases j with
    | zero => simp at hx hy; subst hx; subst hy; exact .v
    | succ j => simp at hx

theorem mentL_ofVal (id : Nat) (z : Value) : AV.mentL id (AV.ofVal z).cells = false := by
  have hl : ∀ l : List Value, AV.mentL id (l.map AV.v) = false := by
    intro l; induction l with
    | nil => rfl
    | cons x l ih => simp [AV.mentL, AV.ment, ih]
  cases z <;> simp only [AV.ofVal, AV.cells] <;> first | exact hl _ | simp [AV.mentL, AV.ment]

theorem length_ofVal (z : Value) : (AV.ofVal z).cells.length = z.cells.size := by
  cases z <;> simp [AV.ofVal, AV.cells, Value.cells]

/-- A new variable, zero. -/
theorem aop_alloc {d : Tmp} {t : TypeId} {z : Value} {n b : Nat} {ty : TypeId} {pos : String} {aft : Array Edge} {g : Option (Nat × Bool)} {s : St} {K : St → Prop} [hi : TyI P t z n b]
    (id : Nat) (hf : s.free id = true) (hk : K ⟨s.fr.set d (.ptr id 0), hset s.hp id ⟨t, (AV.ofVal z).cells, true⟩⟩) : AOp P ⟨some d, .alloc t, ty, pos, aft, g⟩ s K := by
  intro R β G a w Q hr
  have h1 := hr.newBlk hf t (AV.ofVal z).cells z.cells true (by rw [length_ofVal]; exact Nat.le_refl _) (fun _ => length_ofVal z) (conc_ofVal_cells z) (mentL_ofVal id z)
  have hrun : (execOp a.eval ⟨some d, .alloc t, ty, pos, aft, g⟩).run P w = .ok (.value (.pointer (some ⟨w.heap.size, 0, none⟩))) (w.alloc (.cells z.cells t (0, 0))) := by
    simp [execOp, Instr.alloc, run_zero_i hi, newVar, newRow]
  unfold Oper.wp
  rw [hrun, Oper.upon_value]
  exact ⟨_, _, _, hk, h1.put (some d) (.ptr (t := z.cells.size) (by simp [Ids.set]))⟩

theorem conc_cells {G : Seal} {β : Ids} {x : AV} {y : Value} (h : Conc G β x y) (h1 : x.one = true ∨ ∃ cs, x = .agg cs) :
    x.cells.length = y.cells.size ∧ ∀ (j : Nat) u v, x.cells[j]? = some u → y.cells[j]? = some v → Conc G β u v := by
  rcases h1 with h1 | ⟨cs, rfl⟩
  · have hy := h.one h1
    have hc : x.cells = [x] := by cases x <;> simp_all [AV.cells, AV.one]
    have hv : y.cells = #[y] := by cases y <;> simp_all [Value.cells, Value.oneCell']
    rw [hc, hv]
    refine ⟨rfl, fun j u v hu hv => ?_⟩
    cases j with
    | zero => simp at hu hv; subst hu; subst hv; exact h
    | succ j => simp at hu
  · cases h with
    | agg xs hl hs => exact ⟨by simp [AV.cells, Value.cells, hl], fun j u v hu hv => hs j u v hu (by simpa [Value.cells] using hv)⟩

/-- A new variable that holds a value. -/
theorem aop_box {d : Tmp} {t : TypeId} {x : Operand} {ty : TypeId} {pos : String} {aft : Array Edge} {g : Option (Nat × Bool)} {s : St} {K : St → Prop}
    (id : Nat) (hf : s.free id = true) (h1 : (s.eval x).one = true ∨ ∃ cs, s.eval x = .agg cs) (hm : AV.mentL id (s.eval x).cells = false)
    (hk : K ⟨s.fr.set d (.ptr id 0), hset s.hp id ⟨t, (s.eval x).cells, true⟩⟩) : AOp P ⟨some d, .box t x, ty, pos, aft, g⟩ s K := by
  intro R β G a w Q hr
  obtain ⟨c1, c2⟩ := conc_cells (hr.eval x) h1
  have h2 := hr.newBlk hf t (s.eval x).cells (a.eval x).cells true (by omega) (fun _ => c1) c2 hm
  have hrun : (execOp a.eval ⟨some d, .box t x, ty, pos, aft, g⟩).run P w = .ok (.value (.pointer (some ⟨w.heap.size, 0, none⟩))) (w.alloc (.cells (a.eval x).cells t (0, 0))) := by
    simp [execOp, Instr.box, newVar, newRow]
  unfold Oper.wp
  rw [hrun, Oper.upon_value]
  exact ⟨_, _, _, hk, h2.put (some d) (.ptr (t := (a.eval x).cells.size) (by simp [Ids.set]))⟩
end Go.Ab

namespace Go.Ab
open Go.RowKit
variable {P : Program}

/-! ### Stores -/
theorem Keeps.setCell {R : Rg} {w : World} (h : Keeps R w) {a : Addr} (hb : R.w0.heap.size ≤ a.block ∨ R.ex a.block) (v : Value) : Keeps R (w.setCell a v) :=
  ⟨h.os, h.tape, h.output, by have := h.size; simpa using this, fun k hk he => by
    rw [Below.heap_setCell w a v k (by rintro rfl; rcases hb with hb | hb; omega; exact he hb)]; exact h.block k hk he⟩

theorem mentL_mem {id : Nat} {cs : List AV} {j : Nat} {x : AV} (hx : cs[j]? = some x) (h : AV.ment id x = true) : AV.mentL id cs = true := by
  cases hq : AV.mentL id cs with
  | true => rfl
  | false => rw [mentL_get hq hx] at h; cases h

/-- One cell of a block of the call's own is written. -/
theorem RepH.set1 {R : Rg} {β : Ids} {G : Seal} {hp : Hp} {w : World} (h : RepH R β G hp w) {id b t off : Nat} {bk : Blk} {x : AV} {y : Value} (hb : hget hp id = some bk) (hβ : β id = .at b t)
    (hx : Conc G β x y) : RepH R β G (hset hp id { bk with cs := bk.cs.set off x }) (w.setCell ⟨b, off, none⟩ y) := by
  obtain ⟨g1, g2, arr, g3, g4, g5, g6, g7⟩ := h.block hb hβ
  have hne : ∀ k o, G k = some o → k ≠ b := fun k o hk e => by subst e; rw [g1] at hk; cases hk
  refine ⟨fun k o hk => by rw [Below.heap_setCell w _ y k (hne k o hk)]; exact h.gs k o hk, fun i bk' hi => ?_, fun i j b t t' hi hj => ?_, h.keeps.setCell g2 y, h.dom, h.idr⟩
  · rw [hget_hset] at hi
    by_cases hid : id = i
    · subst hid
      simp only [if_true, Option.some.injEq] at hi
      subst hi
      unfold BlkOk
      rw [hβ]
      refine ⟨g1, g2, arr.setIfInBounds off y, ?_, by simp [g4], by simpa using g5, fun hf => by simpa using g6 hf, fun j u v hu hv => ?_⟩
      · simp [World.setCell, Array.getElem?_modify, g3]
      · rw [List.getElem?_set] at hu
        rw [Array.getElem?_setIfInBounds] at hv
        by_cases hoj : off = j
        · subst hoj
          simp only [if_true] at hu hv
          split at hu <;> simp at hu
          split at hv <;> simp at hv
          subst hu; subst hv; exact hx
        · simp only [hoj, if_false] at hu hv
          exact g7 j u v hu hv
    · simp only [hid, if_false] at hi
      have := h.blk i bk' hi
      unfold BlkOk at this ⊢
      cases hβi : β i with
      | no => rw [hβi] at this; exact this
      | nil => rw [hβi] at this; exact this
      | «at» b' t' =>
        rw [hβi] at this
        obtain ⟨f1, f2, arr', f3, f4⟩ := this
        have hbb : b' ≠ b := fun e => by
          subst e
          exact hid (h.inj id i b' t t' (by rw [hb]; rfl) (by rw [hi]; rfl) hβ hβi)
        exact ⟨f1, f2, arr', by rw [Below.heap_setCell w _ y b' hbb]; exact f3, f4⟩
      | gh o => rw [hβi] at this; exact this
  · have key : ∀ i, (hget (hset hp id { bk with cs := bk.cs.set off x }) i).isSome → (hget hp i).isSome := fun i hi => by
      rw [hget_hset] at hi
      by_cases hid : id = i
      · subst hid; rw [hb]; rfl
      · simpa [hid] using hi
    exact h.inj i j b t t' (key i hi) (key j hj)

def setAll : List AV → Nat → List AV → List AV
  | l, _, [] => l
  | l, off, c :: r => setAll (l.set off c) (off + 1) r
theorem length_setAll : ∀ (l : List AV) (off : Nat) (cs : List AV), (setAll l off cs).length = l.length
  | _, _, [] => rfl
  | l, off, c :: r => by rw [setAll, length_setAll]; simp

theorem hset_hset (hp : Hp) (id : Nat) (x y : Blk) : hset (hset hp id x) id y = hset hp id y := by
  induction hp with
  | nil => simp [hset]
  | cons p r ih =>
    obtain ⟨i, b⟩ := p
    by_cases h : i = id
    · simp [hset, h]
    · simp [hset, h, ih]
theorem hset_get (hp : Hp) (id : Nat) (bk : Blk) (h : hget hp id = some bk) : hset hp id bk = hp := by
  induction hp with
  | nil => simp [hget] at h
  | cons p r ih =>
    obtain ⟨i, b⟩ := p
    by_cases hi : i = id
    · simp [hget, hi] at h; subst h; simp [hset, hi]
    · simp [hget, hi] at h; simp [hset, hi, ih h]

theorem run_store1 {R : Rg} {β : Ids} {G : Seal} {hp : Hp} {w : World} (h : RepH R β G hp w) {id b t off : Nat} {bk : Blk} {y : Value} (hb : hget hp id = some bk) (hβ : β id = .at b t)
    (ho : off < bk.cs.length) (h1 : y.oneCell' = true) : (store ⟨b, off, none⟩ y).run P w = .ok () (w.setCell ⟨b, off, none⟩ y) := by
  obtain ⟨g1, g2, arr, g3, g4, g5, _⟩ := h.block hb hβ
  have hlt : off < arr.size := by omega
  have hc : w.cell? ⟨b, off, none⟩ = some arr[off] := by simp [World.cell?, g3, hlt]
  have hf : w.frozen? ⟨b, off, none⟩ = false := by simp [World.frozen?, g3]
  rw [run_store _ _ _ _ _ h1, hc]
  simp [hf]

/-- Several cells in a row. -/
theorem run_storeAll {R : Rg} {β : Ids} {G : Seal} {id b t off : Nat} (hβ : β id = .at b t) : ∀ (ys : List Value) (xs : List AV) (i : Nat) (hp : Hp) (bk : Blk) (w : World), RepH R β G hp w → hget hp id = some bk →
    xs.length = ys.length → off + i + ys.length ≤ bk.cs.length → (∀ (j : Nat) x y, xs[j]? = some x → ys[j]? = some y → Conc G β x y ∧ y.oneCell' = true) →
    ∃ w', (storeCells ⟨b, off, none⟩ ys i).run P w = .ok () w' ∧ RepH R β G (hset hp id { bk with cs := setAll bk.cs (off + i) xs }) w'
  | [], [], i, hp, bk, w, h, hb, _, _, _ => ⟨w, by simp [storeCells], by simp only [setAll]; rw [hset_get hp id bk hb]; exact h⟩
  | y :: ys, x :: xs, i, hp, bk, w, h, hb, hl, hle, hc => by
    simp only [List.length_cons] at hl hle
    have h0 := hc 0 x y rfl rfl
    have hst := run_store1 (P := P) h hb hβ (off := off + i) (by omega) h0.2
    have h' := h.set1 hb hβ (off := off + i) h0.1
    have hb' : hget (hset hp id { bk with cs := bk.cs.set (off + i) x }) id = some { bk with cs := bk.cs.set (off + i) x } := by rw [hget_hset]; simp
    obtain ⟨w', hrun, hrep⟩ := run_storeAll (off := off) hβ ys xs (i + 1) (hset hp id { bk with cs := bk.cs.set (off + i) x }) { bk with cs := bk.cs.set (off + i) x } (w.setCell ⟨b, off + i, none⟩ y) h' hb' (by omega) (by simp; omega) (fun j u v hu hv => hc (j + 1) u v (by simpa using hu) (by simpa using hv))
    refine ⟨w', ?_, ?_⟩
    · simp only [storeCells, Sem.run_bind, Addr.add_none, hst, Result.andThen_ok]
      exact hrun
    · rw [hset_hset] at hrep
      simp only [setAll]
      rw [show off + i + 1 = off + (i + 1) by omega]
      exact hrep
  | [], _ :: _, _, _, _, _, _, _, hl, _, _ => by simp at hl
  | _ :: _, [], _, _, _, _, _, _, hl, _, _ => by simp at hl

def allOne : List AV → Bool
  | [] => true
  | x :: r => x.one && allOne r
theorem allOne_get : ∀ {cs : List AV} {j : Nat} {x : AV}, allOne cs = true → cs[j]? = some x → x.one = true
  | [], _, _, _, h => by simp at h
  | c :: cs, 0, x, h, hx => by simp at hx; subst hx; simp [allOne] at h; exact h.1
  | c :: cs, j+1, x, h, hx => by simp at hx; simp [allOne] at h; exact allOne_get h.2 hx

/-- A store into a block of the call's own. -/
theorem aop_store {t : TypeId} {p x : Operand} {id off : Nat} {bk : Blk} {z : Value} {n b : Nat} {ty : TypeId} {pos : String} {aft : Array Edge} {g : Option (Nat × Bool)} {s : St} {K : St → Prop} [hi : TyI P t z n b]
    (hp : s.eval p = .ptr id off) (hb : hget s.hp id = some bk) (h1 : allOne (s.eval x).cells = true) (h2 : (s.eval x).one = true ∨ ∃ cs, s.eval x = .agg cs) (hn : (s.eval x).cells.length = n) (hle : off + n ≤ bk.cs.length)
    (hk : K ⟨s.fr, hset s.hp id { bk with cs := setAll bk.cs off (s.eval x).cells }⟩) : AOp P ⟨none, .store t p x, ty, pos, aft, g⟩ s K := by
  intro R β G a w Q hr
  have e1 := hr.eval p; rw [hp] at e1
  obtain ⟨c1, c2⟩ := conc_cells (hr.eval x) h2
  generalize hy : a.eval p = y at e1
  cases e1 with
  | @ptr _ _ _ bb tt hβ =>
    obtain ⟨w', hrun, hrep⟩ := run_storeAll (P := P) hβ (a.eval x).cells.toList (s.eval x).cells 0 s.hp bk w hr.hp hb (off := off) (by simp; omega) (by simp; omega)
      (fun j u v hu hv => by
        have hv' : (a.eval x).cells[j]? = some v := by simpa using hv
        have := c2 j u v hu hv'
        exact ⟨this, this.one (allOne_get h1 hu)⟩)
    have hsz : (a.eval x).cells.size = n := by omega
    unfold Oper.wp
    have : (execOp a.eval ⟨none, .store t p x, ty, pos, aft, g⟩).run P w = .ok .skip w' := by
      simp [execOp, hy, Instr.storeAt, Instr.sureAddr, storeVar, run_sizeOf_i hi, hsz, hrun]
    rw [this, Oper.upon_skip]
    exact ⟨β, G, _, hk, ⟨hr.defers, hr.size, hr.fr, by simpa using hrep⟩⟩

/-! ### A struct put together -/
def offsOf (P : Program) (fs : Array Field) (i : Nat) : Option (Nat × Nat) := fs[i]?.map fun f => (f.offset, P.cellsOf f.type)

def fillA (place : Nat → Option Nat) : List AV → List (Nat × AV) → List AV
  | cs, [] => cs
  | cs, (i, x) :: r => fillA place (match place i with | some off => setAll cs off x.cells | none => cs) r

theorem setAll_conc {G : Seal} {β : Ids} : ∀ (xs : List AV) (ys : List Value) (cs : List AV) (zs : Array Value) (off : Nat), xs.length = ys.length → cs.length = zs.size →
    (∀ (j : Nat) x y, xs[j]? = some x → ys[j]? = some y → Conc G β x y) → (∀ (j : Nat) x y, cs[j]? = some x → zs[j]? = some y → Conc G β x y) →
    (setAll cs off xs).length = (ys.zipIdx.foldl (fun cs (c, j) => cs.setIfInBounds (off + j) c) zs).size ∧
    ∀ (j : Nat) x y, (setAll cs off xs)[j]? = some x → (ys.zipIdx.foldl (fun cs (c, j) => cs.setIfInBounds (off + j) c) zs)[j]? = some y → Conc G β x y := by
  have key : ∀ (xs : List AV) (ys : List Value) (cs : List AV) (zs : Array Value) (off i : Nat), xs.length = ys.length → cs.length = zs.size →
    (∀ (j : Nat) x y, xs[j]? = some x → ys[j]? = some y → Conc G β x y) → (∀ (j : Nat) x y, cs[j]? = some x → zs[j]? = some y → Conc G β x y) →
    (setAll cs (off + i) xs).length = ((ys.zipIdx i).foldl (fun cs (c, j) => cs.setIfInBounds (off + j) c) zs).size ∧
    ∀ (j : Nat) x y, (setAll cs (off + i) xs)[j]? = some x → ((ys.zipIdx i).foldl (fun cs (c, j) => cs.setIfInBounds (off + j) c) zs)[j]? = some y → Conc G β x y := by
    intro xs
    induction xs with
    | nil => intro ys cs zs off i hl hc hx hz; cases ys with
      | nil => exact ⟨hc, hz⟩
      | cons y ys => simp at hl
    | cons x xs ih =>
      intro ys cs zs off i hl hc hx hz
      cases ys with
      | nil => simp at hl
      | cons y ys =>
        simp only [setAll, List.zipIdx_cons, List.foldl_cons]
        rw [show off + i + 1 = off + (i + 1) by omega]
        refine ih ys _ _ off (i + 1) (by simpa using hl) (by simp [hc]) (fun j u v hu hv => hx (j + 1) u v (by simpa using hu) (by simpa using hv)) (fun j u v hu hv => ?_)
        rw [List.getElem?_set] at hu
        rw [Array.getElem?_setIfInBounds] at hv
        by_cases ho : off + i = j
        · simp only [ho, if_true] at hu hv
          split at hu <;> simp at hu
          split at hv <;> simp at hv
          subst hu; subst hv
          exact hx 0 x y rfl rfl
        · simp only [ho, if_false] at hu hv
          exact hz j u v hu hv
  intro xs ys cs zs off
  simpa using key xs ys cs zs off 0

def partsOk (place : Nat → Option (Nat × Nat)) (n : Nat) : List (Nat × AV) → Bool
  | [] => true
  | (i, x) :: r => (match place i with | some (off, size) => x.cells.length == size && decide (off + size ≤ n) | none => false) && (x.one || (match x with | .agg _ => true | _ => false)) && partsOk place n r

theorem fill_conc {G : Seal} {β : Ids} {place : Nat → Option (Nat × Nat)} : ∀ (ps : List (Nat × AV)) (qs : List (Nat × Value)) (cs : List AV) (zs : Array Value), ps.length = qs.length → cs.length = zs.size → partsOk place cs.length ps = true →
    (∀ (j : Nat) p q, ps[j]? = some p → qs[j]? = some q → p.1 = q.1 ∧ Conc G β p.2 q.2) → (∀ (j : Nat) x y, cs[j]? = some x → zs[j]? = some y → Conc G β x y) →
    ∃ zs', Instr.fill place zs qs = some zs' ∧ (fillA (fun i => (place i).map (·.1)) cs ps).length = zs'.size ∧ ∀ (j : Nat) x y, (fillA (fun i => (place i).map (·.1)) cs ps)[j]? = some x → zs'[j]? = some y → Conc G β x y := by
  intro ps
  induction ps with
  | nil => intro qs cs zs hl hc _ _ hz; cases qs with
    | nil => exact ⟨zs, rfl, hc, hz⟩
    | cons => simp at hl
  | cons p ps ih =>
    intro qs cs zs hl hc hok hp hz
    cases qs with
    | nil => simp at hl
    | cons q qs =>
      obtain ⟨i, x⟩ := p
      obtain ⟨i', y⟩ := q
      obtain ⟨hi, hxy⟩ := hp 0 _ _ rfl rfl
      simp only at hi hxy
      subst hi
      simp only [partsOk, Bool.and_eq_true] at hok
      obtain ⟨⟨hpl, hone⟩, hrest⟩ := hok
      cases hpi : place i with
      | none => rw [hpi] at hpl; simp at hpl
      | some os =>
        obtain ⟨off, size⟩ := os
        rw [hpi] at hpl
        simp only [Bool.and_eq_true, beq_iff_eq, decide_eq_true_eq] at hpl
        have h1 : x.one = true ∨ ∃ cs, x = .agg cs := by
          rw [Bool.or_eq_true] at hone
          rcases hone with h | h
          · exact .inl h
          · cases x <;> simp at h; exact .inr ⟨_, rfl⟩
        obtain ⟨c1, c2⟩ := conc_cells hxy h1
        obtain ⟨d1, d2⟩ := setAll_conc x.cells y.cells.toList cs zs off (by simp [c1]) hc (fun j u v hu hv => c2 j u v hu (by simpa using hv)) hz
        obtain ⟨zs', e1, e2, e3⟩ := ih qs (setAll cs off x.cells) _ (by simpa using hl) d1 (by rw [length_setAll]; exact hrest) (fun j p q hp' hq' => hp (j + 1) p q (by simpa using hp') (by simpa using hq')) d2
        refine ⟨zs', ?_, ?_⟩
        · simp only [Instr.fill, hpi]
          rw [if_neg (by simp; omega)]
          rw [← Array.foldl_toList]
          simpa using e1
        · simp only [fillA, hpi, Option.map_some]
          exact ⟨e2, e3⟩

def evParts (s : St) (parts : Array (Nat × Operand)) : List (Nat × AV) := parts.toList.map fun (i, x) => (i, s.eval x)

class TyF (P : Program) (t : TypeId) (pl : outParam (List (Nat × Nat))) : Prop where
  ok : ∃ fs : Array Field, P.underlying t = some (.struct fs) ∧ fs.toList.mapM (fun f => (P.info? f.type).map fun i => (f.offset, i.size)) = some pl

theorem evParts_ok {R : Rg} {β : Ids} {G : Seal} {s : St} {a : Act} {w : World} (h : Rep R β G s a w) (parts : Array (Nat × Operand)) :
    (evParts s parts).length = (parts.map fun (i, x) => (i, a.eval x)).toList.length ∧
    ∀ (j : Nat) p q, (evParts s parts)[j]? = some p → (parts.map fun (i, x) => (i, a.eval x)).toList[j]? = some q → p.1 = q.1 ∧ Conc G β p.2 q.2 := by
  refine ⟨by simp [evParts], fun j p q hp hq => ?_⟩
  simp only [evParts, List.getElem?_map, Array.getElem?_toList, Option.map_eq_some_iff, Array.getElem?_map] at hp hq
  obtain ⟨⟨i, x⟩, h1, rfl⟩ := hp
  obtain ⟨⟨i', x'⟩, h2, rfl⟩ := hq
  rw [h1] at h2
  injection h2 with h2
  injection h2 with h2 h3
  subst h2; subst h3
  exact ⟨rfl, h.eval x⟩

/-- A struct literal. -/
theorem pv_build {s : St} {t : TypeId} {parts : Array (Nat × Operand)} {pl : List (Nat × Nat)} {z : Value} {n b : Nat} [hF : TyF P t pl] [hi : TyI P t z n b]
    (hok : partsOk (fun i => pl[i]?) (AV.ofVal z).cells.length (evParts s parts) = true) :
    PV P (.build t parts) s (.agg (fillA (fun i => (pl[i]?).map (·.1)) (AV.ofVal z).cells (evParts s parts))) :=
  pv_of fun R β G a w h => by
    obtain ⟨fs, hu, hm⟩ := hF.ok
    obtain ⟨it, hit, hz, hs, _⟩ := hi.ok
    obtain ⟨p1, p2⟩ := evParts_ok h parts
    obtain ⟨zs', e1, e2, e3⟩ := fill_conc (G := G) (β := β) (place := fun i => pl[i]?) (evParts s parts) _ (AV.ofVal z).cells z.cells p1 (length_ofVal z) hok p2 (conc_ofVal_cells z)
    refine ⟨.agg zs', ?_, fun w' _ _ _ _ _ => ?_⟩
    · have := Conc.agg (G := G) (β := β) (cs := fillA (fun i => (pl[i]?).map (·.1)) (AV.ofVal z).cells (evParts s parts)) zs'.toList (by simpa using e2) (fun j x y hx hy => e3 j x y hx (by simpa using hy))
      simpa using this
    · have hb : P.built t (parts.map fun (i, x) => (i, a.eval x)).toList = some zs' := by
        unfold Program.built
        simp only [hit, hu, hz, hm, List.getElem?_toArray]
        exact e1
      simp only [execOp, Sem.run_bind, run_build w' t _ _ hb, Result.andThen_ok]
      rfl

/-- An array literal. -/
theorem pv_buildA {s : St} {t el : TypeId} {parts : Array (Nat × Operand)} {N : Nat} {z ze : Value} {n b m c : Nat} [hu : TyU P t (.array N el)] [hi : TyI P t z n b] [he : TyI P el ze m c]
    (hok : partsOk (fun i => some (i * m, m)) (AV.ofVal z).cells.length (evParts s parts) = true) :
    PV P (.build t parts) s (.agg (fillA (fun i => some (i * m)) (AV.ofVal z).cells (evParts s parts))) :=
  pv_of fun R β G a w h => by
    obtain ⟨it, hit, hz, hs, _⟩ := hi.ok
    obtain ⟨ie, hie, _, hse, _⟩ := he.ok
    obtain ⟨p1, p2⟩ := evParts_ok h parts
    obtain ⟨zs', e1, e2, e3⟩ := fill_conc (G := G) (β := β) (place := fun i => some (i * m, m)) (evParts s parts) _ (AV.ofVal z).cells z.cells p1 (length_ofVal z) hok p2 (conc_ofVal_cells z)
    refine ⟨.agg zs', ?_, fun w' _ _ _ _ _ => ?_⟩
    · have := Conc.agg (G := G) (β := β) (cs := fillA (fun i => some (i * m)) (AV.ofVal z).cells (evParts s parts)) zs'.toList (by simpa using e2) (fun j x y hx hy => e3 j x y hx (by simpa using hy))
      simpa using this
    · have hb : P.built t (parts.map fun (i, x) => (i, a.eval x)).toList = some zs' := by
        unfold Program.built
        simp only [hit, hu.ok, hz, hie, hse]
        exact e1
      simp only [execOp, Sem.run_bind, run_build w' t _ _ hb, Result.andThen_ok]
      rfl

/-! ### New blocks that are sealed at once -/
def Seal.set (G : Seal) (b : Nat) (o : Obj) : Seal := fun k => if k = b then some o else G k

theorem Rep.newSealed {R : Rg} {β : Ids} {G : Seal} {s : St} {a : Act} {w : World} (h : Rep R β G s a w) (o : Obj) :
    Rep R β (G.set w.heap.size o) s a (w.alloc o) ∧ ∀ b x, G b = some x → (G.set w.heap.size o) b = some x := by
  have hgs : ∀ b o, G b = some o → b < w.heap.size := fun b o hb => heap_lt (h.hp.gs b o hb)
  have hG : ∀ b x, G b = some x → (G.set w.heap.size o) b = some x := fun b x hb => by
    have := hgs b x hb
    simp only [Seal.set]; rw [if_neg (by omega)]; exact hb
  refine ⟨⟨h.defers.mono hG, h.size, fun i x y hx hy => (h.fr i x y hx hy).mono hG, ⟨fun b x hb => ?_, fun id bk hi => ?_, h.hp.inj, h.hp.keeps.alloc _, fun b hb => ?_, h.hp.idr⟩⟩, hG⟩
  · simp only [Seal.set] at hb
    split at hb
    · rename_i e; subst e; injection hb with hb; subst hb; exact heap_alloc_new w _
    · rw [heap_alloc_lt w _ (hgs b x hb)]; exact h.hp.gs b x hb
  · have := h.hp.blk id bk hi
    unfold BlkOk at this ⊢
    cases hβ : β id with
    | no => rw [hβ] at this; exact this
    | nil => rw [hβ] at this; exact this
    | «at» b t =>
      rw [hβ] at this
      obtain ⟨g1, g2, arr', g3, g4, g5, g6, g7⟩ := this
      refine ⟨?_, g2, arr', by rw [heap_alloc_lt w _ (heap_lt g3)]; exact g3, g4, g5, g6, fun j x y hx hy => (g7 j x y hx hy).mono hG⟩
      have := heap_lt g3
      simp only [Seal.set]; rw [if_neg (by omega)]; exact g1
    | gh o => rw [hβ] at this; exact gh_same this hG fun x _ y hc => hc.mono hG
  · simp only [Seal.set] at hb
    split at hb
    · rename_i e; subst e; exact .inr (.inl h.hp.keeps.size)
    · exact h.hp.dom b hb

mutual
/-- No id is mentioned. -/
def AV.pur : AV → Bool
  | .ptr .. => false
  | .sl .. => false
  | .yl .. => false
  | .agg cs => AV.purL cs
  | .tup cs => AV.purL cs
  | .fn _ cs => AV.purL cs
  | .any => true
  | .v _ => true
  | .isl _ _ _ => true
  | .iptr _ => true
def AV.purL : List AV → Bool
  | [] => true
  | x :: r => AV.pur x && AV.purL r
end
theorem purL_get : ∀ {cs : List AV} {j : Nat} {x : AV}, AV.purL cs = true → cs[j]? = some x → AV.pur x = true
  | [], _, _, _, h => by simp at h
  | c :: cs, 0, x, h, hx => by simp at hx; subst hx; simp [AV.purL] at h; exact h.1
  | c :: cs, j+1, x, h, hx => by simp at hx; simp [AV.purL] at h; exact purL_get h.2 hx
theorem Conc.toNob {G : Seal} {β : Ids} {x : AV} {y : Value} (h : Conc G β x y) (hp : x.pur = true) (β' : Ids) : Conc G β' x y := by
  induction h generalizing β' with
  | any => exact .any
  | v => exact .v
  | agg xs hl _ ih => exact .agg xs hl fun j x y hx hy => ih j x y hx hy (purL_get (by simpa [AV.pur] using hp) hx) β'
  | tup xs hl _ ih => exact .tup xs hl fun j x y hx hy => ih j x y hx hy (purL_get (by simpa [AV.pur] using hp) hx) β'
  | fn xs hf hl _ ih => exact .fn xs hf hl fun j x y hx hy => ih j x y hx hy (purL_get (by simpa [AV.pur] using hp) hx) β'
  | ifc _ ih => exact .ifc (ih (by simpa [AV.pur, AV.purL] using hp) β')
  | ptr => simp [AV.pur] at hp
  | yl => simp [AV.pur] at hp
  | slN => simp [AV.pur] at hp
  | sl => simp [AV.pur] at hp
  | isl ys hu hl hc hb hA hr hs => exact .isl ys hu hl hc hb hA hr hs
  | iptr ys hl hr hs => exact .iptr ys hl hr hs

/-- A slice literal's elements, in order. -/
def dense : Nat → List (Nat × AV) → Bool
  | _, [] => true
  | k, (i, _) :: r => i == k && dense (k + 1) r

theorem setAll_mid : ∀ (xs pre old rest : List AV), old.length = xs.length → setAll (pre ++ (old ++ rest)) pre.length xs = pre ++ (xs ++ rest)
  | [], pre, old, rest, h => by
    have : old = [] := List.eq_nil_of_length_eq_zero (by simpa using h)
    subst this; rfl
  | x :: xs, pre, [], rest, h => by simp at h
  | x :: xs, pre, o :: old, rest, h => by
    have ih := setAll_mid xs (pre ++ [x]) old rest (by simpa using h)
    simp only [setAll]
    have h1 : (pre ++ (o :: old ++ rest)).set pre.length x = (pre ++ [x]) ++ (old ++ rest) := by
      rw [List.set_append_right _ _ (Nat.le_refl _)]; simp
    rw [h1]
    have h2 : pre.length + 1 = (pre ++ [x]).length := by simp
    rw [h2, ih]; simp

theorem fillA_dense {m : Nat} : ∀ (ps : List (Nat × AV)) (k : Nat) (pre old : List AV), dense k ps = true → pre.length = k * m → old.length = ps.length * m → (∀ p ∈ ps, p.2.cells.length = m) →
    fillA (fun i => some (i * m)) (pre ++ old) ps = pre ++ ps.flatMap fun p => p.2.cells
  | [], k, pre, old, _, _, ho, _ => by
    have : old = [] := List.eq_nil_of_length_eq_zero (by simpa using ho)
    subst this; simp [fillA]
  | (i, x) :: ps, k, pre, old, hd, hp, ho, hm => by
    simp only [dense, Bool.and_eq_true, beq_iff_eq] at hd
    obtain ⟨rfl, hd⟩ := hd
    have hx := hm (i, x) (by simp)
    simp only at hx
    have hol : m ≤ old.length := by rw [ho, List.length_cons, Nat.add_mul]; omega
    have hsplit : old = old.take m ++ old.drop m := (List.take_append_drop m old).symm
    simp only [fillA]
    rw [show i * m = pre.length from hp.symm, hsplit, setAll_mid x.cells pre (old.take m) (old.drop m) (by simp [hx]; omega)]
    have := fillA_dense ps (i + 1) (pre ++ x.cells) (old.drop m) hd (by simp [hp, hx, Nat.add_mul]) (by simp [ho, Nat.add_mul]) (fun p hp => hm p (by simp [hp]))
    rw [← List.append_assoc, this]
    simp [List.flatMap_cons]

theorem partsOk_len {place : Nat → Option (Nat × Nat)} {n m : Nat} (hpl : ∀ i o s, place i = some (o, s) → s = m) : ∀ (ps : List (Nat × AV)), partsOk place n ps = true → ∀ p ∈ ps, p.2.cells.length = m
  | [], _, p, hp => by simp at hp
  | (i, x) :: ps, h, p, hp => by
    simp only [partsOk, Bool.and_eq_true] at h
    obtain ⟨⟨h1, _⟩, h2⟩ := h
    rcases List.mem_cons.1 hp with rfl | hp
    · cases hq : place i with
      | none => rw [hq] at h1; simp at h1
      | some os =>
        obtain ⟨o, sz⟩ := os
        rw [hq] at h1
        simp only [Bool.and_eq_true, beq_iff_eq] at h1
        simp only [h1.1, hpl i o sz hq]
    · exact partsOk_len hpl ps h2 p hp

/-- A slice literal of values that mention no id: sealed at once. -/
theorem aop_buildSliceX {d : Tmp} {t el : TypeId} {len : Nat} {parts : Array (Nat × Operand)} {z : Value} {m bw : Nat} {ty : TypeId} {pos : String} {aft : Array Edge} {g : Option (Nat × Bool)} {s : St} {K : St → Prop}
    [hu : TyU P t (.slice el)] [hi : TyI P el z m bw] (hsm : decide (0 < len * m) = true ∧ decide (len * m ≤ 16777216) = true ∧ decide (len * bw ≤ 140737488355328) = true)
    (hd : dense 0 (evParts s parts) = true) (hl : (evParts s parts).length = len) (hok : partsOk (fun i => some (i * m, m)) (len * m) (evParts s parts) = true)
    (hpu : AV.purL ((evParts s parts).map (·.2)) = true)
    (hk : K (s.put (some d) (.isl m bw ((evParts s parts).map (·.2))))) : ∀ R β G a w Q, Rep R β G s a w → (Oper.mk (some d) (.buildSlice t len parts) ty pos aft g).wp P a w (fun a' w' => Ext w w' ∧ RK R K a' w') Q := by
  intro R β G a w Q hr
  obtain ⟨s1, s2, s3⟩ := hsm
  simp only [decide_eq_true_eq] at s1 s2 s3
  obtain ⟨ie, hie, hz0, hse, _⟩ := hi.ok
  obtain ⟨p1, p2⟩ := evParts_ok hr parts
  have hps := partsOk_len (m := m) (by intro i o s h; simp at h; exact h.2.symm) _ hok
  have hok' : partsOk (fun i => some (i * m, m)) (List.replicate (len * m) AV.any).length (evParts s parts) = true := by simpa using hok
  obtain ⟨zs', e1, e2, e3⟩ := fill_conc (G := G) (β := β) (place := fun i => some (i * m, m)) (evParts s parts) _ (List.replicate (len * m) .any) ((Array.range (len * m)).map (z.cells[· % z.cells.size]!)) p1 (by simp) hok' p2
    (fun j x y hx hy => by
      rw [List.getElem?_replicate] at hx
      split at hx <;> simp at hx
      subst hx; exact .any)
  have hfill : fillA (fun i => some (i * m)) (List.replicate (len * m) AV.any) (evParts s parts) = (evParts s parts).flatMap fun p => p.2.cells := by
    have := fillA_dense (m := m) (evParts s parts) 0 [] (List.replicate (len * m) AV.any) hd (by simp) (by simp [hl]) hps
    simpa using this
  have e2' : (fillA (fun i => some (i * m)) (List.replicate (len * m) AV.any) (evParts s parts)).length = zs'.size := e2
  have e3' : ∀ (j : Nat) x y, (fillA (fun i => some (i * m)) (List.replicate (len * m) AV.any) (evParts s parts))[j]? = some x → zs'[j]? = some y → Conc G β x y := e3
  rw [hfill] at e2' e3'
  have hrun : (Instr.buildSlice t len (parts.map fun (i, x) => (i, a.eval x))).run P w = .ok (.slice (some ⟨w.heap.size, 0, none⟩) len len) (w.alloc (.cells zs' el)) :=
    run_buildSlice w t el len _ zs' ie z hu.ok hie hz0 (by rw [hse]; omega) (by rw [hse]; omega) (by rw [hse]; exact e1)
  obtain ⟨hrep, hG⟩ := hr.newSealed (.cells zs' el)
  unfold Oper.wp
  have hexec : (execOp a.eval ⟨some d, .buildSlice t len parts, ty, pos, aft, g⟩).run P w = .ok (.value (.slice (some ⟨w.heap.size, 0, none⟩) len len)) (w.alloc (.cells zs' el)) := by
    simp only [execOp, Sem.run_bind, hrun, Result.andThen_ok]; rfl
  rw [hexec, Oper.upon_value]
  refine ⟨(Below.refl _ _).alloc (Nat.le_refl _) _, β, _, _, hk, hrep.put (some d) ?_⟩
  have hes : ∀ e ∈ (evParts s parts).map (·.2), e.cells.length = m := fun e he => by
    obtain ⟨p, hp, rfl⟩ := List.mem_map.1 he
    exact hps p hp
  have hfm : ((evParts s parts).map (·.2)).flatMap AV.cells = (evParts s parts).flatMap fun p => p.2.cells := by rw [List.flatMap_map]
  have hlen : ((evParts s parts).map (·.2)).length = len := by simp [hl]
  have hzl : zs'.size = len * m := by rw [← e2', ← hfm, flat_len hes, hlen]
  have := Conc.isl (G := G.set w.heap.size (.cells zs' el)) (β := β) (sz := m) (bw := bw) (es := (evParts s parts).map (·.2)) (A := some ⟨w.heap.size, 0, none⟩) (c := len) zs'.toList hes (by rw [hlen]; simp [hzl]) (by rw [hlen]; exact Nat.le_refl _) (by rw [hlen]; exact s3) (fun _ => by simp)
    (fun j y hy => ⟨_, rfl, by
      rw [Addr.add_none]
      simp only [gcell, Seal.set, if_true]
      simpa using hy⟩)
    (fun j x y hx hy => by
      rw [hfm] at hx
      have hxx : AV.pur x = true := by
        obtain ⟨p, hp, hx'⟩ := List.mem_flatMap.1 (List.mem_of_getElem? hx)
        obtain ⟨i, hi'⟩ := List.getElem?_of_mem (List.mem_map_of_mem (f := (·.2)) hp)
        have hpp := purL_get hpu hi'
        obtain ⟨i2, hi2⟩ := List.getElem?_of_mem hx'
        cases hq : p.2 with
        | agg cs =>
          rw [hq] at hx' hpp hi2
          simp only [AV.cells] at hi2
          exact purL_get (by simpa [AV.pur] using hpp) hi2
        | _ => rw [hq] at hx' hpp; simp only [AV.cells, List.mem_singleton] at hx'; subst hx'; exact hpp
      exact ((e3' j x y hx (by simpa using hy)).toNob hxx nob).mono hG)
  rw [hlen] at this
  exact this
/-- A slice literal of values that mention no id: sealed at once. -/
theorem aop_buildSlice {d : Tmp} {t el : TypeId} {len : Nat} {parts : Array (Nat × Operand)} {z : Value} {m bw : Nat} {ty : TypeId} {pos : String} {aft : Array Edge} {g : Option (Nat × Bool)} {s : St} {K : St → Prop}
    [hu : TyU P t (.slice el)] [hi : TyI P el z m bw] (hsm : decide (0 < len * m) = true ∧ decide (len * m ≤ 16777216) = true ∧ decide (len * bw ≤ 140737488355328) = true)
    (hd : dense 0 (evParts s parts) = true) (hl : (evParts s parts).length = len) (hok : partsOk (fun i => some (i * m, m)) (len * m) (evParts s parts) = true)
    (hpu : AV.purL ((evParts s parts).map (·.2)) = true)
    (hk : K (s.put (some d) (.isl m bw ((evParts s parts).map (·.2))))) : AOp P ⟨some d, .buildSlice t len parts, ty, pos, aft, g⟩ s K :=
  fun R β G a w Q hr => Oper.wp_mono (fun _ _ h => h.2) (aop_buildSliceX hsm hd hl hok hpu hk R β G a w Q hr)
end Go.Ab

namespace Go.Ab
open Go.RowKit
variable {P : Program}

/-! ### Code -/
def XThen (K : St → Prop) (Q : Exit → St → Prop) : Exit → St → Prop
  | .normal, s => K s
  | e, s => Q e s
def XBlock (id : Nat) (Q : Exit → St → Prop) : Exit → St → Prop
  | .exit id', s => if id' = id then Q .normal s else Q (.exit id') s
  | e, s => Q e s

/-- What the exits' predicate says of the model's states. -/
def RX (R : Rg) (Q : Exit → St → Prop) (e : Exit) (a : Act) (w : World) : Prop := RK R (Q e) a w

/-- The fence of a function's body, or of a round of a range over a function. -/
def wideAt (ro : Option Nat) : Fence := { Fence.wide with round := ro }

/-! Regions within a round: what holds of a region holds there, where it has no defer statement. -/
def noDef (l : List Oper) : Bool := l.all fun o => match o.op with | .defer _ => false | _ => true
theorem noDef_spec {l : List Oper} (h : noDef l = true) : ∀ (i : Nat) o, l.toArray[i]? = some o → ∀ c, o.op ≠ .defer c := by
  intro i o hi c hc
  have := List.all_eq_true.1 h o (List.mem_of_getElem? (by simpa using hi))
  rw [hc] at this; cases this
/-- Only the normal way out. -/
def QN (R : Rg) (K : St → Prop) : Exit → Act → World → Prop
  | .normal, a, w => RK R K a w
  | _, _, _ => False
theorem qn_letsOut {R : Rg} {K : St → Prop} : ¬ LetsOut (QN R K) := fun ⟨_, _, h⟩ => h
theorem callsAt {ro : Option Nat} {n : Nat} {f : FuncId} {args : Array Value} {w : World} {R : Ending → World → Prop} (h : Calls P f args w R) : CallsIn (wideAt ro) n P f args w R :=
  (callsIn_wide (n := n)).2 h
theorem operIn {ro : Option Nat} {n : Nat} {o : Oper} {a : Act} {w : World} {next next' : Act → World → Prop} {R : Rg} {K : St → Prop} (hnd : ∀ c, o.op ≠ .defer c) (hn : ∀ a w, next a w → next' a w)
    (h : o.wp P a w next (QN R K)) : o.wpIn (wideAt ro) n P a w next' (QN R K) := by
  refine ⟨fun _ _ => trivial, ?_⟩
  rw [show (wideAt ro).round = ro from rfl, Oper.semAt_eq ro _ o hnd]
  unfold Oper.wp at h
  generalize (execOp a.eval o).run P w = r at *
  cases r with
  | ok x w' =>
    cases x <;> simp only [Oper.upon, Oper.uponIn] at h ⊢
    case value v => exact hn _ _ h
    case skip => exact hn _ _ h
    case defer d => exact hn _ _ h
    case enter f args =>
      refine ⟨fun h => by simp [wideAt, Fence.wide] at h, (callsAt h).mono fun e w' he => ?_⟩
      cases e with
      | returned v => exact hn _ _ he
      | panicked c => exact he
      | outgrown => exact he
    case row row args =>
      refine ⟨fun h => by simp [wideAt, Fence.wide] at h, fun c cs _ => ?_⟩
      obtain ⟨v, w2, h1, h2⟩ := h c cs
      exact ⟨v, w2, hn _ _ h1, stepsIn_wide.2 h2⟩
  | halt x w' => cases x <;> simp only [Oper.upon, Oper.uponIn] at h ⊢ <;> exact h
theorem wpOps_in {ro : Option Nat} {n : Nat} {ops : Array Oper} {R : Rg} {K : St → Prop} (hnd : ∀ (i : Nat) o, ops[i]? = some o → ∀ c, o.op ≠ .defer c) :
    ∀ (l : List Nat) (a : Act) (w : World), wpOps P ops (QN R K) l a w → wpOpsIn (wideAt ro) n P ops (QN R K) l a w := by
  intro l
  induction l with
  | nil => intro a w h; exact h
  | cons i rest ih =>
    intro a w h
    simp only [wpOps, wpOpsIn] at h ⊢
    cases ho : ops[i]? with
    | none => simp only [ho] at h ⊢; exact ih a w h
    | some o =>
      simp only [ho] at h ⊢
      split
      · rename_i hw
        simp only [hw, if_true] at h
        exact operIn (hnd i o ho) ih (h.resolve_right fun hh => qn_letsOut hh.2)
      · rename_i hw
        simp only [hw, if_false, Bool.false_eq_true] at h
        exact ⟨fun _ _ => trivial, ih _ w h⟩
theorem region_in {ro : Option Nat} {n id : Nat} {l : List Oper} {R : Rg} {K : St → Prop} {a : Act} {w : World} (hd : noDef l = true) (h : wpList P l.toArray (QN R K) l a w) : (Code.region id l.toArray false).wpIn (wideAt ro) n P (QN R K) a w :=
  wpIn_region (wpOps_in (noDef_spec hd) _ a w (by
    have := wpOps_eq_wpList (P := P) (ops := l.toArray) (Q := QN R K) l 0 (by simp)
    rw [List.range_eq_range', List.size_toArray, this]; exact h))
theorem region_any_in {ro : Option Nat} {n id : Nat} {l : List Oper} {R : Rg} {K : St → Prop} {a : Act} {w : World} (hd : noDef l = true) (hm : P.follows .mixedOrders = true)
    (h : wpAny P .any l.toArray (QN R K) l.toArray.size (Array.replicate l.toArray.size false) a { w with drawn := w.drawn + 1 }) : (Code.region id l.toArray true).wpIn (wideAt ro) n P (QN R K) a w :=
  wpIn_region_draw fun t => by
    simp only [Region.schedule, hm, Bool.true_or, if_true]
    exact wpOps_in (noDef_spec hd) _ a _ (wpAny_sound _ t _ a _ h)

/-- The code holds no range over a function. -/
def noRF : Code → Bool
  | .seq a b => noRF a && noRF b
  | .cond _ a b => noRF a && noRF b
  | .block _ c => noRF c
  | .loop c => noRF c
  | .rangeFunc _ _ _ _ => false
  | .scope c => noRF c
  | _ => true
/-- Within a round there is no further range over a function. -/
def RoOk (ro : Option Nat) (c : Code) : Prop := ro = none ∨ noRF c = true
theorem roOk_leaf {ro : Option Nat} {c : Code} (h : noRF c = true) : RoOk ro c := .inr h
def AW (P : Program) (c : Code) (s : St) (Q : Exit → St → Prop) : Prop :=
  ∀ ro, RoOk ro c → ∀ R β G a w, Rep R β G s a w → c.wpIn (wideAt ro) 0 P (RX R Q) a w

theorem aw_mono {c : Code} {s : St} {Q Q' : Exit → St → Prop} (h : AW P c s Q) (hq : ∀ e s, Q e s → Q' e s) : AW P c s Q' :=
  fun ro ho R β G a w hr => wpIn_mono (h ro ho R β G a w hr) (fun e _ _ ⟨β', G', s', hs, hr'⟩ => ⟨β', G', s', hq e s' hs, hr'⟩)
theorem qn_rx {R : Rg} {Q : Exit → St → Prop} : ∀ e a w, QN R (Q .normal) e a w → RX R Q e a w := fun e a w h => by
  cases e <;> first | exact h | exact h.elim
theorem aw_region {id : Nat} {l : List Oper} {s : St} {Q : Exit → St → Prop} (h : AOps P l.toArray l s (Q .normal)) (hd : noDef l = true := by rfl) : AW P (.region id l.toArray false) s Q :=
  fun ro _ R β G a w hr => wpIn_mono (region_in hd (h R β G a w _ (fun _ _ h => h) hr)) qn_rx

theorem aw_seq {x y : Code} {s : St} {Q : Exit → St → Prop} (h : ∀ K : St → Prop, (∀ s, AW P y s Q → K s) → AW P x s (XThen K Q)) : AW P (.seq x y) s Q := by
  intro ro ho R β G a w hr
  have hox : RoOk ro x := ho.imp (fun h => h) fun h => by simp only [noRF, Bool.and_eq_true] at h; exact h.1
  have hoy : RoOk ro y := ho.imp (fun h => h) fun h => by simp only [noRF, Bool.and_eq_true] at h; exact h.2
  refine wpIn_seq (wpIn_mono (h (fun s => AW P y s Q) (fun _ h => h) ro hox R β G a w hr) (fun e a₁ w₁ hq => ?_))
  obtain ⟨β', G', s', hs, hr'⟩ := hq
  cases e with
  | normal => exact hs ro hoy R β' G' a₁ w₁ hr'
  | _ => exact ⟨β', G', s', hs, hr'⟩

theorem aw_skip {s : St} {Q : Exit → St → Prop} (h : Q .normal s) : AW P .skip s Q := fun _ _ _ β G _ _ hr => wpIn_skip ⟨β, G, s, h, hr⟩
theorem aw_ret {s : St} {Q : Exit → St → Prop} (h : Q .ret s) : AW P .ret s Q := fun _ _ _ β G _ _ hr => wpIn_ret ⟨β, G, s, h, hr⟩
theorem aw_exit {id : Nat} {s : St} {Q : Exit → St → Prop} (h : Q (.exit id) s) : AW P (.exit id) s Q := fun _ _ _ β G _ _ hr => wpIn_exit ⟨β, G, s, h, hr⟩
theorem aw_block {id : Nat} {c : Code} {s : St} {Q : Exit → St → Prop} (h : AW P c s (XBlock id Q)) : AW P (.block id c) s Q := by
  intro ro ho R β G a w hr
  refine wpIn_block (wpIn_mono (h ro (ho.imp (fun h => h) fun h => h) R β G a w hr) (fun e a' w' hq => ?_))
  obtain ⟨β', G', s', hs, hr'⟩ := hq
  cases e with
  | exit id' =>
    simp only [XBlock] at hs
    simp only [Exit.inBlock]
    split at hs
    · rename_i he; rw [if_pos he]; exact ⟨β', G', s', hs, hr'⟩
    · rename_i he; rw [if_neg he]; exact ⟨β', G', s', hs, hr'⟩
  | _ => exact ⟨β', G', s', hs, hr'⟩
theorem aw_cond {c : Operand} {x y : Code} {s : St} {Q : Exit → St → Prop} {b : Bool} (hc : s.eval c = .bool b) (ht : b = true → AW P x s Q) (hf : b = false → AW P y s Q) : AW P (.cond c x y) s Q := by
  intro ro ho R β G a w hr
  have hox : RoOk ro x := ho.imp (fun h => h) fun h => by simp only [noRF, Bool.and_eq_true] at h; exact h.1
  have hoy : RoOk ro y := ho.imp (fun h => h) fun h => by simp only [noRF, Bool.and_eq_true] at h; exact h.2
  have h := hr.eval c; rw [hc] at h
  exact wpIn_cond_split (conc_bool h) (fun hb => ht hb ro hox R β G a w hr) (fun hb => hf hb ro hoy R β G a w hr)

theorem least {p : Nat → Prop} (h : ∃ n, p n) : ∃ n, p n ∧ ∀ m, p m → n ≤ m := by
  obtain ⟨n, hn⟩ := h
  induction n using Nat.strongRecOn with
  | _ n ih =>
    by_cases hex : ∃ m, m < n ∧ p m
    · obtain ⟨m, hm, hp⟩ := hex; exact ih m hm hp
    · exact ⟨n, hn, fun m hm => Nat.le_of_not_lt fun hlt => hex ⟨m, hlt, hm⟩⟩

/-- A loop: a relation that holds at each round's head, with a number that each round lowers. -/
theorem aw_loop {c : Code} {s : St} {Q : Exit → St → Prop} (I : Nat → St → Prop) {n0 : Nat} (h0 : I n0 s)
    (hr : ∀ n s, I n s → AW P c s (XThen (fun s' => ∃ m, m < n ∧ I m s') Q)) : AW P (.loop c) s Q := by
  intro ro ho R β G a w hrep
  let p : Act → World → Nat → Prop := fun a w n => ∃ β G s, I n s ∧ Rep R β G s a w
  have hex : ∀ a w, (∃ n, p a w n) → ∃ n, p a w n ∧ ∀ m, p a w m → n ≤ m := fun a w h => least h
  let m : Act → World → Nat := fun a w => @dite Nat (∃ n, p a w n) (Classical.propDecidable _) (fun h => Classical.choose (hex a w h)) (fun _ => 0)
  have hm : ∀ a w (h : ∃ n, p a w n), p a w (m a w) ∧ ∀ k, p a w k → m a w ≤ k := fun a w h => by
    simp only [m, dif_pos h]
    exact Classical.choose_spec (hex a w h)
  refine wpIn_loop (fun a w => ∃ n, p a w n) m ⟨n0, β, G, s, h0, hrep⟩ fun a w hI => ?_
  obtain ⟨⟨β1, G1, s1, hs1, hr1⟩, hmin⟩ := hm a w hI
  refine wpIn_mono (hr _ s1 hs1 ro (ho.imp (fun h => h) fun h => h) R β1 G1 a w hr1) (fun e a' w' hq => ?_)
  obtain ⟨β', G', s', hs, hr'⟩ := hq
  cases e with
  | normal =>
    obtain ⟨k, hlt, hi⟩ := hs
    have hex' : ∃ n, p a' w' n := ⟨k, β', G', s', hi, hr'⟩
    exact ⟨hex', Nat.lt_of_le_of_lt ((hm a' w' hex').2 _ ⟨β', G', s', hi, hr'⟩) hlt⟩
  | _ => exact ⟨β', G', s', hs, hr'⟩

/-! ### Weakening -/
/-- Every model state of s is one of s'. -/
def Le (s s' : St) : Prop := ∀ R β G a w, Rep R β G s a w → ∃ β' G', Rep R β' G' s' a w
theorem Le.refl (s : St) : Le s s := fun _ β G _ _ h => ⟨β, G, h⟩
theorem Le.trans {a b c : St} (h : Le a b) (k : Le b c) : Le a c := fun R β G x w hr => let ⟨β', G', h'⟩ := h R β G x w hr; k R β' G' x w h'
theorem aw_le {c : Code} {s s' : St} {Q : Exit → St → Prop} (hle : Le s s') (h : AW P c s' Q) : AW P c s Q :=
  fun ro ho R β G a w hr => let ⟨β', G', hr'⟩ := hle R β G a w hr; h ro ho R β' G' a w hr'
theorem aops_le {all : Array Oper} {rest : List Oper} {s s' : St} {K : St → Prop} (hle : Le s s') (h : AOps P all rest s' K) : AOps P all rest s K :=
  fun R β G a w Q hQ hr => let ⟨β', G', hr'⟩ := hle R β G a w hr; h R β' G' a w Q hQ hr'

/-- Forget slots. -/
inductive WeakL : List AV → List AV → Prop
  | nil : WeakL [] []
  | keep {x l l'} : WeakL l l' → WeakL (x :: l) (x :: l')
  | drop {x l l'} : WeakL l l' → WeakL (x :: l) (.any :: l')
theorem WeakL.get {l l' : List AV} (h : WeakL l l') : l.length = l'.length ∧ ∀ (i : Nat) x', l'[i]? = some x' → ∃ x, l[i]? = some x ∧ (x' = x ∨ x' = .any) := by
  induction h with
  | nil => exact ⟨rfl, fun i x h => by simp at h⟩
  | keep _ ih => exact ⟨by simp [ih.1], fun i x' h => by cases i with
      | zero => exact ⟨_, rfl, .inl (by simpa using h.symm)⟩
      | succ i => simpa using ih.2 i x' (by simpa using h)⟩
  | drop _ ih => exact ⟨by simp [ih.1], fun i x' h => by cases i with
      | zero => exact ⟨_, rfl, .inr (by simpa using h.symm)⟩
      | succ i => simpa using ih.2 i x' (by simpa using h)⟩

/-- Forget slots and blocks. -/
def hsub (l l' : Hp) : Prop := ∀ i b, hget l' i = some b → hget l i = some b
theorem le_weak {f f' : List AV} {h h' : Hp} (hf : WeakL f f') (hh : hsub h h') : Le ⟨f, h⟩ ⟨f', h'⟩ := by
  intro R β G a w hr
  obtain ⟨h1, h2⟩ := hf.get
  refine ⟨β, G, hr.defers, by rw [hr.size]; exact h1, fun i x y hx hy => ?_, ⟨hr.hp.gs, fun id bk hi => hr.hp.blk id bk (hh _ _ hi), fun i j b t t' hi hj => ?_, hr.hp.keeps, hr.hp.dom, hr.hp.idr⟩⟩
  · obtain ⟨x0, hx0, he⟩ := h2 i x hx
    rcases he with rfl | rfl
    · exact hr.fr i _ y hx0 hy
    · exact .any
  · obtain ⟨b1, hb1⟩ := Option.isSome_iff_exists.1 hi
    obtain ⟨b2, hb2⟩ := Option.isSome_iff_exists.1 hj
    exact hr.hp.inj i j b t t' (by simp [hh _ _ hb1]) (by simp [hh _ _ hb2])

/-! ### Contracts -/
def Sealed (G : Seal) (w : World) : Prop := ∀ b o, G b = some o → w.heap[b]? = some o
def ConcL (G : Seal) (args : List AV) (vals : List Value) : Prop := args.length = vals.length ∧ ∀ (j : Nat) x y, args[j]? = some x → vals[j]? = some y → Conc G nob x y

/-- Called with arguments that mention no id, the function hands back a value of which Q holds, in new memory or in what its arguments led to; all old memory is as it was. -/
def PCall (P : Program) (f : FuncId) (args : List AV) (Q : AV → Prop) : Prop :=
  ∀ G w vals, Sealed G w → ConcL G args vals → Calls P f vals.toArray w fun e w' => ∃ y G' x, e = .returned y ∧ Q x ∧ Conc G' nob x y ∧
    (∀ b, G' b ≠ none → G b ≠ none ∨ w.heap.size ≤ b) ∧ Sealed G' w' ∧ Ext w w'

theorem PCall.mono {f : FuncId} {args : List AV} {Q Q' : AV → Prop} (h : PCall P f args Q) (hq : ∀ x, Q x → Q' x) : PCall P f args Q' :=
  fun G w vals h1 h2 => (h G w vals h1 h2).mono fun _ _ ⟨y, G', x, he, hQ, rest⟩ => ⟨y, G', x, he, hq x hQ, rest⟩

/-- The results, read off a state. -/
def RV (P : Program) (rs : Array ResultVar) (s : St) (x : AV) : Prop :=
  ∀ fn : Func, fn.results = rs → ∀ R β G a w, Rep R β G s a w → ∃ y, (results fn a.tmps).run P w = .ok y w ∧ Conc G β x y
def resVar (tmps : Array Value) : ResultVar → Sem Value
  | .tmp t => pure (tmps.getD t undef)
  | .cell a t => do loadVar t (← asAddr (tmps.getD a undef))
theorem results_eq (fn : Func) (tmps : Array Value) : results fn tmps = (do
    let vs ← fn.results.mapM (resVar tmps)
    pure (if h : vs.size = 1 then vs[0] else .tuple vs)) := by
  unfold results
  congr 2

def RV1 (P : Program) (r : ResultVar) (s : St) (x : AV) : Prop :=
  ∀ R β G a w, Rep R β G s a w → ∃ y, (resVar a.tmps r).run P w = .ok y w ∧ Conc G β x y

theorem rv1_tmp {t : Tmp} {s : St} {x : AV} (h : s.fr[t]? = some x) : RV1 P (.tmp t) s x := fun R β G a w hr => by
  have := hr.eval (.tmp t)
  simp only [St.eval, List.getD_eq_getElem?_getD, h, Option.getD_some] at this
  exact ⟨_, rfl, this⟩
theorem rv1_cell {p : Tmp} {t : TypeId} {s : St} {x : AV} (h : PV P (.load t (.tmp p)) s x) : RV1 P (.cell p t) s x := fun R β G a w hr => by
  obtain ⟨y, hy, hrun⟩ := h R β G a w hr
  refine ⟨y, ?_, hy⟩
  have := hrun w none 0 "" #[] none (Below.refl _ _)
  simp only [execOp, Act.eval, Instr.loadAt] at this
  simp only [resVar]
  generalize a.tmps.getD p undef = v at *
  cases v with
  | pointer ad =>
    cases ad with
    | none => simp [Instr.sureAddr] at this
    | some ad =>
      simp only [Instr.sureAddr, asAddr, Sem.run_bind, Sem.run_pure, Result.andThen_ok] at this ⊢
      cases hl : (loadVar t ad).run P w with
      | ok u w' => rw [hl] at this; simp at this; rw [this.1, this.2]
      | halt u w' => rw [hl] at this; simp at this
  | _ => simp [Instr.sureAddr] at this
theorem rv_one {r : ResultVar} {s : St} {x : AV} (h : RV1 P r s x) : RV P #[r] s x := fun fn hf R β G a w hr => by
  obtain ⟨y, h1, h2⟩ := h R β G a w hr
  refine ⟨y, ?_, h2⟩
  rw [results_eq, hf]
  simp [Array.mapM_eq_mapM_toList, h1]
theorem rv_two {r q : ResultVar} {s : St} {x z : AV} (h : RV1 P r s x) (h' : RV1 P q s z) : RV P #[r, q] s (.tup [x, z]) := fun fn hf R β G a w hr => by
  obtain ⟨y, h1, h2⟩ := h R β G a w hr
  obtain ⟨u, k1, k2⟩ := h' R β G a w hr
  refine ⟨.tuple #[y, u], ?_, ?_⟩
  · rw [results_eq, hf]
    simp [Array.mapM_eq_mapM_toList, h1, k1]
  · have := Conc.tup (G := G) (β := β) (cs := [x, z]) [y, u] rfl (by
      intro j a b ha hb
      match j with
      | 0 => simp at ha hb; subst ha; subst hb; exact h2
      | 1 => simp at ha hb; subst ha; subst hb; exact k2
      | j+2 => simp at ha)
    simpa using this
theorem rv_three {r q t : ResultVar} {s : St} {x z m : AV} (h : RV1 P r s x) (h' : RV1 P q s z) (h'' : RV1 P t s m) : RV P #[r, q, t] s (.tup [x, z, m]) := fun fn hf R β G a w hr => by
  obtain ⟨y, h1, h2⟩ := h R β G a w hr
  obtain ⟨u, k1, k2⟩ := h' R β G a w hr
  obtain ⟨v, l1, l2⟩ := h'' R β G a w hr
  refine ⟨.tuple #[y, u, v], ?_, ?_⟩
  · rw [results_eq, hf]
    simp [Array.mapM_eq_mapM_toList, h1, k1, l1]
  · have := Conc.tup (G := G) (β := β) (cs := [x, z, m]) [y, u, v] rfl (by
      intro j a b ha hb
      match j with
      | 0 => simp at ha hb; subst ha; subst hb; exact h2
      | 1 => simp at ha hb; subst ha; subst hb; exact k2
      | 2 => simp at ha hb; subst ha; subst hb; exact l2
      | j+3 => simp at ha)
    simpa using this

/-- What stands at a function's end: the results, read in a state in which they mention no id. -/
def Fin (P : Program) (rs : Array ResultVar) (Q : AV → Prop) : Exit → St → Prop
  | .normal, s | .ret, s => ∃ s' x, Le s s' ∧ RV P rs s' x ∧ x.pur = true ∧ Q x
  | _, _ => False

theorem sealed_ext {G : Seal} {w w' : World} (h : Sealed G w) (he : Ext w w') : Sealed G w' :=
  fun b o hb => by rw [he.block b (heap_lt (h b o hb))]; exact h b o hb

/-! The end of a function: the lists of its loops over functions are taken. -/
def Seal.del (G : Seal) (D : Nat) : Seal := fun k => if k = D then none else G k
theorem gcell_del {G : Seal} {D : Nat} {o : Option (List Deferred)} (hD : G D = some (.deferred o)) {a : Addr} {y : Value} (h : gcell G a = some y) : gcell (G.del D) a = some y := by
  unfold gcell at *
  by_cases hb : a.block = D
  · rw [hb, hD] at h; cases h
  · simp only [Seal.del, hb, if_false]; exact h
theorem RepH.unmark {R : Rg} {β : Ids} {G : Seal} {hp : Hp} {w : World} (h : RepH R β G hp w) {D : Nat} {o : Option (List Deferred)} (hn : R.w0.heap.size ≤ D) (hD : G D = some (.deferred o)) : RepH R β (G.del D) hp (w.putObj D (.deferred none)) := by
  have hoth : ∀ b, b ≠ D → (w.putObj D (.deferred none)).heap[b]? = w.heap[b]? := fun b hb => World.putObj_heap_other hb
  have hc : ∀ {x y}, Conc G β x y → Conc (G.del D) β x y := fun hc => hc.extG (fun _ _ => rfl) fun _ _ h => gcell_del hD h
  refine ⟨fun b x hb => ?_, fun id bk hi => ?_, h.inj, ?_, fun b hb => ?_, h.idr⟩
  · simp only [Seal.del] at hb
    split at hb
    · cases hb
    · rename_i hne; rw [hoth b hne]; exact h.gs b x hb
  · have := h.blk id bk hi
    unfold BlkOk at this ⊢
    cases hβ : β id with
    | no => rw [hβ] at this; exact this
    | nil => rw [hβ] at this; exact this
    | «at» b t =>
      rw [hβ] at this
      obtain ⟨g1, g2, arr, g3, g4, g5, g6, g7⟩ := this
      have hne : b ≠ D := fun e => by subst e; rw [hD] at g1; cases g1
      exact ⟨by simp only [Seal.del, hne, if_false]; exact g1, g2, arr, by rw [hoth b hne]; exact g3, g4, g5, g6, fun j x y hx hy => hc (g7 j x y hx hy)⟩
    | gh o =>
      rw [hβ] at this
      rcases this with ⟨outs, g0, gf, g1, g2, g3⟩ | ⟨b, es, clock, e0, e1, e2, e3, e4, e5⟩
      · refine .inl ⟨outs, g0, gf, ?_, g2, fun j x y hx hy => hc (g3 j x y hx hy)⟩
        cases o with
        | none => exact g1
        | some p =>
          obtain ⟨h0, hm, D', h1, h2, h3, h6, h4, h5⟩ := g1
          exact ⟨h0, hm, D', h1, h2, h3, h6, by simp only [Seal.del]; rw [if_neg (by omega)]; exact h4, by simp only [Seal.del]; rw [if_neg (by omega)]; exact h5⟩
      · exact .inr ⟨b, es, clock, e0, e1, e2, by simp only [Seal.del]; rw [if_neg (fun e => by subst e; rw [hD] at e3; cases e3)]; exact e3, e4, fun j x y hx hy => hc (e5 j x y hx hy)⟩
  · have hk := h.keeps
    refine ⟨hk.os, hk.tape, hk.output, by have := hk.size; simpa [World.putObj] using this, fun k h1 h2 => ?_⟩
    rw [hoth k (by omega)]; exact hk.block k h1 h2
  · simp only [Seal.del] at hb
    split at hb
    · exact absurd rfl hb
    · exact h.dom b hb
theorem leaves_of {F : Fence} {n : Nat} {fn : Func} {tmps : Array Value} {R' : Ending → World → Prop} {R : Rg} {β : Ids} {hp : Hp} (C : Seal → World → Prop)
    (hC : ∀ (G : Seal) w D, C G w → RepH R β G hp w → R.w0.heap.size ≤ D → G D = some (.deferred (some [])) → C (G.del D) (w.putObj D (.deferred none)))
    (hend : ∀ G w, RepH R β G hp w → C G w → ∃ y, (results fn tmps).run P w = .ok y w ∧ R' (.returned y) w) : ∀ (Ds : List Nat) (G : Seal) (w : World), RepH R β G hp w → C G w → Ds.Nodup → (∀ D ∈ Ds, R.w0.heap.size ≤ D ∧ G D = some (.deferred (some []))) →
      LeavesInM F n P fn tmps R' (Ds.map fun D => { target := .collected D, args := #[] }) .returning w
  | [], G, w, h, hc, _, _ => by
    obtain ⟨y, h1, h2⟩ := hend G w h hc
    exact ⟨y, h1, h2⟩
  | D :: Ds, G, w, h, hc, hnd, hD => by
    obtain ⟨d1, d2⟩ := hD D (by simp)
    refine ⟨by simp, .inl ⟨D, _, rfl, run_takeDeferred (h.gs D _ d2), leaves_of C hC hend Ds (G.del D) _ (h.unmark d1 d2) (hC G w D hc h d1 d2) (List.nodup_cons.1 hnd).2 fun D' hD' => ?_⟩⟩
    obtain ⟨e1, e2⟩ := hD D' (by simp [hD'])
    exact ⟨e1, by simp only [Seal.del]; rw [if_neg (fun e : D' = D => (List.nodup_cons.1 hnd).1 (e ▸ hD'))]; exact e2⟩
/-- A call from a walk of the body. -/
theorem calls_of_aw {f : FuncId} {fn : Func} {c : Code} {rs : Array ResultVar} {vals : Array Value} {R : Rg} {β : Ids} {G : Seal} {s : St} {w : World} {Q : Exit → St → Prop} {post : Ending → World → Prop}
    (hf : P.funcs[f]? = some fn) (hb : fn.body = some c) (hrs : fn.results = rs) (hrep : Rep R β G s { tmps := vals ++ Array.replicate (fn.ntmps - vals.size) undef, defers := [] } w) (h : AW P c s Q)
    (hq : ∀ e s', Q e s' → (e = .normal ∨ e = .ret) ∧ ∃ s'' x, Le s' s'' ∧ RV P rs s'' x ∧ ∀ β2 G2 y w2, Conc G2 β2 x y → RepH R β2 G2 s''.hp w2 → post (.returned y) w2) : Calls P f vals w post := by
  refine (callsIn_wide (n := 0)).1 (callsIn_of_wp_marks hf hb trivial (wpIn_mono (h none (.inl rfl) R β G _ w hrep) fun e a' w' hx => ?_))
  obtain ⟨β', G', s', hs, hr'⟩ := hx
  obtain ⟨he, s'', x, hle, hrv, hpost⟩ := hq e s' hs
  obtain ⟨β2, G2, hr2⟩ := hle _ _ _ _ _ hr'
  obtain ⟨Ds, d1, d2, d3⟩ := hr2.defers
  have key : LeavesInM Fence.wide 0 P fn a'.tmps post a'.defers .returning w' := by
    rw [d1]
    refine leaves_of (R := R) (β := β2) (hp := s''.hp) (fun G w => ∀ (i : Nat) u v, s''.fr[i]? = some u → a'.tmps[i]? = some v → Conc G β2 u v) (fun G w D hc _ _ hD i u v hu hv => (hc i u v hu hv).extG (fun _ _ => rfl) fun _ _ h => gcell_del hD h) (fun G3 w3 hH hC => ?_) Ds G2 w' hr2.hp hr2.fr d2 d3
    obtain ⟨y, hy, hcy⟩ := hrv fn hrs R β2 G3 { a' with defers := [] } w3 ⟨defOk_nil, hr2.size, hC, hH⟩
    exact ⟨y, hy, hpost _ _ _ _ hcy hH⟩
  rcases he with rfl | rfl <;> exact key
theorem rep_start {R : Rg} {β : Ids} {G : Seal} {hp : Hp} {w : World} {args : List AV} {vals : List Value} {n : Nat} (hl : args.length = vals.length) (hc : ∀ (j : Nat) x y, args[j]? = some x → vals[j]? = some y → Conc G β x y) (hH : RepH R β G hp w) :
    Rep R β G ⟨args ++ List.replicate (n - args.length) .any, hp⟩ { tmps := vals.toArray ++ Array.replicate (n - vals.toArray.size) undef, defers := [] } w := by
  refine ⟨defOk_nil, by simp [hl], fun i x y hx hy => ?_, hH⟩
  by_cases hi : i < args.length
  · rw [List.getElem?_append_left hi] at hx
    rw [Array.getElem?_append_left (by simp; omega)] at hy
    exact hc i x y hx (by simpa using hy)
  · rw [List.getElem?_append_right (by omega), List.getElem?_replicate] at hx
    split at hx <;> simp at hx
    subst hx; exact .any

/-- A contract from a walk of the body. -/
theorem pcall_of {f : FuncId} {fn : Func} {c : Code} {args : List AV} {Q : AV → Prop} {n : Nat} {rs : Array ResultVar} (hf : P.funcs[f]? = some fn) (hb : fn.body = some c) (hn : fn.ntmps = n) (hrs : fn.results = rs)
    (h : AW P c ⟨args ++ List.replicate (n - args.length) .any, []⟩ (Fin P rs Q)) : PCall P f args Q := by
  intro G w vals hG ⟨hl, hc⟩
  subst hn
  refine calls_of_aw (R := ⟨w, fun _ => False, G, fun _ => none, fun _ => none⟩) (β := nob) (G := G) hf hb hrs (rep_start hl hc ⟨hG, fun id bk h => by simp [hget] at h, fun i j b t t' h => by simp [hget] at h, ⟨rfl, rfl, rfl, Nat.le_refl _, fun _ _ _ => rfl⟩, fun b h => .inl h, idr_nob⟩) h fun e s' hq => ?_
  have key : (∃ s'' x, Le s' s'' ∧ RV P rs s'' x ∧ x.pur = true ∧ Q x) → ∃ s'' x, Le s' s'' ∧ RV P rs s'' x ∧ ∀ β2 G2 y w2, Conc G2 β2 x y → RepH ⟨w, fun _ => False, G, fun _ => none, fun _ => none⟩ β2 G2 s''.hp w2 →
      (fun (e : Ending) (w' : World) => ∃ y G' x, e = Ending.returned y ∧ Q x ∧ Conc G' nob x y ∧ (∀ b, G' b ≠ none → G b ≠ none ∨ w.heap.size ≤ b) ∧ Sealed G' w' ∧ Ext w w') (.returned y) w2 := by
    rintro ⟨s'', x, hle, hrv, hp, hQ⟩
    refine ⟨s'', x, hle, hrv, fun β2 G2 y w2 hcy hH => ⟨y, G2, x, rfl, hQ, hcy.toNob hp nob, (fun b hb => (hH.dom b hb).imp (fun h => h) (fun h => h.elim (fun h => h) (fun h => h.elim))), hH.gs, ?_⟩⟩
    have hk := hH.keeps
    exact ⟨hk.os, hk.tape, hk.output, hk.size, fun k hk' => hk.block k hk' (by simp)⟩
  cases e with
  | normal => exact ⟨.inl rfl, key hq⟩
  | ret => exact ⟨.inr rfl, key hq⟩
  | _ => exact hq.elim

/-- The world has grown, all old blocks are as they were; some new ones are sealed. -/
theorem Rep.later {R : Rg} {β : Ids} {G G' : Seal} {s : St} {a : Act} {w w' : World} (h : Rep R β G s a w) (he : Ext w w') (hG' : Sealed G' w') (hd : ∀ b, G' b ≠ none → G b ≠ none ∨ w.heap.size ≤ b) :
    ∃ G'', Rep R β G'' s a w' ∧ (∀ b o, G' b = some o → G'' b = some o) := by
  let G'' : Seal := fun b => match G b with | some o => some o | none => G' b
  have hgs : Sealed G w' := sealed_ext h.hp.gs he
  have m1 : ∀ b o, G b = some o → G'' b = some o := fun b o hb => by simp [G'', hb]
  have m2 : ∀ b o, G' b = some o → G'' b = some o := fun b o hb => by
    cases hg : G b with
    | none => simp [G'', hg, hb]
    | some o' =>
      have e1 := hgs b o' hg
      have e2 := hG' b o hb
      rw [e1] at e2; injection e2 with e2; subst e2
      exact m1 b _ hg
  refine ⟨G'', ⟨h.defers.mono m1, h.size, fun i x y hx hy => (h.fr i x y hx hy).mono m1, ⟨fun b o hb => ?_, fun id bk hi => ?_, h.hp.inj, ?_, fun b hb => ?_, h.hp.idr⟩⟩, m2⟩
  · simp only [G''] at hb
    split at hb
    · rename_i o' hg; injection hb with hb; subst hb; exact hgs b _ hg
    · exact hG' b o hb
  · have := h.hp.blk id bk hi
    unfold BlkOk at this ⊢
    cases hβ : β id with
    | no => rw [hβ] at this; exact this
    | nil => rw [hβ] at this; exact this
    | «at» b t =>
      rw [hβ] at this
      obtain ⟨g1, g2, arr', g3, g4, g5, g6, g7⟩ := this
      refine ⟨?_, g2, arr', by rw [he.block b (heap_lt g3)]; exact g3, g4, g5, g6, fun j x y hx hy => (g7 j x y hx hy).mono m1⟩
      simp only [G'', g1]
      cases hq : G' b with
      | none => rfl
      | some o =>
        rcases hd b (by rw [hq]; simp) with h1 | h1
        · exact absurd g1 h1
        · have := heap_lt g3; omega
    | gh o => rw [hβ] at this; exact gh_same this m1 fun x _ y hc => hc.mono m1
  · have hk := h.hp.keeps
    refine ⟨he.os.trans hk.os, he.tape.trans hk.tape, he.output.trans hk.output, Nat.le_trans hk.size he.size, fun k h1 h2 => ?_⟩
    rw [he.block k (Nat.lt_of_lt_of_le h1 hk.size)]
    exact hk.block k h1 h2
  · have hb' : G b ≠ none ∨ G' b ≠ none := by
      simp only [G''] at hb
      cases hg : G b with
      | none => rw [hg] at hb; exact .inr hb
      | some o => exact .inl (by simp)
    rcases hb' with hb' | hb'
    · exact h.hp.dom b hb'
    · rcases hd b hb' with h1 | h1
      · exact h.hp.dom b h1
      · exact .inr (.inl (Nat.le_trans h.hp.keeps.size h1))

theorem callFunc_enter {f : FuncId} {fn : Func} {c : Code} (hf : P.funcs[f]? = some fn) (hb : fn.body = some c) (hn : fn.name ≠ "runtime.NumGoroutine") (args : Array Value) (w : World) :
    (callFunc f args).run P w = .ok (.enter f args) w := by
  simp [callFunc, hf, hn, hb]

/-- The function has a body. -/
class TyC (P : Program) (f : FuncId) : Prop where
  ok : ∀ args w, (callFunc f args).run P w = .ok (.enter f args) w
  lt : f < 1000000000

def evalL (s : St) (args : Array Operand) : List AV := args.toList.map s.eval

theorem evalL_conc {R : Rg} {β : Ids} {G : Seal} {s : St} {a : Act} {w : World} (h : Rep R β G s a w) (args : Array Operand) (hp : AV.purL (evalL s args) = true) :
    ConcL G (evalL s args) (args.map a.eval).toList := by
  refine ⟨by simp [evalL], fun j x y hx hy => ?_⟩
  have hpx := purL_get hp hx
  simp only [evalL, List.getElem?_map, Array.getElem?_toList, Option.map_eq_some_iff, Array.getElem?_map] at hx hy
  obtain ⟨o, h1, rfl⟩ := hx
  obtain ⟨o', h2, rfl⟩ := hy
  rw [h1] at h2; injection h2 with h2; subst h2
  exact (h.eval o).toNob hpx nob

/-- A call of a function by name. -/
theorem aop_call {d : Option Tmp} {f : FuncId} {args : Array Operand} {tys : Array TypeId} {ty : TypeId} {pos : String} {aft : Array Edge} {g : Option (Nat × Bool)} {s : St} {K : St → Prop} {Q : AV → Prop} [hc : TyC P f]
    (h : PCall P f (evalL s args) Q) (hp : AV.purL (evalL s args) = true) (hk : ∀ x, Q x → K (s.put d x)) : AOp P ⟨d, .call { callee := .value (.func f), args, argTypes := tys }, ty, pos, aft, g⟩ s K := by
  intro R β G a w Q' hr
  have hrun : (execOp a.eval ⟨d, .call { callee := .value (.func f), args, argTypes := tys }, ty, pos, aft, g⟩).run P w = .ok (.enter f (args.map a.eval)) w := by
    simp [execOp, resolve, Act.eval, Deferred.ofValue, invoke, hc.ok]
  unfold Oper.wp
  rw [hrun, Oper.upon_enter]
  have := h G w (args.map a.eval).toList hr.hp.gs (evalL_conc hr args hp)
  simp only [Array.toArray_toList] at this
  refine this.mono fun e w' ⟨y, G', x, he, hQ, hcx, hd, hG', hext⟩ => ?_
  subst he
  obtain ⟨G'', hr', hm⟩ := hr.later hext hG' hd
  exact ⟨β, G'', _, hk x hQ, hr'.put d ((hcx.mono hm).free β)⟩
end Go.Ab
namespace Go.Ab
variable {P : Program}
theorem tyI_of {t : TypeId} {z : Value} {n b : Nat} (h : (P.info? t).map (fun i => (i.zero, i.size, i.bytes)) = some (some z, n, b)) : TyI P t z n b := by
  cases hi : P.info? t with
  | none => rw [hi] at h; simp at h
  | some i =>
    rw [hi] at h
    simp only [Option.map_some, Option.some.injEq, Prod.mk.injEq] at h
    exact ⟨⟨i, hi, h.1, h.2.1, h.2.2⟩⟩
theorem tyC_of {f : FuncId} {fn : Func} (hf : P.funcs[f]? = some fn) (hs : fn.body.isSome = true) (hn : (fn.name == "runtime.NumGoroutine") = false) (hlt : f < 1000000000 := by decide) : TyC P f := by
  obtain ⟨c, hc⟩ := Option.isSome_iff_exists.1 hs
  exact ⟨fun args w => callFunc_enter hf hc (by simpa using hn) args w, hlt⟩
end Go.Ab

set_option linter.unusedVariables false
set_option linter.unusedSimpArgs false
namespace Go.Ab
variable {P : Program}
theorem aops_guardY {all : Array Oper} {o : Oper} {rest : List Oper} {s : St} {K : St → Prop} {j t : Nat} {b : Bool}
    (hg : o.guard = some (j, b)) (ht : (all[j]?).bind (·.dst) = some t) (hc : s.fr[t]? = some (.bool b))
    (hy : ∀ K' : St → Prop, (∀ s', AOps P all rest s' K → K' s') → AOp P o s K') : AOps P all (o :: rest) s K :=
  aops_guard hg ht hc (fun _ => hy) (fun h => absurd rfl h)
theorem aops_guardN {all : Array Oper} {o : Oper} {rest : List Oper} {s : St} {K : St → Prop} {j t : Nat} {b : Bool}
    (hg : o.guard = some (j, b)) (ht : (all[j]?).bind (·.dst) = some t) (hc : s.fr[t]? = some (.bool (!b)))
    (hn : ∀ K' : St → Prop, (∀ s', AOps P all rest s' K → K' s') → K' (s.put o.dst (.v undef))) : AOps P all (o :: rest) s K :=
  aops_guard hg ht hc (fun h => by cases b <;> cases h) (fun _ => hn _ fun _ h => h)
theorem aops_guardU {all : Array Oper} {o : Oper} {rest : List Oper} {s : St} {K : St → Prop} {j t : Nat} {b : Bool}
    (hg : o.guard = some (j, b)) (ht : (all[j]?).bind (·.dst) = some t) (hc : s.fr[t]? = some (.v undef))
    (hn : ∀ K' : St → Prop, (∀ s', AOps P all rest s' K → K' s') → K' (s.put o.dst (.v undef))) : AOps P all (o :: rest) s K :=
  aops_guardU' hg ht hc (hn _ fun _ h => h)
/-- The guard's bool is not known: both ways. -/
theorem aops_split {all : Array Oper} {o : Oper} {rest : List Oper} {s : St} {K : St → Prop} {j t : Nat} {b c : Bool}
    (hg : o.guard = some (j, b)) (ht : (all[j]?).bind (·.dst) = some t) (_hc : s.fr[t]? = some (.bool c))
    (h1 : c = true → ∀ K' : St → Prop, (∀ s', AOps P all (o :: rest) s' K → K' s') → K' s)
    (h2 : c = false → ∀ K' : St → Prop, (∀ s', AOps P all (o :: rest) s' K → K' s') → K' s) : AOps P all (o :: rest) s K := by
  cases c
  · exact h2 rfl _ fun _ h => h
  · exact h1 rfl _ fun _ h => h
theorem aw_condT {c : Operand} {x y : Code} {s : St} {Q : Exit → St → Prop} (hc : s.eval c = .bool true) (h : AW P x s Q) : AW P (.cond c x y) s Q :=
  aw_cond hc (fun _ => h) (fun h => by cases h)
theorem aw_condF {c : Operand} {x y : Code} {s : St} {Q : Exit → St → Prop} (hc : s.eval c = .bool false) (h : AW P y s Q) : AW P (.cond c x y) s Q :=
  aw_cond hc (fun h => by cases h) (fun _ => h)
theorem aw_split {c : Operand} {x y : Code} {s : St} {Q : Exit → St → Prop} {b : Bool} (hc : s.eval c = .bool b)
    (h1 : b = true → ∀ K : St → Prop, (∀ s', AW P x s' Q → K s') → K s)
    (h2 : b = false → ∀ K : St → Prop, (∀ s', AW P y s' Q → K s') → K s) : AW P (.cond c x y) s Q :=
  aw_cond hc (fun h => h1 h _ fun _ h => h) (fun h => h2 h _ fun _ h => h)

/-! ### The end of a function -/
theorem fin_one {rs : Array ResultVar} {Q : AV → Prop} {e : Exit} {s : St} {t : Tmp} {x : AV} (hrs : rs = #[.tmp t]) (hx : s.fr[t]? = some x) (hp : x.pur = true) (hQ : Q x) (he : e = .ret ∨ e = .normal := by first | exact .inl rfl | exact .inr rfl) : Fin P rs Q e s := by
  have : ∃ s' x, Le s s' ∧ RV P rs s' x ∧ x.pur = true ∧ Q x := ⟨s, x, Le.refl s, by subst hrs; exact rv_one (rv1_tmp hx), hp, hQ⟩
  rcases he with rfl | rfl <;> exact this
/-- The general form: a state that is weaker, in which the results mention no id. -/
theorem fin_le {rs : Array ResultVar} {Q : AV → Prop} {e : Exit} {s s' : St} {x : AV} (hle : Le s s') (hrv : RV P rs s' x) (hp : x.pur = true) (hQ : Q x) (he : e = .ret ∨ e = .normal := by first | exact .inl rfl | exact .inr rfl) : Fin P rs Q e s := by
  have : ∃ s' x, Le s s' ∧ RV P rs s' x ∧ x.pur = true ∧ Q x := ⟨s', x, hle, hrv, hp, hQ⟩
  rcases he with rfl | rfl <;> exact this
/-- One struct, in its cell. -/
theorem fin_cell {rs : Array ResultVar} {Q : AV → Prop} {e : Exit} {s s' : St} {p : Tmp} {t : TypeId} {x : AV} (hrs : rs = #[.cell p t]) (hle : Le s s') (hx : PV P (.load t (.tmp p)) s' x) (hp : x.pur = true) (hQ : Q x) (he : e = .ret ∨ e = .normal := by first | exact .inl rfl | exact .inr rfl) : Fin P rs Q e s :=
  fin_le hle (by subst hrs; exact rv_one (rv1_cell hx)) hp hQ he

/-! ### Loops, with the slots that the body writes forgotten -/
def havoc : List Nat → List AV → List AV
  | [], f => f
  | i :: r, f => havoc r (f.set i .any)
def sets : List (Nat × AV) → List AV → List AV
  | [], f => f
  | (i, x) :: r, f => sets r (f.set i x)

theorem aw_loop_at {ι : Type} {c : Code} {fr : List AV} {hp : Hp} {Q : Exit → St → Prop} (ws : List Nat) (C : ι → Prop) (μ : ι → Nat) (sl : ι → List (Nat × AV)) (hq : ι → Hp) (i0 : ι) (h0 : C i0)
    (hs : Le ⟨fr, hp⟩ ⟨sets (sl i0) (havoc ws fr), hq i0⟩)
    (hr : ∀ i, C i → ∀ K : St → Prop, (∀ s', (∃ j, C j ∧ μ j < μ i ∧ Le s' ⟨sets (sl j) (havoc ws fr), hq j⟩) → K s') → AW P c ⟨sets (sl i) (havoc ws fr), hq i⟩ (XThen K Q)) : AW P (.loop c) ⟨fr, hp⟩ Q := by
  refine aw_le hs (aw_loop (fun n s => ∃ i, C i ∧ μ i = n ∧ s = ⟨sets (sl i) (havoc ws fr), hq i⟩) ⟨i0, h0, rfl, rfl⟩ ?_)
  rintro n s ⟨i, hi, rfl, rfl⟩
  refine fun ro ho R β G a w hrep => wpIn_mono (hr i hi (fun s' => ∃ j, C j ∧ μ j < μ i ∧ Le s' ⟨sets (sl j) (havoc ws fr), hq j⟩) (fun _ h => h) ro ho R β G a w hrep) (fun e a' w' hx => ?_)
  obtain ⟨β', G', s', hs', hr'⟩ := hx
  cases e with
  | normal =>
    obtain ⟨j, hj, hlt, hle⟩ := hs'
    obtain ⟨β2, G2, hr2⟩ := hle R β' G' a' w' hr'
    exact ⟨β2, G2, _, ⟨μ j, hlt, j, hj, rfl, rfl⟩, hr2⟩
  | _ => exact ⟨β', G', s', hs', hr'⟩
/-- What is known of a slice's length. -/
theorem aw_bound {c : Code} {s : St} {Q : Exit → St → Prop} {i sz bw : Nat} {es : List AV} (hx : s.fr[i]? = some (.isl sz bw es)) (h : es.length * bw ≤ 140737488355328 → AW P c s Q) : AW P c s Q := by
  intro ro ho R β G a w hr
  have h1 := hr.eval (.tmp i)
  simp only [St.eval, List.getD_eq_getElem?_getD, hx, Option.getD_some] at h1
  have hb : es.length * bw ≤ 140737488355328 := by generalize a.eval (.tmp i) = y at h1; cases h1; assumption
  exact h hb ro ho R β G a w hr
theorem aops_bound {all : Array Oper} {rest : List Oper} {s : St} {K : St → Prop} {i sz bw : Nat} {es : List AV} (hx : s.fr[i]? = some (.isl sz bw es)) (h : es.length * bw ≤ 140737488355328 → AOps P all rest s K) : AOps P all rest s K := by
  intro R β G a w Q hQ hr
  have h1 := hr.eval (.tmp i)
  simp only [St.eval, List.getD_eq_getElem?_getD, hx, Option.getD_some] at h1
  have hb : es.length * bw ≤ 140737488355328 := by generalize a.eval (.tmp i) = y at h1; cases h1; assumption
  exact h hb R β G a w Q hQ hr
theorem toNat_pred (k : Nat) : ((k : Int) - 1).toNat = k - 1 := by omega
theorem toNat_succ (k : Nat) : ((k : Int) + 1).toNat = k + 1 := by omega
theorem weak_keep {x x' : AV} {l l' : List AV} (h : WeakL l l') (hx : x = x') : WeakL (x :: l) (x' :: l') := hx ▸ .keep h
theorem hsub_refl (h : Hp) : hsub h h := fun _ _ h => h
theorem hsub_nil (h : Hp) : hsub h [] := fun _ _ h => by simp [hget] at h
end Go.Ab

set_option linter.unusedVariables false
set_option linter.unusedSimpArgs false
namespace Go.Ab
open Go.RowKit
variable {P : Program}

/-! ### Forgetting an id -/
def AV.purge (id : Nat) (x : AV) : AV := if AV.ment id x then .any else x
def AV.purgeL (id : Nat) : List AV → List AV
  | [] => []
  | x :: r => AV.purge id x :: AV.purgeL id r
def purgeHp (id : Nat) : Hp → Hp
  | [] => []
  | (i, b) :: r => if i = id then purgeHp id r else (i, { b with cs := AV.purgeL id b.cs }) :: purgeHp id r
def St.purge (s : St) (id : Nat) : St := ⟨AV.purgeL id s.fr, purgeHp id s.hp⟩

@[simp] theorem purge_any (id : Nat) : AV.purge id .any = .any := rfl
@[simp] theorem purge_v (id : Nat) (x : Value) : AV.purge id (.v x) = .v x := rfl
@[simp] theorem purge_isl (id a b : Nat) (es : List AV) : AV.purge id (.isl a b es) = .isl a b es := rfl
@[simp] theorem purge_iptr (id : Nat) (es : List AV) : AV.purge id (.iptr es) = .iptr es := rfl
@[simp] theorem purge_ptr (id i o : Nat) : AV.purge id (.ptr i o) = if i = id then .any else .ptr i o := by
  simp [AV.purge, AV.ment]
@[simp] theorem purge_yl (id i : Nat) (y : YInfo) : AV.purge id (.yl i y) = if i = id then .any else .yl i y := by
  simp [AV.purge, AV.ment]
@[simp] theorem purge_sl (id a b i o n : Nat) : AV.purge id (.sl a b i o n) = if i = id then .any else .sl a b i o n := by
  simp [AV.purge, AV.ment]
theorem purge_of_pur {id : Nat} {x : AV} (h : x.pur = true) : AV.purge id x = x := by
  have key : ∀ (x : AV), x.pur = true → AV.ment id x = false := by
    intro x
    induction x using AV.rec (motive_2 := fun cs => AV.purL cs = true → AV.mentL id cs = false) with
    | agg cs ih => intro h; simp only [AV.pur] at h; simp only [AV.ment]; exact ih h
    | tup cs ih => intro h; simp only [AV.pur] at h; simp only [AV.ment]; exact ih h
    | fn f cs ih => intro h; simp only [AV.pur] at h; simp only [AV.ment]; exact ih h
    | ptr => intro h; simp [AV.pur] at h
    | sl => intro h; simp [AV.pur] at h
    | yl => intro h; simp [AV.pur] at h
    | nil => rfl
    | cons x r h1 h2 => rename_i h; simp only [AV.purL, Bool.and_eq_true] at h; simp only [AV.mentL, h1 h.1, h2 h.2, Bool.or_self]
    | _ => intro _; rfl
  simp [AV.purge, key x h]
theorem purgeL_get (id : Nat) : ∀ (l : List AV) (i : Nat), (AV.purgeL id l)[i]? = l[i]?.map (AV.purge id)
  | [], i => by simp [AV.purgeL]
  | x :: l, 0 => by simp [AV.purgeL]
  | x :: l, i+1 => by simp [AV.purgeL, purgeL_get id l i]
theorem purgeL_len (id : Nat) (l : List AV) : (AV.purgeL id l).length = l.length := by
  induction l with
  | nil => rfl
  | cons x l ih => simp [AV.purgeL, ih]
theorem purgeL_eq (id : Nat) (l : List AV) : AV.purgeL id l = l.map (AV.purge id) := by
  induction l with
  | nil => rfl
  | cons x l ih => simp [AV.purgeL, ih]
theorem purgeL_map {α : Type} (id : Nat) (f : α → AV) (xs : List α) (h : ∀ a, (f a).pur = true) : AV.purgeL id (xs.map f) = xs.map f := by
  induction xs with
  | nil => rfl
  | cons x l ih => simp [AV.purgeL, ih, purge_of_pur (h x)]
theorem purgeL_append (id : Nat) (a b : List AV) : AV.purgeL id (a ++ b) = AV.purgeL id a ++ AV.purgeL id b := by
  induction a with
  | nil => rfl
  | cons x l ih => simp [AV.purgeL, ih]
theorem purgeL_pur {id : Nat} {l : List AV} (h : AV.purL l = true) : AV.purgeL id l = l := by
  induction l with
  | nil => rfl
  | cons x l ih => simp only [AV.purL, Bool.and_eq_true] at h; simp [AV.purgeL, ih h.2, purge_of_pur h.1]
theorem purL_map {α : Type} (f : α → AV) (xs : List α) (h : ∀ a, (f a).pur = true) : AV.purL (xs.map f) = true := by
  induction xs with
  | nil => rfl
  | cons x l ih => simp [AV.purL, ih, h x]
theorem purL_append (a b : List AV) : AV.purL (a ++ b) = (AV.purL a && AV.purL b) := by
  induction a with
  | nil => rfl
  | cons x l ih => simp [AV.purL, ih, Bool.and_assoc]

theorem hget_purgeHp (id : Nat) (hp : Hp) (i : Nat) : hget (purgeHp id hp) i = if id = i then none else (hget hp i).map fun b => { b with cs := AV.purgeL id b.cs } := by
  induction hp with
  | nil => simp [purgeHp, hget]
  | cons p r ih =>
    obtain ⟨j, b⟩ := p
    by_cases hj : j = id
    · subst hj
      simp only [purgeHp, if_true, ih, hget]
      split <;> rfl
    · simp only [purgeHp, hj, if_false, hget, ih]
      by_cases hji : j = i
      · subst hji; simp [Ne.symm hj]
      · simp [hji]

theorem conc_sl_id {G : Seal} {β : Ids} {sz bw id off n : Nat} {v : Value} (h : Conc G β (.sl sz bw id off n) v) : β id = .nil ∨ ∃ b t, β id = .at b t := by
  cases h with
  | slN h => exact .inl h
  | sl h => exact .inr ⟨_, _, h⟩
theorem Conc.purged {G : Seal} {β β' : Ids} {x : AV} {y : Value} {id : Nat} (h : Conc G β x y) (hβ : ∀ i, i ≠ id → β' i = β i) : Conc G β' (AV.purge id x) y := by
  unfold AV.purge
  split
  · exact .any
  · rename_i hm
    exact h.ext (fun i hi => hβ i (by rintro rfl; exact hm hi)) (fun _ _ h => h)

/-- A row of the call's own has grown, in place or into a new block; all else is as it was. -/
theorem Rep.regrow {R : Rg} {β : Ids} {G : Seal} {s : St} {a : Act} {w w' : World} (h : Rep R β G s a w) {id : Nat} {row : Option Nat} (hg : w.grownBy w' row)
    (hrow : ∀ b, row = some b → ∃ t, β id = .at b t) (hid : (hget s.hp id).isSome) (hlt : id ≤ 999999999) (k : BK) (bk : Blk)
    (hbk : match k with | .no => False | .gh _ => False | .nil => bk.cs = [] ∧ bk.full = false | .at b t => (row = some b ∨ w.heap.size ≤ b) ∧ ∃ arr : Array Value, w'.heap[b]? = some (.cells arr bk.T (0, 0)) ∧ arr.size = t ∧ bk.cs.length ≤ t ∧
      (bk.full = true → bk.cs.length = t) ∧ ∀ (j : Nat) x y, bk.cs[j]? = some x → arr[j]? = some y → Conc G (β.set id k) x y) :
    Rep R (β.set id k) G ⟨AV.purgeL id s.fr, hset (purgeHp id s.hp) id bk⟩ a w' := by
  obtain ⟨bk0, hbk0⟩ := Option.isSome_iff_exists.1 hid
  have hself : (β.set id k) id = k := by simp [Ids.set]
  have hoth : ∀ i, i ≠ id → (β.set id k) i = β i := fun i hi => by simp [Ids.set, hi]
  have hrb : ∀ b, row = some b → G b = none ∧ (R.w0.heap.size ≤ b ∨ R.ex b) ∧ b < w.heap.size := fun b hb => by
    obtain ⟨t, ht⟩ := hrow b hb
    obtain ⟨g1, g2, arr, g3, _⟩ := h.hp.block hbk0 ht
    exact ⟨g1, g2, heap_lt g3⟩
  have hgs : ∀ b o, G b = some o → b < w.heap.size ∧ w'.heap[b]? = some o := fun b o hb => by
    have h1 := h.hp.gs b o hb
    refine ⟨heap_lt h1, ?_⟩
    rw [hg.block b (heap_lt h1) (fun e => by have := (hrb b e.symm).1; rw [hb] at this; cases this)]
    exact h1
  refine ⟨h.defers, by rw [purgeL_len]; exact h.size, fun i x y hx hy => ?_, ⟨fun b o hb => (hgs b o hb).2, fun i bk' hi => ?_, fun i j b t t' hi hj hbi hbj => ?_, ?_, h.hp.dom, h.hp.idr.set _ hlt⟩⟩
  · rw [purgeL_get, Option.map_eq_some_iff] at hx
    obtain ⟨x0, hx0, rfl⟩ := hx
    exact (h.fr i x0 y hx0 hy).purged hoth
  · rw [hget_hset] at hi
    by_cases hid' : id = i
    · subst hid'
      simp only [if_true, Option.some.injEq] at hi
      subst hi
      unfold BlkOk
      rw [hself]
      cases k with
      | no => exact hbk
      | gh o => exact hbk.elim
      | nil => exact hbk
      | «at» b t =>
        obtain ⟨hb, arr, e1, e2, e3, e4, e5⟩ := hbk
        refine ⟨?_, ?_, arr, e1, e2, e3, e4, e5⟩
        · rcases hb with hb | hb
          · exact (hrb b hb).1
          · cases hq : G b with
            | none => rfl
            | some o => exact absurd (hgs b o hq).1 (by omega)
        · rcases hb with hb | hb
          · exact (hrb b hb).2.1
          · exact .inl (Nat.le_trans h.hp.keeps.size hb)
    · simp only [hid', if_false, hget_purgeHp, Option.map_eq_some_iff] at hi
      obtain ⟨bk1, hi1, rfl⟩ := hi
      have := h.hp.blk i bk1 hi1
      unfold BlkOk at this ⊢
      rw [hoth i (Ne.symm hid')]
      cases hβ : β i with
      | no => rw [hβ] at this; exact this
      | nil => rw [hβ] at this; exact ⟨by rw [this.1]; rfl, this.2⟩
      | «at» b t =>
        rw [hβ] at this
        obtain ⟨g1, g2, arr', g3, g4, g5, g6, g7⟩ := this
        refine ⟨g1, g2, arr', ?_, g4, by simpa [purgeL_len] using g5, by simpa [purgeL_len] using g6, fun j x y hx hy => ?_⟩
        · rw [hg.block b (heap_lt g3) (fun e => by
            obtain ⟨t', ht'⟩ := hrow b e.symm
            exact hid' (h.hp.inj id i b t' t hid (by rw [hi1]; rfl) ht' hβ))]
          exact g3
        · simp only [purgeL_get, Option.map_eq_some_iff] at hx
          obtain ⟨x0, hx0, rfl⟩ := hx
          exact (g7 j x0 y hx0 hy).purged hoth
      | gh o => rw [hβ] at this; exact gh_mono this (fun _ _ h => h) (AV.purge id) (fun x _ y hc => hc.purged hoth) _ (purgeL_eq _ _)
  · have key : ∀ i b t, i ≠ id → (hget (hset (purgeHp id s.hp) id bk) i).isSome → (β.set id k) i = .at b t → (hget s.hp i).isSome ∧ β i = .at b t ∧ b < w.heap.size := by
      intro i b t hne his hbi
      rw [hget_hset, if_neg (Ne.symm hne), hget_purgeHp, if_neg (Ne.symm hne)] at his
      rw [hoth i hne] at hbi
      obtain ⟨bk1, hb1⟩ := Option.isSome_iff_exists.1 his
      rw [Option.map_eq_some_iff] at hb1
      obtain ⟨bk2, hb2, _⟩ := hb1
      obtain ⟨_, _, arr', g3, _⟩ := h.hp.block hb2 hbi
      exact ⟨by rw [hb2]; rfl, hbi, heap_lt g3⟩
    have own : ∀ b t, k = .at b t → row = some b ∨ w.heap.size ≤ b := by
      intro b t hk; subst hk; exact hbk.1
    by_cases hi' : i = id
    · by_cases hj' : j = id
      · rw [hi', hj']
      · exfalso
        subst hi'
        rw [hself] at hbi
        obtain ⟨k1, k2, k3⟩ := key j b t' hj' hj hbj
        rcases own b t hbi with hb | hb
        · obtain ⟨t0, ht0⟩ := hrow b hb
          exact hj' (h.hp.inj i j b t0 t' hid k1 ht0 k2).symm
        · omega
    · by_cases hj' : j = id
      · exfalso
        subst hj'
        rw [hself] at hbj
        obtain ⟨k1, k2, k3⟩ := key i b t hi' hi hbi
        rcases own b t' hbj with hb | hb
        · obtain ⟨t0, ht0⟩ := hrow b hb
          exact hi' (h.hp.inj j i b t0 t hid k1 ht0 k2).symm
        · omega
      · obtain ⟨a1, a2, _⟩ := key i b t hi' hi hbi
        obtain ⟨b1, b2, _⟩ := key j b t' hj' hj hbj
        exact h.hp.inj i j b t t' a1 b1 a2 b2
  · have hk := h.hp.keeps
    refine ⟨hg.os.trans hk.os, hg.tape.trans hk.tape, hg.output.trans hk.output, Nat.le_trans hk.size hg.size, fun j h1 h2 => ?_⟩
    rw [hg.block j (Nat.lt_of_lt_of_le h1 hk.size) (fun e => by rcases (hrb j e.symm).2.1 with h3 | h3; omega; exact h2 h3)]
    exact hk.block j h1 h2

theorem run_append_nilsrc (w : World) (t ty e : TypeId) (i : TypeInfo) (ht : P.underlying t = some (.slice e)) (hi : P.info? e = some i)
    (A : Option Addr) (n cap c : Nat) (hA : A = none → n = 0 ∧ cap = 0) (hn : n ≤ cap) : (Builtin.append_ #[t, t] ty #[.slice A n cap, .slice none 0 c]).run P w = .ok (.slice A n cap) w := by
  cases A with
  | none => obtain ⟨rfl, rfl⟩ := hA rfl; simp [Builtin.append_, run_underlying ht, sizeOf, typeInfo, hi, Builtin.lenOf, Builtin.firstCells]
  | some a => simp [Builtin.append_, run_underlying ht, sizeOf, typeInfo, hi, Builtin.lenOf, Builtin.firstCells, hn, storeCells]

def esOne (es : List AV) : Prop := ∀ e ∈ es, allOne e.cells = true
theorem esOne_one {x : AV} (h : allOne x.cells = true) : esOne [x] := by intro e he; simp at he; subst he; exact h
theorem esOne_map {α : Type} {f : α → AV} {xs : List α} (h : ∀ a, allOne (f a).cells = true) : esOne (xs.map f) := by
  intro e he; obtain ⟨a, _, rfl⟩ := List.mem_map.1 he; exact h a
theorem esOne_flat {es : List AV} (h : esOne es) {j : Nat} {x : AV} (hx : (es.flatMap AV.cells)[j]? = some x) : x.one = true := by
  obtain ⟨e, he, hx'⟩ := List.mem_flatMap.1 (List.mem_of_getElem? hx)
  obtain ⟨i, hi⟩ := List.getElem?_of_mem hx'
  exact allOne_get (h e he) hi

/-- append onto a slice of the call's own; the source is sealed. -/
theorem aop_append {d : Tmp} {t el : TypeId} {x y : Operand} {sz bw id n : Nat} {z : Value} {bk : Blk} {es : List AV} {ty : TypeId} {pos : String} {aft : Array Edge} {g : Option (Nat × Bool)} {s : St} {K : St → Prop}
    [hu : TyU P t (.slice el)] [hi : TyI P el z sz bw]
    (hx : s.eval x = .sl sz bw id 0 n) (hb : hget s.hp id = some bk) (hT : bk.T = el) (hl : bk.cs.length = n * sz) (hy : s.eval y = .isl sz bw es) (h1 : esOne es)
    (hz : z.cells.size = sz) (hs : 0 < sz) (hw : 0 < bw) (hbytes : (n + es.length) * bw ≤ 140737488355328)
    (hk : K ⟨(AV.purgeL id s.fr).set d (.sl sz bw id 0 (n + es.length)), hset (purgeHp id s.hp) id ⟨el, AV.purgeL id bk.cs ++ es.flatMap AV.cells, false⟩⟩) :
    AOp P ⟨some d, .call { callee := .builtin .append, args := #[x, y], argTypes := #[t, t] }, ty, pos, aft, g⟩ s K := by
  intro R β G a w Q hr
  have e1 := hr.eval x; rw [hx] at e1
  have e2 := hr.eval y; rw [hy] at e2
  generalize hxv : a.eval x = vx at e1
  generalize hyv : a.eval y = vy at e2
  have hlt : id ≤ 999999999 := hr.hp.idr id (conc_sl_id e1)
  obtain ⟨i0, hi0, hz0, hs0, hb0⟩ := hi.ok
  have hexec : ∀ r w', (Builtin.append_ #[t, t] ty #[vx, vy]).run P w = .ok r w' → (execOp a.eval ⟨some d, .call { callee := .builtin .append, args := #[x, y], argTypes := #[t, t] }, ty, pos, aft, g⟩).run P w = .ok (.value r) w' := by
    intro r w' h
    simp [execOp, resolve, invoke, builtin, hxv, hyv, h]
  have hmax : n + es.length ≤ maxLen := by
    have h2 : (n + es.length) * 1 ≤ (n + es.length) * bw := Nat.mul_le_mul_left _ hw
    simp only [maxLen]; omega
  -- the source
  cases e2 with
  | @isl _ _ _ _ A c ys hu' hl' hc hbb hA hrd hsc =>
    have hyl : ys.length = es.length * sz := hl'
    have hflat : (es.flatMap AV.cells).length = ys.length := by rw [flat_len hu', hyl]
    have hones : ∀ u ∈ ys, u.oneCell' = true := fun u hm => by
      obtain ⟨j, hj⟩ := List.getElem?_of_mem hm
      have hjl : j < (es.flatMap AV.cells).length := by rw [hflat]; exact lt_of_get hj
      exact (hsc j _ u (List.getElem?_eq_getElem hjl) hj).one (esOne_flat h1 (List.getElem?_eq_getElem hjl))
    have hcells : ∀ ad, A = some ad → ∀ (j : Nat) u, ys[j]? = some u → w.cell? (ad.add j) = some u := fun ad had j u hj => by
      obtain ⟨a', ha', hg'⟩ := hrd j u hj
      rw [had] at ha'; injection ha' with ha'; subst ha'
      exact cell_of_gcell hr.hp (Below.refl _ _) hg'
    have hβne : β id ≠ .no := fun e => by have := hr.hp.blk id bk hb; unfold BlkOk at this; rw [e] at this; exact this
    -- what the new row holds
    have newcells : ∀ (arr0 : Array Value) (arr : Array Value) (k : BK), (∀ (j : Nat) x y, bk.cs[j]? = some x → arr0[j]? = some y → Conc G β x y) → bk.cs.length ≤ arr0.size →
        arr.toList.take ((n + es.length) * sz) = arr0.toList.take (n * sz) ++ ys → ∀ (j : Nat) x y, (AV.purgeL id bk.cs ++ es.flatMap AV.cells)[j]? = some x → arr[j]? = some y → Conc G (β.set id k) x y := by
      intro arr0 arr k h0 h0l htake j x' y' hx' hy'
      have hjl : j < n * sz + ys.length := by have := lt_of_get hx'; simp [purgeL_len, hl, hflat] at this; exact this
      have hy2 : (arr0.toList.take (n * sz) ++ ys)[j]? = some y' := by
        rw [← htake, List.getElem?_take, if_pos (by rw [Nat.add_mul, ← hyl]; exact hjl)]
        simpa using hy'
      have hlen0 : (arr0.toList.take (n * sz)).length = n * sz := by simp; omega
      by_cases hj : j < n * sz
      · rw [List.getElem?_append_left (by rw [purgeL_len, hl]; exact hj), purgeL_get, Option.map_eq_some_iff] at hx'
        obtain ⟨x0, hx0, rfl⟩ := hx'
        rw [List.getElem?_append_left (by rw [hlen0]; exact hj), List.getElem?_take, if_pos hj] at hy2
        exact (h0 j x0 y' hx0 (by simpa using hy2)).purged (fun i hi => by simp [Ids.set, hi])
      · rw [List.getElem?_append_right (by rw [purgeL_len, hl]; omega), purgeL_len, hl] at hx'
        rw [List.getElem?_append_right (by rw [hlen0]; omega), hlen0] at hy2
        exact (hsc _ x' y' hx' hy2).free _
    -- the end
    have fin : ∀ (v' : Value) (w' : World) (row : Option Nat) (arr0 : Array Value), (Builtin.append_ #[t, t] ty #[vx, .slice A es.length c]).run P w = .ok v' w' → w.grownBy w' row → (∀ b, row = some b → ∃ t, β id = .at b t) →
        (∀ (j : Nat) x y, bk.cs[j]? = some x → arr0[j]? = some y → Conc G β x y) → bk.cs.length ≤ arr0.size →
        w'.ownsRow R.w0.heap.size el sz v' (n + es.length) (arr0.toList.take (n * sz) ++ ys) ∨ (∃ b tt cap cur, v' = .slice (some ⟨b, 0, none⟩) (n + es.length) cap ∧ row = some b ∧ w'.heap[b]? = some (.cells cur el (0, 0)) ∧ n + es.length ≤ cap ∧ cap ≤ maxLen ∧ cur.size = cap * sz ∧ cur.size = tt ∧ cur.toList.take ((n + es.length) * sz) = arr0.toList.take (n * sz) ++ ys) →
        (∀ b, v'.ownBlock = some b → row = some b ∨ w.heap.size ≤ b) → RK R K (a.put (some d) v') w' := by
      intro v' w' row arr0 hrun hgrow hrow h0 h0l hown hat
      have hown' : (v' = .slice none 0 0 ∧ n + es.length = 0) ∨ ∃ b cap cur, v' = .slice (some ⟨b, 0, none⟩) (n + es.length) cap ∧ w'.heap[b]? = some (.cells cur el (0, 0)) ∧ n + es.length ≤ cap ∧ cap ≤ maxLen ∧ cur.size = cap * sz ∧ cur.toList.take ((n + es.length) * sz) = arr0.toList.take (n * sz) ++ ys := by
        rcases hown with hown | ⟨b, tt, cap, cur, h1, h2, h3, h4, h5, h6, h7, h8⟩
        · rcases hown.2 with ⟨h1, h2⟩ | ⟨b, cap, cur, h1, h2, h3, h4, h5, h6, h7⟩
          · exact .inl ⟨h1, h2⟩
          · exact .inr ⟨b, cap, cur, h1, h3, h4, h5, h6, h7⟩
        · exact .inr ⟨b, cap, cur, h1, h3, h4, h5, h6, h8⟩
      rcases hown' with ⟨hv, hn0⟩ | ⟨b, cap, cur, hv, hcur, hcap, hcm, hcs, htake⟩
      · have hn : n = 0 := by omega
        have hel : es.length = 0 := by omega
        have hes : es = [] := List.eq_nil_of_length_eq_zero hel
        have hbk : bk.cs = [] := List.eq_nil_of_length_eq_zero (by rw [hl, hn]; simp)
        have hrep := hr.regrow (id := id) hgrow hrow (by rw [hb]; rfl) hlt .nil ⟨el, AV.purgeL id bk.cs ++ es.flatMap AV.cells, false⟩ ⟨by simp [hbk, hes, AV.purgeL], rfl⟩
        refine ⟨_, _, _, hk, hrep.put (some d) ?_⟩
        rw [hv, hn0]
        exact .slN (by simp [Ids.set])
      · have hrep := hr.regrow (id := id) hgrow hrow (by rw [hb]; rfl) hlt (.at b cur.size) ⟨el, AV.purgeL id bk.cs ++ es.flatMap AV.cells, false⟩
          ⟨hat b (by rw [hv]; rfl), cur, hcur, rfl, by
            simp only [List.length_append, purgeL_len, hl, hflat, hyl, hcs, ← Nat.add_mul]
            exact Nat.mul_le_mul_right _ hcap, (fun h => by cases h), newcells arr0 cur _ h0 h0l htake⟩
        refine ⟨_, _, _, hk, hrep.put (some d) ?_⟩
        rw [hv]
        exact .sl (t := cur.size) (by simp [Ids.set]) hcap (by rw [hcs]; omega) hcm hbytes
    unfold Oper.wp
    cases e1 with
    | slN hβ =>
      have hbk : bk.cs = [] := by have := hr.hp.blk id bk hb; unfold BlkOk at this; rw [hβ] at this; exact this.1
      cases A with
      | none =>
        have hel : es.length = 0 := by
          rcases Nat.eq_zero_or_pos es.length with h | h
          · exact h
          · exact absurd rfl (hA h)
        have hrun := run_append_nilsrc (P := P) w t ty el i0 hu.ok hi0 none 0 0 c (fun _ => ⟨rfl, rfl⟩) (Nat.le_refl _)
        rw [hel] at hexec
        rw [hexec _ _ hrun, Oper.upon_value]
        have hy0 : ys = [] := List.eq_nil_of_length_eq_zero (by rw [hyl, hel]; simp)
        exact fin _ w none #[] (by rw [hel]; exact hrun) ⟨rfl, rfl, rfl, Nat.le_refl _, fun _ _ _ => rfl⟩ (fun _ h => by cases h) (by simp [hbk]) (by simp [hbk])
          (.inl ⟨by simp [hy0, hel], .inl ⟨rfl, by simp [hel]⟩⟩) (fun b h => by cases h)
      | some ad =>
        obtain ⟨v', w', hrun, hown, hgr, _, hat⟩ := run_append_own_at (P := P) w R.w0.heap.size t ty el i0 z sz bw hu.ok hi0 hz0 hs0 hb0 hz hs (.slice none 0 0) 0 [] (World.ownsRow_nil _ _ _ _) ad es.length c ys hyl (hcells ad rfl) hones hmax hbytes hr.hp.keeps.size
        rw [hexec _ _ hrun, Oper.upon_value]
        exact fin v' w' none #[] hrun hgr (fun _ h => by cases h) (by simp [hbk]) (by simp [hbk]) (.inl (by simpa using hown)) (fun b h => by
          rcases hat with h' | h'
          · rw [h'] at h; cases h
          · rw [h'] at h; injection h with h; exact .inr (by omega))
    | @sl _ _ _ _ _ _ cap b tt hβ hn ht hm hbw =>
      obtain ⟨g1, g2, arr, g3, g4, g5, g6, g7⟩ := hr.hp.block hb hβ
      have hrow : ∀ b', some b = some b' → ∃ t, β id = .at b' t := fun b' h => by injection h with h; subst h; exact ⟨tt, hβ⟩
      have hcs : arr.size = cap * sz := by rw [g4, ← ht]; omega
      cases A with
      | none =>
        have hel : es.length = 0 := by
          rcases Nat.eq_zero_or_pos es.length with h | h
          · exact h
          · exact absurd rfl (hA h)
        have hrun := run_append_nilsrc (P := P) w t ty el i0 hu.ok hi0 (some ⟨b, 0, none⟩) n cap c (fun h => by cases h) hn
        rw [hel] at hexec
        rw [hexec _ _ hrun, Oper.upon_value]
        have hy0 : ys = [] := List.eq_nil_of_length_eq_zero (by rw [hyl, hel]; simp)
        exact fin _ w (some b) arr (by rw [hel]; exact hrun) ⟨rfl, rfl, rfl, Nat.le_refl _, fun _ _ _ => rfl⟩ hrow g7 (by omega)
          (.inr ⟨b, tt, cap, arr, by rw [hel]; rfl, rfl, by rw [← hT]; exact g3, by omega, hm, hcs, g4, by rw [hel, hy0]; simp⟩) (fun b' h => .inl h)
      | some ad =>
        -- the owner's base is the least of both
        have hown0 : w.ownsRow 0 el sz (.slice (some ⟨b, 0, none⟩) n cap) n (arr.toList.take (n * sz)) :=
          ⟨by simp; omega, .inr ⟨b, cap, arr, rfl, Nat.zero_le _, by rw [← hT]; exact g3, hn, hm, hcs, rfl⟩⟩
        obtain ⟨v', w', hrun, hown, hgr, _, hat⟩ := run_append_own_at (P := P) w 0 t ty el i0 z sz bw hu.ok hi0 hz0 hs0 hb0 hz hs _ n _ hown0 ad es.length c ys hyl (hcells ad rfl) hones hmax hbytes (Nat.zero_le _)
        rw [hexec _ _ hrun, Oper.upon_value]
        have hat' : ∀ b', v'.ownBlock = some b' → some b = some b' ∨ w.heap.size ≤ b' := fun b' h => by
          rcases hat with h' | h'
          · rw [h'] at h; exact .inl h
          · rw [h'] at h; injection h with h; exact .inr (by omega)
        rcases hown.2 with ⟨h1', h2'⟩ | ⟨b', cap', cur', h1', h2', h3', h4', h5', h6', h7'⟩
        · exact fin v' w' (some b) arr hrun hgr hrow g7 (by omega) (.inl ⟨hown.1, .inl ⟨h1', h2'⟩⟩) hat'
        · rcases hat' b' (by rw [h1']; rfl) with hbb' | hbb'
          · injection hbb' with hbb'; subst hbb'
            exact fin v' w' (some b) arr hrun hgr hrow g7 (by omega) (.inr ⟨b, cur'.size, cap', cur', h1', rfl, h3', h4', h5', h6', rfl, h7'⟩) hat'
          · exact fin v' w' (some b) arr hrun hgr hrow g7 (by omega) (.inl ⟨hown.1, .inr ⟨b', cap', cur', h1', Nat.le_trans hr.hp.keeps.size hbb', h3', h4', h5', h6', h7'⟩⟩) hat'
end Go.Ab

set_option linter.unusedVariables false
set_option linter.unusedSimpArgs false
namespace Go.Ab
open Go.RowKit
variable {P : Program}

/-! ### Regions that draw their order -/
section float
variable {ops : Array Oper} {Q : Exit → Act → World → Prop}

/-- Some head that the operation does not wait for. -/
def early (ops : Array Oper) (hs : List Nat) (i : Nat) : Bool := hs.any fun k => !((Region.before ops).getD i 0).testBit k

def anyE (P : Program) (ops : Array Oper) (Q : Exit → Act → World → Prop) (hs : List Nat) : Nat → Array Bool → Act → World → Prop
  | 0, listed, a, w => Region.ready .any ops listed = [] ∧ Q .normal a w
  | f + 1, listed, a, w => (Region.ready .any ops listed = [] → Q .normal a w) ∧
    ∀ i ∈ Region.ready .any ops listed, wpOp P ops Q i (fun a' w' => (early ops hs i = true → Ext w w') ∧ anyE P ops Q hs f (listed.setIfInBounds i true) a' w') a w

theorem anyE_any {hs : List Nat} : ∀ (f : Nat) (listed : Array Bool) (a : Act) (w : World), anyE P ops Q hs f listed a w → wpAny P .any ops Q f listed a w
  | 0, _, _, _, h => h
  | f + 1, _, _, _, h => ⟨h.1, fun i hi => wpOp_mono (fun a' w' h' => anyE_any f _ a' w' h'.2) (h.2 i hi)⟩

/-! The bit sets of 'before'. -/
theorem fold_bits (acc : Nat → Nat) (k : Nat) : ∀ (l : List Edge) (x : Nat), (l.foldl (fun s e => if Region.binds .any e then s ||| 2 ^ e.on ||| acc e.on else s) x).testBit k = true →
    x.testBit k = true ∨ ∃ e ∈ l, Region.binds .any e = true ∧ (e.on = k ∨ (acc e.on).testBit k = true)
  | [], x, h => .inl h
  | e :: l, x, h => by
    simp only [List.foldl_cons] at h
    rcases fold_bits acc k l _ h with h1 | ⟨e', he', hb, h1⟩
    · by_cases hb : Region.binds .any e = true
      · simp only [hb, if_true, Nat.testBit_or, Nat.testBit_two_pow, Bool.or_eq_true, decide_eq_true_eq] at h1
        rcases h1 with (h1 | h1) | h1
        · exact .inl h1
        · exact .inr ⟨e, by simp, hb, .inl h1⟩
        · exact .inr ⟨e, by simp, hb, .inr h1⟩
      · simp only [hb, Bool.false_eq_true, if_false] at h1
        exact .inl h1
    · exact .inr ⟨e', by simp [he'], hb, h1⟩

theorem before_spec (ops : Array Oper) : (Region.before ops).size = ops.size ∧ ∀ (j : Nat) o, ops[j]? = some o → ∀ k, ((Region.before ops).getD j 0).testBit k = true →
    ∃ e ∈ o.after, Region.binds .any e = true ∧ (e.on = k ∨ (e.on < j ∧ ((Region.before ops).getD e.on 0).testBit k = true)) := by
  have key : ∀ (l : List Oper) (acc : Array Nat) (pre : List Oper), acc.size = pre.length →
      (∀ (j : Nat) o, pre[j]? = some o → ∀ k, (acc.getD j 0).testBit k = true → ∃ e ∈ o.after, Region.binds .any e = true ∧ (e.on = k ∨ (e.on < j ∧ (acc.getD e.on 0).testBit k = true))) →
      let r := l.foldl (fun acc o => acc.push (o.after.foldl (fun s e => if Region.binds .any e then s ||| 2 ^ e.on ||| acc.getD e.on 0 else s) 0)) acc
      r.size = (pre ++ l).length ∧ (∀ i, i < acc.size → r.getD i 0 = acc.getD i 0) ∧ ∀ (j : Nat) o, (pre ++ l)[j]? = some o → ∀ k, (r.getD j 0).testBit k = true → ∃ e ∈ o.after, Region.binds .any e = true ∧ (e.on = k ∨ (e.on < j ∧ (r.getD e.on 0).testBit k = true)) := by
    intro l
    induction l with
    | nil => intro acc pre hs hp; exact ⟨by simpa using hs, fun _ _ => rfl, by simpa using hp⟩
    | cons o l ih =>
      intro acc pre hs hp
      simp only [List.foldl_cons]
      generalize hv : o.after.foldl (fun s e => if Region.binds .any e then s ||| 2 ^ e.on ||| acc.getD e.on 0 else s) 0 = v
      have hpush : ∀ i, i < acc.size → (acc.push v).getD i 0 = acc.getD i 0 := fun i hi => by
        simp only [Array.getD_eq_getD_getElem?, Array.getElem?_push, Nat.ne_of_lt hi, if_false]
      have hlast : (acc.push v).getD acc.size 0 = v := by simp [Array.getD_eq_getD_getElem?]
      have hge : ∀ i, acc.size ≤ i → acc.getD i 0 = 0 := fun i hi => by simp [Array.getD_eq_getD_getElem?, Array.getElem?_eq_none hi]
      have hmono : ∀ i k, (acc.getD i 0).testBit k = true → ((acc.push v).getD i 0).testBit k = true := fun i k h => by
        rcases Nat.lt_or_ge i acc.size with hi | hi
        · rw [hpush i hi]; exact h
        · rw [hge i hi] at h; simp at h
      have hp' : ∀ (j : Nat) o', (pre ++ [o])[j]? = some o' → ∀ k, ((acc.push v).getD j 0).testBit k = true → ∃ e ∈ o'.after, Region.binds .any e = true ∧ (e.on = k ∨ (e.on < j ∧ ((acc.push v).getD e.on 0).testBit k = true)) := by
        intro j o' ho' k hk
        rcases Nat.lt_or_ge j pre.length with hj | hj
        · rw [List.getElem?_append_left hj] at ho'
          rw [hpush j (by omega)] at hk
          obtain ⟨e, he, hb, h⟩ := hp j o' ho' k hk
          exact ⟨e, he, hb, h.imp id (fun h => ⟨h.1, hmono _ _ h.2⟩)⟩
        · rw [List.getElem?_append_right hj] at ho'
          have hj0 : j - pre.length = 0 := by have := lt_of_get ho'; simp at this; omega
          rw [hj0] at ho'
          simp at ho'; subst ho'
          have hje : j = acc.size := by omega
          rw [hje, hlast, ← hv, ← Array.foldl_toList] at hk
          rcases fold_bits (fun i => acc.getD i 0) k o.after.toList 0 hk with h | ⟨e, he, hb, h⟩
          · simp at h
          · refine ⟨e, by simpa using he, hb, h.imp id (fun h => ⟨?_, hmono _ _ h⟩)⟩
            rcases Nat.lt_or_ge e.on acc.size with h' | h'
            · omega
            · rw [hge _ h'] at h; simp at h
      obtain ⟨h1, h2, h3⟩ := ih (acc.push v) (pre ++ [o]) (by simp [hs]) hp'
      refine ⟨by simpa using h1, fun i hi => by rw [h2 i (by simp; omega), hpush i hi], by simpa using h3⟩
  have := key ops.toList #[] [] rfl (fun j o h => by simp at h)
  simp only [Region.before]
  rw [← Array.foldl_toList]
  refine ⟨by simpa using this.1, fun j o ho => this.2.2 j o (by simpa using ho)⟩

/-- What comes up waits for nothing that is still to come. -/
theorem before_of_ready {listed : Array Bool} (hc : ∀ j oj, ops[j]? = some oj → listed.getD j false = true → ∀ e ∈ oj.after, Region.binds .any e = true → listed.getD e.on false = true)
    {k : Nat} (hk : listed.getD k false = false) : ∀ (n j : Nat) (oj : Oper), n = j → ops[j]? = some oj → (∀ e ∈ oj.after, Region.binds .any e = true → listed.getD e.on false = true) → ((Region.before ops).getD j 0).testBit k = false := by
  intro n
  induction n using Nat.strongRecOn with
  | _ n ih =>
    intro j oj hn ho hall
    subst hn
    cases hb : ((Region.before ops).getD n 0).testBit k with
    | false => rfl
    | true =>
      exfalso
      obtain ⟨e, he, hbi, h⟩ := (before_spec ops).2 n oj ho k hb
      have hl := hall e he hbi
      rcases h with rfl | ⟨hlt, h⟩
      · rw [hk] at hl; cases hl
      · cases hoe : ops[e.on]? with
        | none =>
          have : (Region.before ops).getD e.on 0 = 0 := by
            have h1 := (before_spec ops).1
            have h2 : ops.size ≤ e.on := by
              rcases Nat.lt_or_ge e.on ops.size with h' | h'
              · rw [Array.getElem?_eq_getElem h'] at hoe; cases hoe
              · exact h'
            simp [Array.getD_eq_getD_getElem?, Array.getElem?_eq_none (by rw [h1]; exact h2)]
          rw [this] at h; simp at h
        | some oe =>
          have := ih e.on hlt e.on oe rfl hoe (hc e.on oe hoe hl)
          rw [this] at h; cases h

/-- In state 'a', in every world that keeps w0's blocks, the operation leaves v in its temporary and the world as it is. -/
def YieldsE (P : Program) (ops : Array Oper) (w0 : World) (o : Oper) (v : Value) (a : Act) : Prop :=
  (Region.wanted o (yielded ops a.tmps) = true ∧ ∀ w, Ext w0 w → (execOp a.eval o).run P w = .ok (.value v) w) ∨
  (Region.wanted o (yielded ops a.tmps) = false ∧ v = undef)

theorem YieldsE.wpOp {w0 : World} {i : Nat} {o : Oper} {v : Value} {a : Act} (hi : ops[i]? = some o) (hy : YieldsE P ops w0 o v a)
    {K : Act → World → Prop} {w : World} (he : Ext w0 w) (h : K (a.put o.dst v) w) : wpOp P ops Q i K a w := by
  unfold Go.wpOp
  simp only [hi]
  rcases hy with ⟨hw, hv⟩ | ⟨hw, rfl⟩
  · simp only [hw, if_true, Oper.wp, hv w he, Oper.upon]; exact .inl h
  · simp only [hw, Bool.false_eq_true, if_false]; exact h

theorem YieldsE.of_same {w0 : World} {o : Oper} {v : Value} {a a' : Act} (hy : YieldsE P ops w0 o v a) (he : execOp a'.eval o = execOp a.eval o)
    (hw : Region.wanted o (yielded ops a'.tmps) = Region.wanted o (yielded ops a.tmps)) : YieldsE P ops w0 o v a' := by
  unfold YieldsE at *
  rw [he, hw]
  exact hy

theorem wpOp_putE {w0 : World} {j : Nat} {oi oj : Oper} {v : Value} (hj : ops[j]? = some oj) (hap : oi.apart ops oj = true)
    (hsi : ∀ cs b, oi.op ≠ .select cs b) (hsj : ∀ cs b, oj.op ≠ .select cs b)
    (hQ : ∀ c a w, ¬ Q (.panic c) a w) {K : Act → World → Prop} {a : Act} {w : World}
    (hy : YieldsE P ops w0 oi v a) (h : wpOp P ops Q j K (a.put oi.dst v) w) :
    wpOp P ops Q j (fun a' w' => YieldsE P ops w0 oi v a' ∧ K (a'.put oi.dst v) w') a w := by
  obtain ⟨h1, h2, h3⟩ := Oper.apart_spec hap
  have keep : ∀ (a : Act), YieldsE P ops w0 oi v a → ∀ u, YieldsE P ops w0 oi v (a.put oj.dst u) := fun a hy u =>
    hy.of_same (execOp_put oi hsi a oj.dst u h3) (wanted_put oi a oj.dst u h3)
  have keepD : ∀ d, YieldsE P ops w0 oi v { a with defers := d :: a.defers } := fun d => hy.of_same rfl rfl
  unfold wpOp at *
  simp only [hj] at *
  rw [wanted_put oj a oi.dst v h1] at h
  split
  · rename_i hw
    simp only [hw, if_true] at h
    rcases h with h | ⟨hasks, hlets⟩
    case inr => exact .inr ⟨by unfold Oper.asks at *; rw [execOp_put oj hsj a oi.dst v h1] at hasks; exact hasks, hlets⟩
    refine .inl ?_
    unfold Oper.wp at *
    rw [execOp_put oj hsj a oi.dst v h1] at h
    generalize (execOp a.eval oj).run P w = r at *
    cases r with
    | ok n w' =>
      cases n <;> simp only [Oper.upon] at h ⊢
      case value u => exact ⟨keep a hy u, by rw [← Act.put_comm a v u h2]; exact h⟩
      case skip => exact ⟨keep a hy _, by rw [← Act.put_comm a v undef h2]; exact h⟩
      case defer d =>
        refine ⟨keep _ (keepD d) _, ?_⟩
        rw [← Act.put_comm _ v undef h2, ← Act.put_defers]
        exact h
      case enter f args =>
        refine Calls.mono h fun e w'' he => ?_
        cases e with
        | returned u => exact ⟨keep a hy u, by rw [← Act.put_comm a v u h2]; exact he⟩
        | panicked c => exact absurd he (hQ _ _ _)
        | outgrown => exact he
      case row row args => exact Rows.mono h fun u w'' he => ⟨keep a hy u, by rw [← Act.put_comm a v u h2]; exact he⟩
    | halt x w' =>
      cases x <;> simp only [Oper.upon] at h ⊢
      case panic u => exact absurd h (hQ _ _ _)
  · rename_i hw
    simp only [hw] at h
    exact ⟨keep a hy _, by rw [← Act.put_comm a v undef h2]; exact h⟩

theorem getD_FT {listed : Array Bool} {i : Nat} (h : listed.getD i true = false) : listed.getD i false = false := by
  rcases Nat.lt_or_ge i listed.size with h' | h'
  · simp [h'] at h ⊢; exact h
  · simp [Array.getElem?_eq_none h'] at h

def Closed (ops : Array Oper) (listed : Array Bool) : Prop := ∀ j oj, ops[j]? = some oj → listed.getD j false = true → ∀ e ∈ oj.after, Region.binds .any e = true → listed.getD e.on false = true
theorem Closed.set {listed : Array Bool} (hc : Closed ops listed) {i : Nat} (hi : i ∈ Region.ready .any ops listed) : Closed ops (listed.setIfInBounds i true) := by
  obtain ⟨_, oi, hoi, hall⟩ := mem_ready.1 hi
  intro j oj hj hl e he hb
  by_cases hij : i = j
  · subst hij
    have : oj = oi := Option.some.inj (hj.symm.trans hoi)
    subst this
    exact getD_set_true (hall e he hb)
  · rw [getD_set_ne false hij] at hl
    exact getD_set_true (hc j oj hj hl e he hb)
theorem closed_none (n : Nat) : Closed ops (Array.replicate n false) := by
  intro j oj _ hl
  rcases Nat.lt_or_ge j n with h | h
  · simp [h] at hl
  · simp [h] at hl

/-- A head may be taken first. -/
theorem anyE_first {hs : List Nat} {i : Nat} {oi : Oper} {v : Value} {w0 : World} (hi : ops[i]? = some oi) (hh : i ∈ hs) (hsel : ∀ (j : Nat) (o : Oper) cs b, ops[j]? = some o → o.op ≠ .select cs b)
    (hQ : ∀ c a w, ¬ Q (.panic c) a w) :
    ∀ (fuel : Nat) (listed : Array Bool) (a : Act) (w : World), Closed ops listed → Ext w0 w →
      (∀ j oj, ops[j]? = some oj → j ≠ i → listed.getD j true = false → (∀ e ∈ oj.after, Region.binds .any e = true → e.on ≠ i) → oi.apart ops oj = true) →
      i ∈ Region.ready .any ops listed → YieldsE P ops w0 oi v a →
      anyE P ops Q hs fuel (listed.setIfInBounds i true) (a.put oi.dst v) w → anyE P ops Q hs (fuel + 1) listed a w := by
  intro fuel
  induction fuel with
  | zero =>
    intro listed a w hcl hex _ hr hy H
    refine ⟨fun h => (by rw [h] at hr; cases hr), fun j hj => ?_⟩
    by_cases hji : j = i
    · subst hji; exact hy.wpOp hi hex ⟨fun _ => Below.refl _ _, H⟩
    · have := ready_mono hj hji
      rw [H.1] at this
      cases this
  | succ fuel ih =>
    intro listed a w hcl hex hfree hr hy H
    refine ⟨fun h => (by rw [h] at hr; cases hr), fun j hj => ?_⟩
    by_cases hji : j = i
    · subst hji; exact hy.wpOp hi hex ⟨fun _ => Below.refl _ _, H⟩
    · have h1 := H.2 j (ready_mono hj hji)
      obtain ⟨hjun, oj, hoj, hall⟩ := mem_ready.1 hj
      have hun := getD_FT (mem_ready.1 hr).1
      have hnot : ∀ e ∈ oj.after, Region.binds .any e = true → e.on ≠ i := fun e he hb heq => by
        have h1 := hall e he hb
        rw [heq, hun] at h1; cases h1
      have hearly : early ops hs j = true := by
        have := before_of_ready hcl hun j j oj rfl hoj hall
        simp only [early, List.any_eq_true]
        exact ⟨i, hh, by rw [this]; rfl⟩
      have h2 := wpOp_putE hoj (hfree j oj hoj hji hjun hnot) (fun cs b => hsel i oi cs b hi) (fun cs b => hsel j oj cs b hoj) hQ hy h1
      have hfree' : ∀ k ok, ops[k]? = some ok → k ≠ i → (listed.setIfInBounds j true).getD k true = false →
          (∀ e ∈ ok.after, Region.binds .any e = true → e.on ≠ i) → oi.apart ops ok = true := fun k ok hk hki hun hno => by
        refine hfree k ok hk hki ?_ hno
        by_cases hjk : j = k
        · subst hjk; exact hjun
        · rw [getD_set_ne true hjk] at hun; exact hun
      refine wpOp_mono (fun a' w' h3 => ⟨h3.2.1, ih (listed.setIfInBounds j true) a' w' (hcl.set hj) ?_ hfree' (ready_mono hr (Ne.symm hji)) h3.1 ?_⟩) h2
      · exact hex.trans ((h3.2.1 hearly).mono hex.size)
      · rw [Array.setIfInBounds_comm _ _ hji]
        exact h3.2.2
end float

/-! ### The abstract form -/
def AAny (P : Program) (ops : Array Oper) (hs : List Nat) (fuel : Nat) (listed : Array Bool) (s : St) (K : St → Prop) : Prop :=
  ∀ R β G a w, Rep R β G s a w → Closed ops listed → anyE P ops (QN R K) hs fuel listed a w

theorem Rep.drew {R : Rg} {β : Ids} {G : Seal} {s : St} {a : Act} {w : World} (h : Rep R β G s a w) : Rep R β G s a { w with drawn := w.drawn + 1 } :=
  ⟨h.defers, h.size, h.fr, ⟨h.hp.gs, h.hp.blk, h.hp.inj, ⟨h.hp.keeps.os, h.hp.keeps.tape, h.hp.keeps.output, h.hp.keeps.size, h.hp.keeps.block⟩, h.hp.dom, h.hp.idr⟩⟩

theorem aw_draw {id : Nat} {l : List Oper} {s : St} {Q : Exit → St → Prop} (n : Nat) (hs : List Nat) (hn : l.length = n) (hm : P.follows .mixedOrders = true) (h : AAny P l.toArray hs n (Array.replicate n false) s (Q .normal)) (hd : noDef l = true := by rfl) : AW P (.region id l.toArray true) s Q := by
  subst hn
  intro ro ho R β G a w hr
  have h1 := anyE_any _ _ _ _ (h R β G a _ hr.drew (closed_none _))
  exact wpIn_mono (region_any_in hd hm (by simpa using h1)) qn_rx

theorem aany_end {ops : Array Oper} {hs : List Nat} {f : Nat} {listed : Array Bool} {s : St} {K : St → Prop} (hr : Region.ready .any ops listed = []) (h : K s) : AAny P ops hs f listed s K := by
  intro R β G a w hrep _
  cases f with
  | zero => exact ⟨hr, β, G, s, h, hrep⟩
  | succ f => exact ⟨fun _ => ⟨β, G, s, h, hrep⟩, fun i hi => by rw [hr] at hi; cases hi⟩

theorem anyE_firstA {ops : Array Oper} {hs : List Nat} {f : Nat} {listed : Array Bool} {s : St} {K : St → Prop} {o : Oper} {x : AV} (i : Nat) (hi : ops[i]? = some o)
    (hb : (Region.noSelect ops && (Region.ready .any ops listed).contains i && Region.free .any ops listed i && hs.contains i) = true)
    (hy : ∀ R β G a w, Rep R β G s a w → ∃ y, Conc G β x y ∧ YieldsE P ops w o y a)
    (h : AAny P ops hs f (listed.setIfInBounds i true) (s.put o.dst x) K) : AAny P ops hs (f + 1) listed s K := by
  simp only [Bool.and_eq_true, List.contains_iff_mem] at hb
  obtain ⟨⟨⟨h1, h2⟩, h3⟩, h4⟩ := hb
  intro R β G a w hr hcl
  obtain ⟨y, hy1, hy2⟩ := hy R β G a w hr
  refine anyE_first hi h4 (Region.noSelect_spec h1) (fun _ _ _ h => h) f listed a w hcl (Below.refl _ _) (Region.free_spec hi h3) h2 hy2 ?_
  exact h R β G _ w (hr.put o.dst hy1) (hcl.set h2)

theorem yields_pv {ops : Array Oper} {s : St} {x : AV} {d : Option Tmp} {op : Op} {ty : TypeId} {pos : String} {aft : Array Edge} (h : PV P op s x) :
    ∀ R β G a w, Rep R β G s a w → ∃ y, Conc G β x y ∧ YieldsE P ops w ⟨d, op, ty, pos, aft, none⟩ y a := fun R β G a w hr => by
  obtain ⟨y, h1, h2⟩ := h R β G a w hr
  exact ⟨y, h1, .inl ⟨rfl, fun w' he => h2 w' d ty pos aft none he⟩⟩

theorem guard_known {ops : Array Oper} {R : Rg} {β : Ids} {G : Seal} {s : St} {a : Act} {w : World} (hr : Rep R β G s a w) {j t : Nat} {u : Value} (ht : (ops[j]?).bind (·.dst) = some t) (hc : s.fr[t]? = some (.v u)) :
    yielded ops a.tmps j = (match (generalizing := false) u with | .bool b => some b | _ => none) := by
  have hlt : t < a.tmps.size := by rw [hr.size]; exact lt_of_get hc
  have hb := conc_v (hr.fr t _ _ hc (Array.getElem?_eq_getElem hlt))
  unfold yielded
  rw [ht]
  simp only [Option.bind_some, Array.getElem?_eq_getElem hlt, hb]
  cases u <;> rfl

/-- One head, without a guard. -/
theorem aany_pv {ops : Array Oper} {hs : List Nat} {f : Nat} {listed : Array Bool} {s : St} {K : St → Prop} {d : Option Tmp} {op : Op} {ty : TypeId} {pos : String} {aft : Array Edge} {x : AV} (i : Nat) (hi : ops[i]? = some ⟨d, op, ty, pos, aft, none⟩)
    (hb : (Region.noSelect ops && (Region.ready .any ops listed).contains i && Region.free .any ops listed i && hs.contains i) = true)
    (hp : PV P op s x) (h : ∀ K' : St → Prop, (∀ s', AAny P ops hs f (listed.setIfInBounds i true) s' K → K' s') → K' (s.put d x)) : AAny P ops hs (f + 1) listed s K :=
  anyE_firstA i hi hb (yields_pv hp) (h _ fun _ h => h)
/-- .. with a guard that says yes. -/
theorem aany_pvY {ops : Array Oper} {hs : List Nat} {f : Nat} {listed : Array Bool} {s : St} {K : St → Prop} {d : Option Tmp} {op : Op} {ty : TypeId} {pos : String} {aft : Array Edge} {x : AV} {j t : Nat} {b : Bool} (i : Nat) (hi : ops[i]? = some ⟨d, op, ty, pos, aft, some (j, b)⟩)
    (hb : (Region.noSelect ops && (Region.ready .any ops listed).contains i && Region.free .any ops listed i && hs.contains i) = true)
    (ht : (ops[j]?).bind (·.dst) = some t) (hc : s.fr[t]? = some (.bool b))
    (hp : PV P op s x) (h : ∀ K' : St → Prop, (∀ s', AAny P ops hs f (listed.setIfInBounds i true) s' K → K' s') → K' (s.put d x)) : AAny P ops hs (f + 1) listed s K :=
  anyE_firstA i hi hb (fun R β G a w hr => by
    obtain ⟨y, h1, h2⟩ := hp R β G a w hr
    have hg := guard_known hr ht hc
    exact ⟨y, h1, .inl ⟨by simp [Region.wanted, hg], fun w' he => h2 w' d ty pos aft _ he⟩⟩) (h _ fun _ h => h)
/-- .. with a guard that says no, or was passed over itself: the operation is passed over. -/
theorem aany_no {ops : Array Oper} {hs : List Nat} {f : Nat} {listed : Array Bool} {s : St} {K : St → Prop} {d : Option Tmp} {op : Op} {ty : TypeId} {pos : String} {aft : Array Edge} {j t : Nat} {b : Bool} {u : Value} (i : Nat) (hi : ops[i]? = some ⟨d, op, ty, pos, aft, some (j, b)⟩)
    (hb : (Region.noSelect ops && (Region.ready .any ops listed).contains i && Region.free .any ops listed i && hs.contains i) = true)
    (ht : (ops[j]?).bind (·.dst) = some t) (hc : s.fr[t]? = some (.v u)) (hu : (match u with | .bool c => c != b | _ => true) = true)
    (h : ∀ K' : St → Prop, (∀ s', AAny P ops hs f (listed.setIfInBounds i true) s' K → K' s') → K' (s.put d (.v undef))) : AAny P ops hs (f + 1) listed s K :=
  anyE_firstA i hi hb (fun R β G a w hr => by
    have hg' := guard_known hr ht hc
    refine ⟨undef, .v, .inr ⟨?_, rfl⟩⟩
    simp only [Region.wanted, hg']
    cases u <;> simp at hu ⊢
    exact hu) (h _ fun _ h => h)
theorem aany_split {ops : Array Oper} {hs : List Nat} {f : Nat} {listed : Array Bool} {s : St} {K : St → Prop} (t : Nat) {c : Bool} (_hc : s.fr[t]? = some (.bool c))
    (h1 : c = true → ∀ K' : St → Prop, (∀ s', AAny P ops hs f listed s' K → K' s') → K' s)
    (h2 : c = false → ∀ K' : St → Prop, (∀ s', AAny P ops hs f listed s' K → K' s') → K' s) : AAny P ops hs f listed s K := by
  cases c
  · exact h2 rfl _ fun _ h => h
  · exact h1 rfl _ fun _ h => h

/-! ### Tails -/
def AOpX (P : Program) (o : Oper) (s : St) (K : St → Prop) : Prop :=
  ∀ R β G a w Q, Rep R β G s a w → o.wp P a w (fun a' w' => Ext w w' ∧ RK R K a' w') Q

/-- The only operation that may come up. -/
theorem aany_tail {ops : Array Oper} {hs : List Nat} {f : Nat} {listed : Array Bool} {s : St} {K : St → Prop} {d : Option Tmp} {op : Op} {ty : TypeId} {pos : String} {aft : Array Edge} (i : Nat) (hi : ops[i]? = some ⟨d, op, ty, pos, aft, none⟩) (hr : Region.ready .any ops listed = [i]) (he : early ops hs i = false)
    (h : ∀ K' : St → Prop, (∀ s', AAny P ops hs f (listed.setIfInBounds i true) s' K → K' s') → AOp P ⟨d, op, ty, pos, aft, none⟩ s K') : AAny P ops hs (f + 1) listed s K := by
  intro R β G a w hrep hcl
  refine ⟨fun h => (by rw [hr] at h; cases h), fun j hj => ?_⟩
  rw [hr] at hj
  have hji : j = i := by simpa using hj
  subst hji
  have hmem : j ∈ Region.ready .any ops listed := by rw [hr]; exact hj
  unfold wpOp
  simp only [hi]
  rw [if_pos (by simp [Region.wanted])]
  refine .inl (Oper.wp_mono (fun a' w' ⟨β', G', s', hs', hr'⟩ => ⟨fun h => (by rw [he] at h; cases h), hs' R β' G' a' w' hr' (hcl.set hmem)⟩) (h _ (fun _ h => h) R β G a w _ hrep))
theorem aany_tailX {ops : Array Oper} {hs : List Nat} {f : Nat} {listed : Array Bool} {s : St} {K : St → Prop} {d : Option Tmp} {op : Op} {ty : TypeId} {pos : String} {aft : Array Edge} (i : Nat) (hi : ops[i]? = some ⟨d, op, ty, pos, aft, none⟩) (hr : Region.ready .any ops listed = [i])
    (h : ∀ K' : St → Prop, (∀ s', AAny P ops hs f (listed.setIfInBounds i true) s' K → K' s') → AOpX P ⟨d, op, ty, pos, aft, none⟩ s K') : AAny P ops hs (f + 1) listed s K := by
  intro R β G a w hrep hcl
  refine ⟨fun h => (by rw [hr] at h; cases h), fun j hj => ?_⟩
  rw [hr] at hj
  have hji : j = i := by simpa using hj
  subst hji
  have hmem : j ∈ Region.ready .any ops listed := by rw [hr]; exact hj
  unfold wpOp
  simp only [hi]
  rw [if_pos (by simp [Region.wanted])]
  refine .inl (Oper.wp_mono (fun a' w' ⟨hx, β', G', s', hs', hr'⟩ => ⟨fun _ => hx, hs' R β' G' a' w' hr' (hcl.set hmem)⟩) (h _ (fun _ h => h) R β G a w _ hrep))
/-- .. behind a guard that says yes. -/
theorem aany_tailXY {ops : Array Oper} {hs : List Nat} {f : Nat} {listed : Array Bool} {s : St} {K : St → Prop} {d : Option Tmp} {op : Op} {ty : TypeId} {pos : String} {aft : Array Edge} {j t : Nat} {b : Bool} (i : Nat) (hi : ops[i]? = some ⟨d, op, ty, pos, aft, some (j, b)⟩) (hr : Region.ready .any ops listed = [i])
    (ht : (ops[j]?).bind (·.dst) = some t) (hc : s.fr[t]? = some (.bool b))
    (h : ∀ K' : St → Prop, (∀ s', AAny P ops hs f (listed.setIfInBounds i true) s' K → K' s') → AOpX P ⟨d, op, ty, pos, aft, some (j, b)⟩ s K') : AAny P ops hs (f + 1) listed s K := by
  intro R β G a w hrep hcl
  refine ⟨fun h => (by rw [hr] at h; cases h), fun k hj => ?_⟩
  rw [hr] at hj
  have hji : k = i := by simpa using hj
  subst hji
  have hmem : k ∈ Region.ready .any ops listed := by rw [hr]; exact hj
  have hgk := guard_known hrep ht hc
  unfold wpOp
  simp only [hi]
  rw [if_pos (by simp [Region.wanted, hgk])]
  refine .inl (Oper.wp_mono (fun a' w' ⟨hx, β', G', s', hs', hr'⟩ => ⟨fun _ => hx, hs' R β' G' a' w' hr' (hcl.set hmem)⟩) (h _ (fun _ h => h) R β G a w _ hrep))
/-- Two operations that may come up in either order. -/
theorem aany_two {ops : Array Oper} {hs : List Nat} {f : Nat} {listed : Array Bool} {s : St} {K : St → Prop} {d d' : Option Tmp} {op op' : Op} {ty ty' : TypeId} {pos pos' : String} {aft aft' : Array Edge} (i i' : Nat) (hi : ops[i]? = some ⟨d, op, ty, pos, aft, none⟩) (hi' : ops[i']? = some ⟨d', op', ty', pos', aft', none⟩) (hr : Region.ready .any ops listed = [i, i'])
    (he : (early ops hs i || early ops hs i') = false)
    (h : ∀ K' : St → Prop, (∀ s', AAny P ops hs f (listed.setIfInBounds i true) s' K → K' s') → AOp P ⟨d, op, ty, pos, aft, none⟩ s K')
    (h' : ∀ K' : St → Prop, (∀ s', AAny P ops hs f (listed.setIfInBounds i' true) s' K → K' s') → AOp P ⟨d', op', ty', pos', aft', none⟩ s K') : AAny P ops hs (f + 1) listed s K := by
  rw [Bool.or_eq_false_iff] at he
  intro R β G a w hrep hcl
  refine ⟨fun h => (by rw [hr] at h; cases h), fun j hj => ?_⟩
  have hmem := hj
  rw [hr] at hj
  simp only [List.mem_cons, List.not_mem_nil, or_false] at hj
  unfold wpOp
  rcases hj with rfl | rfl
  · simp only [hi]
    rw [if_pos (by simp [Region.wanted])]
    exact .inl (Oper.wp_mono (fun a' w' ⟨β', G', s', hs', hr'⟩ => ⟨fun h => (by rw [he.1] at h; cases h), hs' R β' G' a' w' hr' (hcl.set hmem)⟩) (h _ (fun _ h => h) R β G a w _ hrep))
  · simp only [hi']
    rw [if_pos (by simp [Region.wanted])]
    exact .inl (Oper.wp_mono (fun a' w' ⟨β', G', s', hs', hr'⟩ => ⟨fun h => (by rw [he.2] at h; cases h), hs' R β' G' a' w' hr' (hcl.set hmem)⟩) (h' _ (fun _ h => h) R β G a w _ hrep))

/-- A call keeps all old blocks. -/
theorem aopx_call {d : Option Tmp} {f : FuncId} {args : Array Operand} {tys : Array TypeId} {ty : TypeId} {pos : String} {aft : Array Edge} {g : Option (Nat × Bool)} {s : St} {K : St → Prop} {Q : AV → Prop} [hc : TyC P f]
    (h : PCall P f (evalL s args) Q) (hp : AV.purL (evalL s args) = true) (hk : ∀ x, Q x → K (s.put d x)) : AOpX P ⟨d, .call { callee := .value (.func f), args, argTypes := tys }, ty, pos, aft, g⟩ s K := by
  intro R β G a w Q' hr
  have hrun : (execOp a.eval ⟨d, .call { callee := .value (.func f), args, argTypes := tys }, ty, pos, aft, g⟩).run P w = .ok (.enter f (args.map a.eval)) w := by
    simp [execOp, resolve, Act.eval, Deferred.ofValue, invoke, hc.ok]
  unfold Oper.wp
  rw [hrun, Oper.upon_enter]
  have := h G w (args.map a.eval).toList hr.hp.gs (evalL_conc hr args hp)
  simp only [Array.toArray_toList] at this
  refine this.mono fun e w' ⟨y, G', x, he, hQ, hcx, hd, hG', hext⟩ => ?_
  subst he
  obtain ⟨G'', hr', hm⟩ := hr.later hext hG' hd
  exact ⟨hext, β, G'', _, hk x hQ, hr'.put d ((hcx.mono hm).free β)⟩

theorem aopx_buildSlice {d : Tmp} {t el : TypeId} {len : Nat} {parts : Array (Nat × Operand)} {z : Value} {m bw : Nat} {ty : TypeId} {pos : String} {aft : Array Edge} {g : Option (Nat × Bool)} {s : St} {K : St → Prop}
    [hu : TyU P t (.slice el)] [hi : TyI P el z m bw] (hsm : decide (0 < len * m) = true ∧ decide (len * m ≤ 16777216) = true ∧ decide (len * bw ≤ 140737488355328) = true)
    (hd : dense 0 (evParts s parts) = true) (hl : (evParts s parts).length = len) (hok : partsOk (fun i => some (i * m, m)) (len * m) (evParts s parts) = true)
    (hpu : AV.purL ((evParts s parts).map (·.2)) = true)
    (hk : K (s.put (some d) (.isl m bw ((evParts s parts).map (·.2))))) : AOpX P ⟨some d, .buildSlice t len parts, ty, pos, aft, g⟩ s K :=
  aop_buildSliceX hsm hd hl hok hpu hk
theorem aop_of_x {o : Oper} {s : St} {K : St → Prop} (h : AOpX P o s K) : AOp P o s K := fun R β G a w Q hr => Oper.wp_mono (fun _ _ h => h.2) (h R β G a w Q hr)
theorem aopx_alloc {d : Tmp} {t : TypeId} {z : Value} {n b : Nat} {ty : TypeId} {pos : String} {aft : Array Edge} {g : Option (Nat × Bool)} {s : St} {K : St → Prop} [hi : TyI P t z n b]
    (id : Nat) (hf : s.free id = true) (hk : K ⟨s.fr.set d (.ptr id 0), hset s.hp id ⟨t, (AV.ofVal z).cells, true⟩⟩) : AOpX P ⟨some d, .alloc t, ty, pos, aft, g⟩ s K := by
  intro R β G a w Q hr
  have h1 := hr.newBlk hf t (AV.ofVal z).cells z.cells true (by rw [length_ofVal]; exact Nat.le_refl _) (fun _ => length_ofVal z) (conc_ofVal_cells z) (mentL_ofVal id z)
  have hrun : (execOp a.eval ⟨some d, .alloc t, ty, pos, aft, g⟩).run P w = .ok (.value (.pointer (some ⟨w.heap.size, 0, none⟩))) (w.alloc (.cells z.cells t (0, 0))) := by
    simp [execOp, Instr.alloc, run_zero_i hi, newVar, newRow]
  unfold Oper.wp
  rw [hrun, Oper.upon_value]
  exact ⟨(Below.refl _ _).alloc (Nat.le_refl _) _, _, _, _, hk, h1.put (some d) (.ptr (t := z.cells.size) (by simp [Ids.set]))⟩
theorem aopx_box {d : Tmp} {t : TypeId} {x : Operand} {ty : TypeId} {pos : String} {aft : Array Edge} {g : Option (Nat × Bool)} {s : St} {K : St → Prop}
    (id : Nat) (hf : s.free id = true) (h1 : (s.eval x).one = true ∨ ∃ cs, s.eval x = .agg cs) (hm : AV.mentL id (s.eval x).cells = false)
    (hk : K ⟨s.fr.set d (.ptr id 0), hset s.hp id ⟨t, (s.eval x).cells, true⟩⟩) : AOpX P ⟨some d, .box t x, ty, pos, aft, g⟩ s K := by
  intro R β G a w Q hr
  obtain ⟨c1, c2⟩ := conc_cells (hr.eval x) h1
  have h2 := hr.newBlk hf t (s.eval x).cells (a.eval x).cells true (by omega) (fun _ => c1) c2 hm
  have hrun : (execOp a.eval ⟨some d, .box t x, ty, pos, aft, g⟩).run P w = .ok (.value (.pointer (some ⟨w.heap.size, 0, none⟩))) (w.alloc (.cells (a.eval x).cells t (0, 0))) := by
    simp [execOp, Instr.box, newVar, newRow]
  unfold Oper.wp
  rw [hrun, Oper.upon_value]
  exact ⟨(Below.refl _ _).alloc (Nat.le_refl _) _, _, _, _, hk, h2.put (some d) (.ptr (t := (a.eval x).cells.size) (by simp [Ids.set]))⟩
end Go.Ab

set_option linter.unusedVariables false
set_option linter.unusedSimpArgs false
namespace Go.Ab
open Go.RowKit
variable {P : Program}

/-! ### Equality of structs of two ints; bools; nil -/
theorem run_eql2 {t : TypeId} {f1 f2 : Field} {k1 k2 : IntKind} (hu : TyU P t (.struct #[f1, f2])) (h1 : TyU P f1.type (.int k1)) (h2 : TyU P f2.type (.int k2)) (ho : f1.offset = 0 ∧ f2.offset = 1)
    (hn : (f1.name == "_" || f2.name == "_") = false) (hs : P.stoodInHeld t = false) (a b c d : Int) (w : World) :
    (Op.equalIn 10000 t (.agg #[.int .i64 a, .int .i64 b]) (.agg #[.int .i64 c, .int .i64 d])).run P w = .ok (a == c && b == d) w := by
  have hf : P.fieldsOf t = #[f1, f2] := by simp [Program.fieldsOf, hu.ok]
  rw [run_equalIn_agg w 9999 t _ _ (by rw [hf]; exact hu.ok) hs, hf]
  rw [Bool.or_eq_false_iff] at hn
  have n1 : f1.name ≠ "_" := by simpa using hn.1
  have n2 : f2.name ≠ "_" := by simpa using hn.2
  simp only [Op.eqFields, n1, n2, ne_eq, not_false_eq_true, if_true, Sem.run_bind, part, run_isAgg h1.ok, run_isAgg h2.ok, aggB, Result.andThen_ok, Bool.false_eq_true, if_false, ho.1, ho.2]
  simp only [List.getElem?_toArray, List.getElem?_cons_zero, List.getElem?_cons_succ, Sem.run_pure, Result.andThen_ok, run_equalIn_int w 9998 _ _ _ _ _ h1.ok, run_equalIn_int w 9998 _ _ _ _ _ h2.ok]
  cases hac : (a == c)
  · rfl
  · simp only [Bool.not_true, Bool.false_eq_true, if_false, run_isAgg h2.ok, aggB, Sem.run_bind, Sem.run_pure, Result.andThen_ok, run_equalIn_int w 9998 _ _ _ _ _ h2.ok, Bool.true_and]
    cases hbd : (b == d) <;> rfl

theorem conc_agg2 {G : Seal} {β : Ids} {a b : Int} {y : Value} (h : Conc G β (.agg [.int a, .int b]) y) : y = .agg #[.int .i64 a, .int .i64 b] := by
  cases h with
  | agg xs hl hs =>
    match xs, hl with
    | [x1, x2], _ =>
      have e1 := conc_int (hs 0 _ _ rfl rfl)
      have e2 := conc_int (hs 1 _ _ rfl rfl)
      subst e1; subst e2; rfl

theorem pv_eqlA {s : St} {x y : Operand} {a b c d : Int} {t u : TypeId} {f1 f2 : Field} {k1 k2 : IntKind} [hu : TyU P t (.struct #[f1, f2])] [h1 : TyU P f1.type (.int k1)] [h2 : TyU P f2.type (.int k2)]
    (hx : s.eval x = .agg [.int a, .int b]) (hy : s.eval y = .agg [.int c, .int d])
    (hc : (decide (f1.offset = 0) && decide (f2.offset = 1) && !(f1.name == "_" || f2.name == "_") && !P.stoodInHeld t && !P.eqGuardType P.depth t) = true) : PV P (.binOp .eql t x y u) s (.bool (a == c && b == d)) :=
  pv_of fun _ _ _ ac _ h => ⟨_, .v, fun w' _ _ _ _ _ => by
    simp only [Bool.and_eq_true, decide_eq_true_eq, Bool.not_eq_true'] at hc
    obtain ⟨⟨⟨⟨o1, o2⟩, hn⟩, hs⟩, hg⟩ := hc
    have e1 := h.eval x; rw [hx] at e1
    have e2 := h.eval y; rw [hy] at e2
    simp only [execOp, conc_agg2 e1, conc_agg2 e2, Sem.run_bind, run_eqGuard_agg w' _ t _ _ _ _ hg, Result.andThen_ok, run_eql_struct, run_eql2 hu h1 h2 ⟨o1, o2⟩ hn hs]
    rfl⟩
theorem pv_neqA {s : St} {x y : Operand} {a b c d : Int} {t u : TypeId} {f1 f2 : Field} {k1 k2 : IntKind} [hu : TyU P t (.struct #[f1, f2])] [h1 : TyU P f1.type (.int k1)] [h2 : TyU P f2.type (.int k2)]
    (hx : s.eval x = .agg [.int a, .int b]) (hy : s.eval y = .agg [.int c, .int d])
    (hc : (decide (f1.offset = 0) && decide (f2.offset = 1) && !(f1.name == "_" || f2.name == "_") && !P.stoodInHeld t && !P.eqGuardType P.depth t) = true) : PV P (.binOp .neq t x y u) s (.bool (!(a == c && b == d))) :=
  pv_of fun _ _ _ ac _ h => ⟨_, .v, fun w' _ _ _ _ _ => by
    simp only [Bool.and_eq_true, decide_eq_true_eq, Bool.not_eq_true'] at hc
    obtain ⟨⟨⟨⟨o1, o2⟩, hn⟩, hs⟩, hg⟩ := hc
    have e1 := h.eval x; rw [hx] at e1
    have e2 := h.eval y; rw [hy] at e2
    simp only [execOp, conc_agg2 e1, conc_agg2 e2, Sem.run_bind, run_eqGuard_agg w' _ t _ _ _ _ hg, Result.andThen_ok, run_neq_struct, run_eql2 hu h1 h2 ⟨o1, o2⟩ hn hs]
    rfl⟩
theorem run_eqGuard_bool (op : BinOp) (t : TypeId) (x y : Operand) (a b : Bool) (w : World) : (eqGuard op t x y (.bool a) (.bool b)).run P w = .ok () w := by
  unfold eqGuard; cases op <;> simp
theorem pv_eqlB {s : St} {x y : Operand} {a b : Bool} {t u : TypeId} [hu : TyU P t .bool] (hx : s.eval x = .bool a) (hy : s.eval y = .bool b) : PV P (.binOp .eql t x y u) s (.bool (a == b)) :=
  pv_of fun _ _ _ ac _ h => ⟨_, .v, fun w' _ _ _ _ _ => by
    have e1 := h.eval x; rw [hx] at e1
    have e2 := h.eval y; rw [hy] at e2
    simp only [execOp, conc_bool e1, conc_bool e2, Sem.run_bind, run_eqGuard_bool, Result.andThen_ok]
    simp only [binOp, Op.equal, Sem.run_bind, Op.maxDepth, run_equalIn_bool w' 9999 t a b hu.ok, Result.andThen_ok]
    rfl⟩
theorem pv_neqB {s : St} {x y : Operand} {a b : Bool} {t u : TypeId} [hu : TyU P t .bool] (hx : s.eval x = .bool a) (hy : s.eval y = .bool b) : PV P (.binOp .neq t x y u) s (.bool (!(a == b))) :=
  pv_of fun _ _ _ ac _ h => ⟨_, .v, fun w' _ _ _ _ _ => by
    have e1 := h.eval x; rw [hx] at e1
    have e2 := h.eval y; rw [hy] at e2
    simp only [execOp, conc_bool e1, conc_bool e2, Sem.run_bind, run_eqGuard_bool, Result.andThen_ok]
    simp only [binOp, Op.equal, Sem.run_bind, Op.maxDepth, run_equalIn_bool w' 9999 t a b hu.ok, Result.andThen_ok]
    rfl⟩

theorem run_eqGuard_slice (op : BinOp) (t : TypeId) (x y : Operand) (a b : Option Addr) (n c n' c' : Nat) (w : World) : (eqGuard op t x y (.slice a n c) (.slice b n' c')).run P w = .ok () w := by
  unfold eqGuard; cases op <;> simp
/-- A slice against nil: which of the two is not known of an empty one. -/
theorem aop_eqNil {d : Option Tmp} {x : Operand} {t u e : TypeId} {sz bw : Nat} {es : List AV} {ty : TypeId} {pos : String} {aft : Array Edge} {g : Option (Nat × Bool)} {s : St} {K : St → Prop} [hu : TyU P t (.slice e)]
    (hx : s.eval x = .isl sz bw es) (hk : ∀ b : Bool, (b = true → es = []) → K (s.put d (.bool b))) : AOp P ⟨d, .binOp .eql t x (.const (.slice none 0 0)) u, ty, pos, aft, g⟩ s K := by
  intro R β G a w Q hr
  have e1 := hr.eval x; rw [hx] at e1
  generalize hy : a.eval x = y at e1
  cases e1 with
  | @isl _ _ _ _ A c ys _ _ _ _ hA _ _ =>
    have hrun : (execOp a.eval ⟨d, .binOp .eql t x (.const (.slice none 0 0)) u, ty, pos, aft, g⟩).run P w = .ok (.value (.bool A.isNone)) w := by
      have hce : a.eval (.const (.slice none 0 0)) = .slice none 0 0 := rfl
      simp only [execOp, hy, hce, Sem.run_bind, run_eqGuard_slice, Result.andThen_ok, Lib.run_eql_slice_nil w t e A es.length c 0 0 hu.ok]
      rfl
    unfold Oper.wp
    rw [hrun, Oper.upon_value]
    refine ⟨β, G, _, hk A.isNone (fun h => ?_), hr.put d .v⟩
    cases A with
    | none => exact List.eq_nil_of_length_eq_zero (Nat.eq_zero_of_not_pos fun h => hA h rfl)
    | some a => cases h

/-! ### min, max -/
theorem pv_min {s : St} {x y : Operand} {a b : Int} {tys : Array TypeId} (hx : s.eval x = .int a) (hy : s.eval y = .int b) : PV P (.call { callee := .builtin .min, args := #[x, y], argTypes := tys }) s (.int (min a b)) :=
  pv_of fun _ _ _ ac _ h => ⟨_, .v, fun w' _ _ _ _ _ => by
    have e1 := h.eval x; rw [hx] at e1
    have e2 := h.eval y; rw [hy] at e2
    have : (if b < a then b else a) = min a b := by rw [Int.min_def]; split <;> split <;> omega
    simp [execOp, resolve, invoke, builtin, conc_int e1, conc_int e2, run_min_int2, this]⟩
theorem pv_max {s : St} {x y : Operand} {a b : Int} {tys : Array TypeId} (hx : s.eval x = .int a) (hy : s.eval y = .int b) : PV P (.call { callee := .builtin .max, args := #[x, y], argTypes := tys }) s (.int (max a b)) :=
  pv_of fun _ _ _ ac _ h => ⟨_, .v, fun w' _ _ _ _ _ => by
    have e1 := h.eval x; rw [hx] at e1
    have e2 := h.eval y; rw [hy] at e2
    have : (if a < b then b else a) = max a b := by rw [Int.max_def]; split <;> split <;> omega
    simp [execOp, resolve, invoke, builtin, conc_int e1, conc_int e2, run_max_int2, this]⟩

/-! ### Function values -/
theorem evalL_agg {R : Rg} {β : Ids} {G : Seal} {s : St} {a : Act} {w : World} (h : Rep R β G s a w) (args : Array Operand) :
    (evalL s args).length = (args.map a.eval).toList.length ∧ ∀ (j : Nat) x y, (evalL s args)[j]? = some x → (args.map a.eval).toList[j]? = some y → Conc G β x y := by
  refine ⟨by simp [evalL], fun j x y hx hy => ?_⟩
  simp only [evalL, List.getElem?_map, Array.getElem?_toList, Option.map_eq_some_iff, Array.getElem?_map] at hx hy
  obtain ⟨o, h1, rfl⟩ := hx
  obtain ⟨o', h2, rfl⟩ := hy
  rw [h1] at h2; injection h2 with h2; subst h2
  exact h.eval o
theorem pv_makeFunc {s : St} {f : FuncId} {caps : Array Operand} (hf : f ≤ 999999999 := by decide) : PV P (.makeFunc (.func f) #[] caps) s (.fn f (evalL s caps)) :=
  pv_of fun R β G a w h => by
    obtain ⟨h1, h2⟩ := evalL_agg h caps
    refine ⟨.func (.func f) #[] (caps.map a.eval), ?_, fun w' _ _ _ _ _ => by simp [execOp, Instr.makeFunc]⟩
    have := Conc.fn (G := G) (β := β) (f := f) (cs := evalL s caps) (caps.map a.eval).toList hf h1 h2
    rw [Array.toArray_toList] at this
    exact this
theorem pv_nilCheck {s : St} {x : Operand} {id off : Nat} (hx : s.eval x = .ptr id off) : PV P (.nilCheck x) s (.ptr id off) :=
  pv_of fun R β G a w h => by
    have e1 := h.eval x; rw [hx] at e1
    generalize hy : a.eval x = y at e1
    cases e1 with
    | ptr hb => exact ⟨_, .ptr hb, fun w' _ _ _ _ _ => by simp [execOp, hy]⟩
theorem pv_nilCheckI {s : St} {x : Operand} {cs : List AV} (hx : s.eval x = .iptr cs) : PV P (.nilCheck x) s (.iptr cs) :=
  pv_of fun R β G a w h => by
    have e1 := h.eval x; rw [hx] at e1
    generalize hy : a.eval x = y at e1
    cases e1 with
    | iptr ys hl hr hs => exact ⟨_, .iptr ys hl hr hs, fun w' _ _ _ _ _ => by simp [execOp, hy]⟩
theorem pv_nilCheckF {s : St} {x : Operand} {f : FuncId} {cs : List AV} (hx : s.eval x = .fn f cs) : PV P (.nilCheck x) s (.fn f cs) :=
  pv_of fun R β G a w h => by
    have e1 := h.eval x; rw [hx] at e1
    generalize hy : a.eval x = y at e1
    cases e1 with
    | fn xs hf hl hs => exact ⟨_, .fn xs hf hl hs, fun w' _ _ _ _ _ => by simp [execOp, hy]⟩
    | ifc h => exact ⟨_, .ifc h, fun w' _ _ _ _ _ => by simp [execOp, hy]⟩

theorem conc_fn_caps {G : Seal} {β : Ids} {f : FuncId} {cs : List AV} {y : Value} (h : Conc G β (.fn f cs) y) (hlt : f < 1000000000) : ∃ xs : List Value, y = .func (.func f) #[] xs.toArray ∧ cs.length = xs.length ∧ ∀ (j : Nat) x v, cs[j]? = some x → xs[j]? = some v → Conc G β x v := by
  cases h with
  | fn xs hf hl hs => exact ⟨xs, rfl, hl, hs⟩
  | ifc _ => exact absurd hlt (Nat.not_lt.2 (Nat.le_add_right 1000000000 _))

/-- A call of a function value. -/
theorem aopx_callV {d : Option Tmp} {fo : Operand} {f : FuncId} {caps : List AV} {args : Array Operand} {tys : Array TypeId} {ty : TypeId} {pos : String} {aft : Array Edge} {g : Option (Nat × Bool)} {s : St} {K : St → Prop} {Q : AV → Prop}
    (hf : s.eval fo = .fn f caps) [hc : TyC P f]
    (h : PCall P f (evalL s args ++ caps) Q) (hp : AV.purL (evalL s args ++ caps) = true) (hk : ∀ x, Q x → K (s.put d x)) : AOpX P ⟨d, .call { callee := .value fo, args, argTypes := tys }, ty, pos, aft, g⟩ s K := by
  intro R β G a w Q' hr
  have e1 := hr.eval fo; rw [hf] at e1
  obtain ⟨xs, hfv, hxl, hxs⟩ := conc_fn_caps e1 hc.lt
  have hrun : (execOp a.eval ⟨d, .call { callee := .value fo, args, argTypes := tys }, ty, pos, aft, g⟩).run P w = .ok (.enter f (args.map a.eval ++ xs.toArray)) w := by
    simp [execOp, resolve, hfv, Deferred.ofValue, invoke, hc.ok]
  unfold Oper.wp
  rw [hrun, Oper.upon_enter]
  obtain ⟨l1, l2⟩ := evalL_agg hr args
  have hcl : ConcL G (evalL s args ++ caps) ((args.map a.eval).toList ++ xs) := by
    refine ⟨by simp [l1, hxl], fun j x y hx hy => ?_⟩
    have hpx := purL_get hp hx
    rcases Nat.lt_or_ge j (evalL s args).length with hj | hj
    · rw [List.getElem?_append_left hj] at hx
      rw [List.getElem?_append_left (by omega)] at hy
      exact (l2 j x y hx hy).toNob hpx nob
    · rw [List.getElem?_append_right hj] at hx
      rw [List.getElem?_append_right (by omega), ← l1] at hy
      exact (hxs _ x y hx hy).toNob hpx nob
  have := h G w _ hr.hp.gs hcl
  have harr : ((args.map a.eval).toList ++ xs).toArray = args.map a.eval ++ xs.toArray := by
    apply Array.ext'; simp
  rw [harr] at this
  refine this.mono fun e w' ⟨y, G', x, he, hQ, hcx, hd, hG', hext⟩ => ?_
  subst he
  obtain ⟨G'', hr', hm⟩ := hr.later hext hG' hd
  exact ⟨hext, β, G'', _, hk x hQ, hr'.put d ((hcx.mono hm).free β)⟩
theorem aop_callV {d : Option Tmp} {fo : Operand} {f : FuncId} {caps : List AV} {args : Array Operand} {tys : Array TypeId} {ty : TypeId} {pos : String} {aft : Array Edge} {g : Option (Nat × Bool)} {s : St} {K : St → Prop} {Q : AV → Prop}
    (hf : s.eval fo = .fn f caps) [hc : TyC P f]
    (h : PCall P f (evalL s args ++ caps) Q) (hp : AV.purL (evalL s args ++ caps) = true) (hk : ∀ x, Q x → K (s.put d x)) : AOp P ⟨d, .call { callee := .value fo, args, argTypes := tys }, ty, pos, aft, g⟩ s K :=
  aop_of_x (aopx_callV hf h hp hk)

/-! ### Sealing -/
mutual
/-- Every pointer into block id becomes a pointer to sealed cells. -/
def AV.sealP (id : Nat) (cs : List AV) : AV → AV
  | .ptr i o => if i = id then .iptr (cs.drop o) else .ptr i o
  | .sl a b i o n => if i = id then .any else .sl a b i o n
  | .yl i y => if i = id then .any else .yl i y
  | .agg l => .agg (AV.sealPL id cs l)
  | .tup l => .tup (AV.sealPL id cs l)
  | .fn f l => .fn f (AV.sealPL id cs l)
  | .any => .any
  | .v x => .v x
  | .isl a b l => .isl a b l
  | .iptr l => .iptr l
def AV.sealPL (id : Nat) (cs : List AV) : List AV → List AV
  | [] => []
  | x :: r => AV.sealP id cs x :: AV.sealPL id cs r
end
theorem sealPL_eq (id : Nat) (cs l : List AV) : AV.sealPL id cs l = l.map (AV.sealP id cs) := by
  induction l with
  | nil => rfl
  | cons x l ih => simp [AV.sealPL, ih]
def sealPHp (id : Nat) (cs : List AV) : Hp → Hp
  | [] => []
  | (i, b) :: r => if i = id then sealPHp id cs r else (i, { b with cs := AV.sealPL id cs b.cs }) :: sealPHp id cs r
theorem sealPL_get (id : Nat) (cs : List AV) : ∀ (l : List AV) (i : Nat), (AV.sealPL id cs l)[i]? = l[i]?.map (AV.sealP id cs)
  | [], i => by simp [AV.sealPL]
  | x :: l, 0 => by simp [AV.sealPL]
  | x :: l, i+1 => by simp [AV.sealPL, sealPL_get id cs l i]
theorem sealPL_len (id : Nat) (cs l : List AV) : (AV.sealPL id cs l).length = l.length := by
  induction l with
  | nil => rfl
  | cons x l ih => simp [AV.sealPL, ih]
theorem hget_sealPHp (id : Nat) (cs : List AV) (hp : Hp) (i : Nat) : hget (sealPHp id cs hp) i = if id = i then none else (hget hp i).map fun b => { b with cs := AV.sealPL id cs b.cs } := by
  induction hp with
  | nil => simp [sealPHp, hget]
  | cons p r ih =>
    obtain ⟨j, b⟩ := p
    by_cases hj : j = id
    · subst hj
      simp only [sealPHp, if_true, ih, hget]
      split <;> rfl
    · simp only [sealPHp, hj, if_false, hget, ih]
      by_cases hji : j = i
      · subst hji; simp [Ne.symm hj]
      · simp [hji]

theorem Conc.sealed {G : Seal} {β : Ids} {x : AV} {y : Value} (h : Conc G β x y) {id b t : Nat} {arr : Array Value} {T : TypeId} (hβ : β id = .at b t) (cs : List AV) (hle : cs.length ≤ arr.size)
    (hcs : ∀ (j : Nat) u v, cs[j]? = some u → arr[j]? = some v → Conc G nob u v) (hG : G b = none) : Conc (G.set b (.cells arr T (0, 0))) β (AV.sealP id cs x) y := by
  have hm : ∀ k o, G k = some o → (G.set b (.cells arr T (0, 0))) k = some o := fun k o hk => by
    simp only [Seal.set]; rw [if_neg (by rintro rfl; rw [hG] at hk; cases hk)]; exact hk
  have key : ∀ {β x y}, Conc G β x y → β id = .at b t → Conc (G.set b (.cells arr T (0, 0))) β (AV.sealP id cs x) y := by
    intro β x y h
    induction h with
    | any => intro _; exact .any
    | v => intro _; exact .v
    | agg xs hl _ ih =>
      intro hb
      simp only [AV.sealP]
      refine .agg xs (by rw [sealPL_len]; exact hl) fun j u v hu hv => ?_
      rw [sealPL_get, Option.map_eq_some_iff] at hu
      obtain ⟨u0, hu0, rfl⟩ := hu
      exact ih j u0 v hu0 hv hb
    | tup xs hl _ ih =>
      intro hb
      simp only [AV.sealP]
      refine .tup xs (by rw [sealPL_len]; exact hl) fun j u v hu hv => ?_
      rw [sealPL_get, Option.map_eq_some_iff] at hu
      obtain ⟨u0, hu0, rfl⟩ := hu
      exact ih j u0 v hu0 hv hb
    | fn xs hf hl _ ih =>
      intro hb
      simp only [AV.sealP]
      refine .fn xs hf (by rw [sealPL_len]; exact hl) fun j u v hu hv => ?_
      rw [sealPL_get, Option.map_eq_some_iff] at hu
      obtain ⟨u0, hu0, rfl⟩ := hu
      exact ih j u0 v hu0 hv hb
    | ifc _ ih =>
      intro hb
      simp only [AV.sealP, AV.sealPL]
      exact .ifc (ih hb)
    | @ptr β i o b' t' h =>
      intro hb
      simp only [AV.sealP]
      split
      · rename_i e; subst e
        rw [hb] at h; injection h with h1 h2; subst h1
        refine .iptr ((arr.toList.drop o).take (cs.length - o)) (by simp; omega) (fun j v hv => ?_) (fun j u v hu hv => ?_)
        · rw [Addr.add_none]
          have hj : j < cs.length - o := by have := lt_of_get hv; simp at this; omega
          simp only [List.getElem?_take, hj, if_true, List.getElem?_drop, Array.getElem?_toList] at hv
          simpa [gcell, Seal.set] using hv
        · have hj : j < cs.length - o := by have := lt_of_get hv; simp at this; omega
          simp only [List.getElem?_take, hj, if_true, List.getElem?_drop, Array.getElem?_toList] at hv
          rw [List.getElem?_drop] at hu
          exact (hcs _ u v hu hv).mono hm
      · exact .ptr h
    | slN h =>
      intro hb
      simp only [AV.sealP]
      split
      · exact .any
      · exact .slN h
    | yl h =>
      intro hb
      simp only [AV.sealP]
      split
      · exact .any
      · exact .yl h
    | sl h hn ht hmm hbb =>
      intro hb
      simp only [AV.sealP]
      split
      · exact .any
      · exact .sl h hn ht hmm hbb
    | isl ys hu hl hc hb' hA hr hs _ =>
      intro _
      simp only [AV.sealP]
      exact .isl ys hu hl hc hb' hA (fun j v hv => let ⟨a, ha, hg⟩ := hr j v hv; ⟨a, ha, gcell_mono hm hg⟩) (fun j u v hu hv => (hs j u v hu hv).mono hm)
    | iptr ys hl hr hs _ =>
      intro _
      simp only [AV.sealP]
      exact .iptr ys hl (fun j v hv => gcell_mono hm (hr j v hv)) (fun j u v hu hv => (hs j u v hu hv).mono hm)
  exact key h hβ

/-- A block of the call's own (a variable that is not written again) is sealed. -/
theorem le_sealPtr {f : List AV} {hp : Hp} (id : Nat) {bk : Blk} (hb : hget hp id = some bk) (hp1 : AV.purL bk.cs = true) (hne : bk.full = true) : Le ⟨f, hp⟩ ⟨AV.sealPL id bk.cs f, sealPHp id bk.cs hp⟩ := by
  intro R β G a w h
  have h0 := h.hp.blk id bk hb
  unfold BlkOk at h0
  cases hβ : β id with
  | no => rw [hβ] at h0; exact h0.elim
  | nil => rw [hβ] at h0; rw [hne] at h0; cases h0.2
  | gh o => rw [hβ] at h0; have := GhB.big h0; rw [hne] at this; cases this.1
  | «at» b t =>
    rw [hβ] at h0
    obtain ⟨g1, g2, arr, g3, g4, g5, g6, g7⟩ := h0
    have hcs : ∀ (j : Nat) u v, bk.cs[j]? = some u → arr[j]? = some v → Conc G nob u v := fun j u v hu hv => (g7 j u v hu hv).toNob (purL_get hp1 hu) nob
    have conc : ∀ {x y}, Conc G β x y → Conc (G.set b (.cells arr bk.T (0, 0))) β (AV.sealP id bk.cs x) y := fun hx => hx.sealed hβ bk.cs (by omega) hcs g1
    have hmono : ∀ k o, G k = some o → (G.set b (.cells arr bk.T (0, 0))) k = some o := fun k o hk => by
      simp only [Seal.set]; rw [if_neg (by rintro rfl; rw [g1] at hk; cases hk)]; exact hk
    refine ⟨β, G.set b (.cells arr bk.T (0, 0)), h.defers.mono hmono, by rw [sealPL_len]; exact h.size, fun i x y hx hy => ?_, ⟨fun k o hk => ?_, fun i bk' hi => ?_, fun i j b' t t' hi hj => ?_, h.hp.keeps, fun k hk => ?_, h.hp.idr⟩⟩
    · rw [sealPL_get, Option.map_eq_some_iff] at hx
      obtain ⟨x0, hx0, rfl⟩ := hx
      exact conc (h.fr i x0 y hx0 hy)
    · simp only [Seal.set] at hk
      split at hk
      · rename_i e; subst e; injection hk with hk; subst hk; exact g3
      · exact h.hp.gs k o hk
    · rw [hget_sealPHp] at hi
      by_cases hid : id = i
      · simp [hid] at hi
      · simp only [hid, if_false, Option.map_eq_some_iff] at hi
        obtain ⟨bk1, hi1, rfl⟩ := hi
        have := h.hp.blk i bk1 hi1
        unfold BlkOk at this ⊢
        cases hβi : β i with
        | no => rw [hβi] at this; exact this
        | nil => rw [hβi] at this; exact ⟨by rw [this.1]; rfl, this.2⟩
        | «at» b1 t1 =>
          rw [hβi] at this
          obtain ⟨k1, k2, arr', k3, k4, k5, k6, k7⟩ := this
          have hbb : b1 ≠ b := fun e => by subst e; exact hid (h.hp.inj id i b1 t t1 (by rw [hb]; rfl) (by rw [hi1]; rfl) hβ hβi)
          refine ⟨by simp only [Seal.set]; rw [if_neg hbb]; exact k1, k2, arr', k3, k4, by simpa [sealPL_len] using k5, by simpa [sealPL_len] using k6, fun j x y hx hy => ?_⟩
          simp only [sealPL_get, Option.map_eq_some_iff] at hx
          obtain ⟨x0, hx0, rfl⟩ := hx
          exact conc (k7 j x0 y hx0 hy)
        | gh o => rw [hβi] at this; exact gh_mono this hmono (AV.sealP id bk.cs) (fun x _ y hc => conc hc) _ (sealPL_eq _ _ _)
    · have key : ∀ i, (hget (sealPHp id bk.cs hp) i).isSome → (hget hp i).isSome := fun i hi => by
        rw [hget_sealPHp] at hi
        split at hi
        · cases hi
        · simpa using hi
      exact h.hp.inj i j b' t t' (key i hi) (key j hj)
    · simp only [Seal.set] at hk
      split at hk
      · rename_i e; subst e
        exact .inr g2
      · exact h.hp.dom k hk

/-! ### Slices of the call's own: the absent block, sealing -/
/-- A nil slice in a slot is named, as a row that is still empty. -/
theorem le_virt {f : List AV} {hp : Hp} (i id sz bw : Nat) (T : TypeId) (hx : f[i]? = some .nilS) (hf : St.free ⟨f, hp⟩ id = true) : Le ⟨f, hp⟩ ⟨f.set i (.sl sz bw id 0 0), hset hp id ⟨T, [], false⟩⟩ := by
  intro R β G a w h
  obtain ⟨f1, f2, f3⟩ := ment_of_free hf
  have hself : (β.set id .nil) id = .nil := by simp [Ids.set]
  have hoth : ∀ j, j ≠ id → (β.set id .nil) j = β j := fun j hj => by simp [Ids.set, hj]
  refine ⟨β.set id .nil, G, h.defers, by simpa using h.size, fun j x y hj hy => ?_, ⟨h.hp.gs, fun j bk hj => ?_, fun j k b t t' hj hk hbj hbk => ?_, h.hp.keeps, h.hp.dom, h.hp.idr.set _ (free_lt hf)⟩⟩
  · rw [List.getElem?_set] at hj
    by_cases hij : i = j
    · subst hij
      simp only [if_true] at hj
      split at hj <;> simp at hj
      subst hj
      have := conc_v (h.fr i _ y hx hy)
      rw [this]
      exact .slN hself
    · simp only [hij, if_false] at hj
      exact (h.fr j x y hj hy).setId (f1 j x hj) _
  · rw [hget_hset] at hj
    unfold BlkOk
    by_cases hid : id = j
    · subst hid
      simp only [if_true, Option.some.injEq] at hj
      subst hj
      rw [hself]
      exact ⟨rfl, rfl⟩
    · simp only [hid, if_false] at hj
      rw [hoth j (Ne.symm hid)]
      have := h.hp.blk j bk hj
      unfold BlkOk at this
      cases hβ : β j with
      | no => rw [hβ] at this; exact this
      | nil => rw [hβ] at this; exact this
      | «at» b t =>
        rw [hβ] at this
        obtain ⟨g1, g2, arr, g3, g4, g5, g6, g7⟩ := this
        exact ⟨g1, g2, arr, g3, g4, g5, g6, fun k x y hx hy => (g7 k x y hx hy).setId (f3 j bk k x hj hx) _⟩
      | gh o =>
        rw [hβ] at this
        exact gh_same this (fun _ _ h => h) fun x hx y hc => by
          obtain ⟨k, hk⟩ := List.getElem?_of_mem hx
          exact hc.setId (f3 j bk k x hj hk) _
  · have key : ∀ j b t, (β.set id .nil) j = .at b t → j ≠ id := fun j b t hb e => by subst e; rw [hself] at hb; cases hb
    have n1 := key j b t hbj
    have n2 := key k b t' hbk
    rw [hoth j n1] at hbj
    rw [hoth k n2] at hbk
    rw [hget_hset, if_neg (Ne.symm n1)] at hj
    rw [hget_hset, if_neg (Ne.symm n2)] at hk
    exact h.hp.inj j k b t t' hj hk hbj hbk

/-- The row behind a slice is sealed: the slice in one slot becomes its content, all else that leads into the row is forgotten. -/
theorem le_sealSl {f : List AV} {hp : Hp} (i id : Nat) {sz bw n : Nat} {bk : Blk} (es : List AV) (hx : f[i]? = some (.sl sz bw id 0 n)) (hb : hget hp id = some bk) (hes : es.flatMap AV.cells = bk.cs)
    (hu : ∀ e ∈ es, e.cells.length = sz) (hn : es.length = n) (hp1 : AV.purL bk.cs = true) (hsz : 0 < sz) : Le ⟨f, hp⟩ ⟨(AV.purgeL id f).set i (.isl sz bw es), purgeHp id hp⟩ := by
  intro R β G a w h
  have h0 := h.hp.blk id bk hb
  unfold BlkOk at h0
  have hoth : ∀ j, j ≠ id → (β.set id .no) j = β j := fun j hj => by simp [Ids.set, hj]
  -- the state without the id, over a grown seal
  have fin : ∀ (G' : Seal), (∀ b o, G b = some o → G' b = some o) → (∀ b o, G' b = some o → w.heap[b]? = some o) → (∀ b, G' b ≠ none → R.g0 b ≠ none ∨ R.w0.heap.size ≤ b ∨ R.ex b) →
      (∀ j bk' b t, j ≠ id → hget hp j = some bk' → β j = .at b t → G' b = none) → (∀ y, a.tmps[i]? = some y → Conc G' nob (.isl sz bw es) y) → ∃ β' G', Rep R β' G' ⟨(AV.purgeL id f).set i (.isl sz bw es), purgeHp id hp⟩ a w := by
    intro G' hm hgs hdom hfree hc
    refine ⟨β.set id .no, G', h.defers.mono hm, by rw [List.length_set, purgeL_len]; exact h.size, fun j x y hj hy => ?_, ⟨hgs, fun j bk' hj => ?_, fun j k b t t' hj hk hbj hbk => ?_, h.hp.keeps, hdom, h.hp.idr.gone⟩⟩
    · rw [List.getElem?_set] at hj
      by_cases hij : i = j
      · subst hij
        simp only [if_true] at hj
        split at hj <;> simp at hj
        subst hj
        exact (hc y hy).free _
      · simp only [hij, if_false] at hj
        rw [purgeL_get, Option.map_eq_some_iff] at hj
        obtain ⟨x0, hx0, rfl⟩ := hj
        exact ((h.fr j x0 y hx0 hy).mono hm).purged hoth
    · rw [hget_purgeHp] at hj
      by_cases hid : id = j
      · simp [hid] at hj
      · simp only [hid, if_false, Option.map_eq_some_iff] at hj
        obtain ⟨bk1, hj1, rfl⟩ := hj
        have := h.hp.blk j bk1 hj1
        unfold BlkOk at this ⊢
        rw [hoth j (Ne.symm hid)]
        cases hβ : β j with
        | no => rw [hβ] at this; exact this
        | nil => rw [hβ] at this; exact ⟨by rw [this.1]; rfl, this.2⟩
        | «at» b t =>
          rw [hβ] at this
          obtain ⟨g1, g2, arr, g3, g4, g5, g6, g7⟩ := this
          refine ⟨hfree j bk1 b t (Ne.symm hid) hj1 hβ, g2, arr, g3, g4, by simpa [purgeL_len] using g5, by simpa [purgeL_len] using g6, fun k x y hx hy => ?_⟩
          simp only [purgeL_get, Option.map_eq_some_iff] at hx
          obtain ⟨x0, hx0, rfl⟩ := hx
          exact ((g7 k x0 y hx0 hy).mono hm).purged hoth
        | gh o => rw [hβ] at this; exact gh_mono this hm (AV.purge id) (fun x _ y hc => (hc.mono hm).purged hoth) _ (purgeL_eq _ _)
    · have key : ∀ j b t, (β.set id .no) j = .at b t → j ≠ id := fun j b t hb e => by subst e; simp [Ids.set] at hb
      have n1 := key j b t hbj
      have n2 := key k b t' hbk
      rw [hoth j n1] at hbj
      rw [hoth k n2] at hbk
      rw [hget_purgeHp, if_neg (Ne.symm n1)] at hj
      rw [hget_purgeHp, if_neg (Ne.symm n2)] at hk
      exact h.hp.inj j k b t t' (by simpa using hj) (by simpa using hk) hbj hbk
  cases hβ : β id with
  | no => rw [hβ] at h0; exact h0.elim
  | gh o =>
    refine fin G (fun _ _ h => h) h.hp.gs h.hp.dom (fun j bk' b t _ hj hbj => (h.hp.block hj hbj).1) fun y hy => ?_
    have hc := h.fr i _ y hx hy
    cases hc with
    | slN hb' => rw [hβ] at hb'; cases hb'
    | sl hb' => rw [hβ] at hb'; cases hb'
  | nil =>
    rw [hβ] at h0
    have he : es = [] := by
      cases es with
      | nil => rfl
      | cons e es =>
        have h1 := hes
        rw [h0.1, List.flatMap_cons] at h1
        have h2 : e.cells = [] := (List.append_eq_nil_iff.1 h1).1
        have := hu e (by simp)
        rw [h2] at this; simp at this; omega
    refine fin G (fun _ _ h => h) h.hp.gs h.hp.dom (fun j bk' b t _ hj hbj => (h.hp.block hj hbj).1) fun y hy => ?_
    have hc := h.fr i _ y hx hy
    subst he
    cases hc with
    | slN _ => exact .isl (es := []) [] (by simp) (by simp) (by simp) (by simp) (by simp) (by simp) (by simp)
    | sl hb' => rw [hβ] at hb'; cases hb'
  | «at» b t =>
    rw [hβ] at h0
    obtain ⟨g1, g2, arr, g3, g4, g5, g6, g7⟩ := h0
    have hm : ∀ k o, G k = some o → (G.set b (.cells arr bk.T (0, 0))) k = some o := fun k o hk => by
      simp only [Seal.set]; rw [if_neg (by rintro rfl; rw [g1] at hk; cases hk)]; exact hk
    refine fin (G.set b (.cells arr bk.T (0, 0))) hm (fun k o hk => ?_) (fun k hk => ?_) (fun j bk' b' t' hne hj hbj => ?_) fun y hy => ?_
    · simp only [Seal.set] at hk
      split at hk
      · rename_i e; subst e; injection hk with hk; subst hk; exact g3
      · exact h.hp.gs k o hk
    · simp only [Seal.set] at hk
      split at hk
      · rename_i e; subst e; exact .inr g2
      · exact h.hp.dom k hk
    · have hbb : b' ≠ b := fun e => by subst e; exact hne (h.hp.inj j id b' t' t (by rw [hj]; rfl) (by rw [hb]; rfl) hbj hβ)
      simp only [Seal.set]; rw [if_neg hbb]
      exact (h.hp.block hj hbj).1
    · have hc := h.fr i _ y hx hy
      cases hc with
      | slN hb' => rw [hβ] at hb'; cases hb'
      | @sl _ _ _ _ _ _ c b' t' hb' hnc ht hcm hbw =>
        rw [hβ] at hb'; injection hb' with e1 e2; subst e1; subst e2
        subst hn
        have hfl : (es.flatMap AV.cells).length = es.length * sz := flat_len hu
        have hle : es.length * sz ≤ arr.size := by rw [← hfl, hes, g4]; exact g5
        refine .isl (arr.toList.take (es.length * sz)) hu (by simp; omega) hnc hbw (fun _ => by simp) (fun j v hv => ⟨_, rfl, ?_⟩) (fun j u v hu' hv => ?_)
        · have hj : j < es.length * sz := by have := lt_of_get hv; simp at this; omega
          simp only [List.getElem?_take, hj, if_true, Array.getElem?_toList] at hv
          rw [Addr.add_none]
          simpa [gcell, Seal.set] using hv
        · have hj : j < es.length * sz := by have := lt_of_get hv; simp at this; omega
          simp only [List.getElem?_take, hj, if_true, Array.getElem?_toList] at hv
          rw [hes] at hu'
          exact ((g7 j u v hu' hv).toNob (purL_get hp1 hu') nob).mono hm

theorem purgeL_ints (id : Nat) (xs : List Int) : AV.purgeL id (xs.map AV.int) = xs.map AV.int := purgeL_map id _ _ fun _ => rfl
theorem purgeL_bools (id : Nat) (xs : List Bool) : AV.purgeL id (xs.map AV.bool) = xs.map AV.bool := purgeL_map id _ _ fun _ => rfl
theorem flat_one {α : Type} {f : α → AV} (h : ∀ a, (f a).cells = [f a]) (xs : List α) : (xs.map f).flatMap AV.cells = xs.map f := by
  induction xs with
  | nil => rfl
  | cons x l ih => simp [h, ih]
/-- A slice of the call's own is handed back: elements of one cell. -/
theorem fin_sl1 {α : Type} {f : α → AV} {rs : Array ResultVar} {Q : AV → Prop} {e : Exit} {fr : List AV} {hp : Hp} {i id bw n : Nat} {T : TypeId} {full : Bool} (xs : List α) (hrs : rs = #[.tmp i]) (hx : fr[i]? = some (.sl 1 bw id 0 n))
    (hb : hget hp id = some ⟨T, xs.map f, full⟩) (hn : xs.length = n) (hc : ∀ a, (f a).cells = [f a]) (hpu : ∀ a, (f a).pur = true) (hQ : Q (.isl 1 bw (xs.map f)))
    (he : e = .ret ∨ e = .normal := by first | exact .inl rfl | exact .inr rfl) : Fin P rs Q e ⟨fr, hp⟩ := by
  have hi : i < fr.length := lt_of_get hx
  refine fin_le (le_sealSl i id (xs.map f) hx hb (flat_one hc xs) (fun e he => ?_) (by simpa using hn) (purL_map f xs hpu) (by omega)) (by subst hrs; exact rv_one (rv1_tmp (x := .isl 1 bw (xs.map f)) (by simp [purgeL_len, hi]))) rfl hQ he
  · obtain ⟨a, _, rfl⟩ := List.mem_map.1 he
    rw [hc]; rfl
/-- .. of several. -/
theorem fin_slM {α : Type} {f : α → AV} {rs : Array ResultVar} {Q : AV → Prop} {e : Exit} {fr : List AV} {hp : Hp} {i id sz bw n : Nat} {T : TypeId} {full : Bool} (xs : List α) (hrs : rs = #[.tmp i]) (hx : fr[i]? = some (.sl sz bw id 0 n))
    (hb : hget hp id = some ⟨T, (xs.map f).flatMap AV.cells, full⟩) (hn : xs.length = n) (hc : ∀ a, (f a).cells.length = sz) (hpu : ∀ a, AV.purL (f a).cells = true) (hsz : 0 < sz) (hQ : Q (.isl sz bw (xs.map f)))
    (he : e = .ret ∨ e = .normal := by first | exact .inl rfl | exact .inr rfl) : Fin P rs Q e ⟨fr, hp⟩ := by
  have hi : i < fr.length := lt_of_get hx
  refine fin_le (le_sealSl i id (xs.map f) hx hb rfl (fun e he => ?_) (by simpa using hn) ?_ hsz) (by subst hrs; exact rv_one (rv1_tmp (x := .isl sz bw (xs.map f)) (by simp [purgeL_len, hi]))) rfl hQ he
  · obtain ⟨a, _, rfl⟩ := List.mem_map.1 he
    exact hc a
  · clear hb hn hQ
    induction xs with
    | nil => rfl
    | cons x l ih => simp [purL_append, hpu, ih]
end Go.Ab
