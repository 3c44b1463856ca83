/- The abstract layer, third part: what a row asks of a law, from the law's contract. -/
import Derived.Below
import Derived.Carry
import Derived.ChangeArms
import Derived.ChangeSame
import Derived.ChangeShapes
import Derived.Handed
import Derived.SizedLaws
import Derived.Test.YthdlckclpmfidaaAb
import Derived.WideShapes
set_option linter.unusedSimpArgs false
set_option linter.unusedVariables false
/-! ### What a row's arguments read as -/
namespace Go.Ab
open Go.RowKit
inductive Sh where
  | int
  | bool
  | sl (sz bw : Nat) (s : Sh)
  | st (fs : List Sh)
def Sh.n : Sh → Nat
  | .st fs => fs.length
  | _ => 1
mutual
def Sh.sat : Sh → AV → Prop
  | .int, x => ∃ n : Int, (-9223372036854775808 ≤ n ∧ n ≤ 9223372036854775807) ∧ x = .int n
  | .bool, x => ∃ b : Bool, x = .bool b
  | .sl sz bw s, x => ∃ es, x = .isl sz bw es ∧ ∀ e ∈ es, s.sat e
  | .st fs, x => ∃ cs, x = .agg cs ∧ Sh.satL fs cs
def Sh.satL : List Sh → List AV → Prop
  | [], [] => True
  | s :: r, x :: q => s.sat x ∧ Sh.satL r q
  | _, _ => False
end
def Sh.isSt : Sh → Bool
  | .st _ => true
  | _ => false
mutual
def Sh.ok (P : Program) : Sh → TypeId → Bool
  | .int, t => match P.underlying t with | some (.int .i64) => true | _ => false
  | .bool, t => match P.underlying t with | some .bool => true | _ => false
  | .sl sz bw s, t => match P.underlying t with
    | some (.slice e) => P.cellsOf e == sz && P.bytesOf e == bw && s.n == sz && decide (0 < sz) && s.ok P e
    | _ => false
  | .st fs, t => match P.underlying t with
    | some (.struct fl) => P.cellsOf t == fs.length && fl.size == fs.length && Sh.okL P fs 0 fl.toList
    | _ => false
def Sh.okL (P : Program) : List Sh → Nat → List Field → Bool
  | [], _, [] => true
  | s :: q, i, f :: r => f.offset == i && P.cellsOf f.type == 1 && !s.isSt && s.ok P f.type && Sh.okL P q (i + 1) r
  | _, _, _ => false
end
def memG (w : World) : Seal := fun b => w.heap[b]?
theorem gcell_mem {w : World} {a : Addr} {y : Value} (h : w.cell? a = some y) : gcell (memG w) a = some y := by
  unfold gcell memG
  unfold World.cell? at h
  exact h
theorem list_of {α : Type} {Q : Nat → α → Prop} : ∀ (n : Nat), (∀ i, i < n → ∃ x, Q i x) → ∃ l : List α, l.length = n ∧ ∀ (i : Nat) x, l[i]? = some x → Q i x
  | 0, _ => ⟨[], rfl, by simp⟩
  | n+1, h => by
    obtain ⟨l, hl, hq⟩ := list_of n (fun i hi => h i (by omega))
    obtain ⟨x, hx⟩ := h n (by omega)
    refine ⟨l ++ [x], by simp [hl], fun i y hy => ?_⟩
    rcases Nat.lt_or_ge i n with h1 | h1
    · rw [List.getElem?_append_left (by omega)] at hy; exact hq i y hy
    · have : i = n := by
        have := lt_of_get hy
        simp at this; omega
      subst this
      rw [List.getElem?_append_right (by omega)] at hy
      simp [hl] at hy; subst hy; exact hx
section
variable {H : Type} {enc : TypeId × Value → H} {P : Program} {w : World} {sp : Nat → Bool} {held : Bool}
theorem cells_get {base : Nat} {a : Addr} {n : Nat} {cs : List Value} (h : w.cells? base a n = some cs) : cs.length = n ∧ ∀ i, i < n → w.cell? (a.add i) = cs[i]? := by
  unfold World.cells? at h
  split at h
  · exact ⟨by simpa using mapM_some_length h, fun i hi => mapM_some_get h i i (by simp [hi])⟩
  · cases h
theorem weightsAll_mem {e : TypeId} : ∀ {ds : List (DataW H)} {i : Nat} {d : DataW H}, ds[i]? = some d → ∀ n ∈ d.weights P e, n ∈ DataW.weightsAll P e ds
  | [], _, _, h, _, _ => by simp at h
  | d0 :: ds, 0, d, h, n, hn => by simp at h; subst h; simp [DataW.weightsAll, hn]
  | d0 :: ds, i+1, d, h, n, hn => by
    have := weightsAll_mem (ds := ds) (i := i) (d := d) (by simpa using h) n hn
    simp [DataW.weightsAll, this]
mutual
theorem reads : ∀ (s : Sh) (t : TypeId) (fuel : Nat) (cs : List Value) (d : DataW H × List MemPlace), s.ok P t = true → DataW.trod enc P w 0 sp held fuel t cs = some d → (∀ n ∈ d.1.weights P t, n ≤ reachBytes) →
    ∃ x, s.sat x ∧ x.cells.length = s.n ∧ cs.length = s.n ∧ (s.isSt = false → x.cells = [x]) ∧ ∀ (j : Nat) u y, x.cells[j]? = some u → cs[j]? = some y → Conc (memG w) nob u y
  | .int, t, fuel, cs, d, hok, h, hw => by
    simp only [Sh.ok] at hok
    split at hok
    · rename_i hu
      obtain ⟨n, rfl, rfl, hwf⟩ := DataW.trod_int hu h
      have hb : -9223372036854775808 ≤ n ∧ n ≤ 9223372036854775807 := by
        simp [Lit.wf, IntKind.min, IntKind.max, IntKind.signed, IntKind.bits] at hwf; omega
      refine ⟨.int n, ⟨n, hb, rfl⟩, rfl, rfl, fun _ => rfl, fun j u y hu hy => ?_⟩
      cases j with
      | zero => simp [AV.cells] at hu hy; subst hu; subst hy; exact .v
      | succ j => simp [AV.cells] at hu
    · cases hok
  | .bool, t, fuel, cs, d, hok, h, hw => by
    simp only [Sh.ok] at hok
    split at hok
    · rename_i hu
      obtain ⟨n, rfl, rfl⟩ := DataW.trod_bool hu h
      refine ⟨.bool n, ⟨n, rfl⟩, rfl, rfl, fun _ => rfl, fun j u y hu hy => ?_⟩
      cases j with
      | zero => simp [AV.cells] at hu hy; subst hu; subst hy; exact .v
      | succ j => simp [AV.cells] at hu
    · cases hok
  | .sl sz bw s, t, fuel, cs, d, hok, h, hw => by
    simp only [Sh.ok] at hok
    split at hok
    · rename_i e hu
      simp only [Bool.and_eq_true, beq_iff_eq, decide_eq_true_eq] at hok
      obtain ⟨⟨⟨⟨h1, h2⟩, h3⟩, h4⟩, h5⟩ := hok
      rcases DataW.trod_slice hu h with ⟨rfl, rfl⟩ | ⟨a, len, cap, elems, rest, n, rfl, rfl, rfl, hb, hl, hc, hel, hget, _, _⟩
      · refine ⟨.isl sz bw [], ⟨[], rfl, by simp⟩, rfl, rfl, fun _ => rfl, fun j u y hu hy => ?_⟩
        cases j with
        | zero =>
          simp [AV.cells] at hu hy; subst hu; subst hy
          exact .isl (es := []) [] (by simp) (by simp) (by simp) (by simp) (by simp) (by simp) (by simp)
        | succ j => simp [AV.cells] at hu
      · rw [h1] at hget
        have key : ∀ i, i < len → ∃ x, s.sat x ∧ x.cells.length = sz ∧ ∃ ci, w.cells? 0 (a.add (i * sz)) sz = some ci ∧ ∀ (j : Nat) u y, x.cells[j]? = some u → ci[j]? = some y → Conc (memG w) nob u y := by
          intro i hi
          have hg := hget i hi
          have hlt : i < elems.length := by omega
          rw [List.getElem?_eq_getElem hlt] at hg
          rw [Option.bind_eq_some_iff] at hg
          obtain ⟨ci, hci, htr⟩ := hg
          obtain ⟨x, x1, x2, _, _, x4⟩ := reads s e n ci elems[i] h5 htr (fun m hm => hw m (by
            have := weightsAll_mem (P := P) (e := e) (ds := elems.map (·.1)) (i := i) (d := elems[i].1) (by simp [hlt]) m hm
            simp [DataW.weights, hu, this]))
          exact ⟨x, x1, by omega, ci, hci, x4⟩
        obtain ⟨es, hes, hq⟩ := list_of len key
        have hwl : (elems.length + rest.length) * bw ≤ reachBytes := by
          have := hw ((elems.length + rest.length) * P.bytesOf e) (by simp [DataW.weights, hu])
          rwa [h2] at this
        have hbytes : es.length * bw ≤ reach := by
          have h6 : es.length * bw ≤ (elems.length + rest.length) * bw := Nat.mul_le_mul_right _ (by omega)
          have h7 : reachBytes ≤ reach := by decide
          omega
        have hmem : ∀ e ∈ es, s.sat e ∧ e.cells.length = sz := by
          intro e he
          obtain ⟨i, hi⟩ := List.getElem?_of_mem he
          have := hq i e hi
          exact ⟨this.1, this.2.1⟩
        refine ⟨.isl sz bw es, ⟨es, rfl, fun e he => (hmem e he).1⟩, rfl, rfl, fun _ => rfl, fun j u y hu hy => ?_⟩
        cases j with
        | succ j => simp [AV.cells] at hu
        | zero =>
          simp [AV.cells] at hu hy; subst hu; subst hy
          have cell : ∀ j, j < len * sz → ∃ (e : AV) (ci : List Value), es[j / sz]? = some e ∧ w.cell? (a.add j) = ci[j % sz]? ∧ j % sz < ci.length ∧ (es.flatMap AV.cells)[j]? = e.cells[j % sz]? ∧ ∀ (r : Nat) u y, e.cells[r]? = some u → ci[r]? = some y → Conc (memG w) nob u y := by
            intro j hj
            have hk : j / sz < len := (Nat.div_lt_iff_lt_mul h4).2 hj
            have hr : j % sz < sz := Nat.mod_lt _ h4
            have hke : j / sz < es.length := by omega
            obtain ⟨_, q2, ci, q3, q4⟩ := hq (j / sz) es[j / sz] (List.getElem?_eq_getElem hke)
            obtain ⟨c1, c2⟩ := cells_get q3
            have hjj : j / sz * sz + j % sz = j := by rw [Nat.mul_comm]; exact Nat.div_add_mod j sz
            refine ⟨_, ci, List.getElem?_eq_getElem hke, ?_, by omega, ?_, q4⟩
            · have := c2 _ hr
              rw [addr_add_add, hjj] at this
              exact this
            · have := flat_get (fun e he => (hmem e he).2) (List.getElem?_eq_getElem hke) hr
              rw [hjj] at this
              exact this
          have := Conc.isl (G := memG w) (β := nob) (sz := sz) (bw := bw) (es := es) (A := some a) (c := cap) ((List.range (len * sz)).map fun j => (w.cell? (a.add j)).getD .nilFunc) (fun e he => (hmem e he).2) (by simp [hes]) (by omega) hbytes (fun _ => by simp)
            (fun j y hy => by
              have hj : j < len * sz := by have := lt_of_get hy; simpa using this
              obtain ⟨e, ci, _, q2, q3, _⟩ := cell j hj
              simp only [List.getElem?_map, List.getElem?_range hj, Option.map_some, Option.some.injEq] at hy
              rw [List.getElem?_eq_getElem q3] at q2
              rw [q2] at hy
              simp at hy
              exact ⟨a, rfl, gcell_mem (by rw [q2, hy])⟩)
            (fun j x y hx hy => by
              have hj : j < len * sz := by have := lt_of_get hy; simpa using this
              obtain ⟨e, ci, _, q2, q3, q4, q5⟩ := cell j hj
              simp only [List.getElem?_map, List.getElem?_range hj, Option.map_some, Option.some.injEq] at hy
              rw [List.getElem?_eq_getElem q3] at q2
              rw [q2] at hy
              simp at hy
              rw [q4] at hx
              exact q5 _ _ _ hx (by rw [List.getElem?_eq_getElem q3, hy]))
          rw [hes] at this
          exact this
    · cases hok
  | .st fs, t, fuel, cs, d, hok, h, hw => by
    simp only [Sh.ok] at hok
    split at hok
    · rename_i fl hu
      simp only [Bool.and_eq_true, beq_iff_eq] at hok
      obtain ⟨⟨h1, h2⟩, h3⟩ := hok
      obtain ⟨xs, n, rfl, rfl, hl, hxl, hf⟩ := DataW.trod_struct hu h
      obtain ⟨us, u1, u2, u3⟩ := readsL fs 0 fl.toList n cs xs h3 (by omega) (by simp [hxl]) (fun k f hk => hf k f (by simpa using hk)) (by simpa [DataW.weights, hu] using hw)
      refine ⟨.agg us, ⟨us, rfl, u1⟩, by simpa [AV.cells, Sh.n] using u2, (by simp [Sh.n]; omega), (fun h => by cases h), fun j u y hx hy => u3 j u y hx (by simpa using hy)⟩
    · cases hok
theorem readsL : ∀ (fs : List Sh) (i : Nat) (fl : List Field) (n : Nat) (cs : List Value) (xs : List (DataW H × List MemPlace)), Sh.okL P fs i fl = true → cs.length = i + fs.length → xs.length = fl.length →
    (∀ (k : Nat) f, fl[k]? = some f → DataW.trod enc P w 0 sp held n f.type ((cs.drop f.offset).take (P.cellsOf f.type)) = xs[k]?) → (∀ m ∈ DataW.weightsEach P (fl.map (·.type)) (xs.map (·.1)), m ≤ reachBytes) →
    ∃ us, Sh.satL fs us ∧ us.length = fs.length ∧ ∀ (j : Nat) u y, us[j]? = some u → cs[i + j]? = some y → Conc (memG w) nob u y
  | [], i, [], n, cs, xs, _, _, _, _, _ => ⟨[], trivial, rfl, by simp⟩
  | [], _, _ :: _, _, _, _, h, _, _, _, _ => by simp [Sh.okL] at h
  | _ :: _, _, [], _, _, _, h, _, _, _, _ => by simp [Sh.okL] at h
  | s :: fs, i, f :: fl, n, cs, [], h, _, hx, _, _ => by simp at hx
  | s :: fs, i, f :: fl, n, cs, x :: xs, h, hl, hx, hg, hw => by
    simp only [Sh.okL, Bool.and_eq_true, beq_iff_eq, Bool.not_eq_true'] at h
    obtain ⟨⟨⟨⟨h1, h2⟩, h3⟩, h4⟩, h5⟩ := h
    have g0 := hg 0 f (by simp)
    simp only [List.getElem?_cons_zero, h1, h2] at g0
    simp only [List.length_cons] at hl
    obtain ⟨u, a1, a2, a3, a4, a5⟩ := reads s f.type n _ x h4 g0 (fun m hm => hw m (by simp [DataW.weightsEach, hm]))
    obtain ⟨us, b1, b2, b3⟩ := readsL fs (i + 1) fl n cs xs h5 (by omega) (by simpa using hx) (fun k f hk => by simpa using hg (k + 1) f (by simpa using hk)) (fun m hm => hw m (by simp [DataW.weightsEach, hm]))
    have hu := a4 h3
    refine ⟨u :: us, ⟨a1, b1⟩, by simp [b2], fun j v y hv hy => ?_⟩
    cases j with
    | zero =>
      simp at hv; subst hv
      refine a5 0 _ y (by rw [hu]; rfl) ?_
      have hi : i < cs.length := by omega
      rw [List.getElem?_take]
      simp only [Nat.zero_lt_one, if_true, List.getElem?_drop]
      exact hy
    | succ j => exact b3 j v y (by simpa using hv) (by rw [← hy]; congr 1; omega)
end
end
end Go.Ab

/-! ### From a contract to a row -/
namespace Go.Ab
open Go.RowKit Go.WideShapes Go.ChangeShapes
def Sh.okAll (P : Program) : List Sh → List TypeId → Bool
  | [], [] => true
  | s :: r, t :: q => s.ok P t && P.readableRec t && decide (t < P.types.size) && Sh.okAll P r q
  | _, _ => false
section
variable {H : Type} {enc : TypeId × Value → H} {P : Program}
theorem conc_arg {s : Sh} {t : TypeId} {W : World} {base : Nat} {v : Value} {d : DataW H} {ps : List MemPlace} (hok : s.ok P t = true) (hval : Value.okWide P W .any base t v)
    (h : DataW.Trod enc P W 0 (fun _ => true) true t v d ps) (hw : ∀ n ∈ d.weights P t, n ≤ reachBytes) : ∃ x, s.sat x ∧ Conc (memG W) nob x v := by
  obtain ⟨fuel, h⟩ := h
  obtain ⟨x, h1, h2, h3, h4, h5⟩ := reads s t fuel _ (d, ps) hok h hw
  have one : v.cells.toList = [v] → s.isSt = false → Conc (memG W) nob x v := fun e hs => by
    refine h5 0 x v ?_ (by rw [e]; rfl)
    rw [h4 hs]; rfl
  refine ⟨x, h1, ?_⟩
  cases s with
  | int =>
    simp only [Sh.ok] at hok
    split at hok
    · rename_i hu
      obtain ⟨n, rfl⟩ := okWide_int hu hval
      exact one rfl rfl
    · cases hok
  | bool =>
    simp only [Sh.ok] at hok
    split at hok
    · rename_i hu
      obtain ⟨n, rfl⟩ := okWide_bool hu hval
      exact one rfl rfl
    · cases hok
  | sl sz bw s =>
    simp only [Sh.ok] at hok
    split at hok
    · rename_i e hu
      obtain ⟨a, l, c, rfl⟩ := okWide_slice hu hval
      exact one rfl rfl
    · cases hok
  | st fs =>
    simp only [Sh.ok] at hok
    split at hok
    · rename_i fl hu
      obtain ⟨cs, rfl, _⟩ := okWide_struct hu hval
      obtain ⟨us, rfl, _⟩ := h1
      have := Conc.agg (G := memG W) (β := nob) (cs := us) cs.toList (by simpa [AV.cells, Value.cells] using h2.trans h3.symm) (fun j x y hx hy => h5 j x y hx (by simpa [Value.cells] using hy))
      simpa using this
    · cases hok
theorem conc_args {W : World} {base : Nat} : ∀ {shs : List Sh} {ts : List TypeId} {vs : List Value} {ds : List (DataW H)} {ps : List MemPlace}, Sh.okAll P shs ts = true →
    (∀ (j : Nat) t v, ts[j]? = some t → vs[j]? = some v → Value.okWide P W .any base t v) → DataW.TrodAll enc P W 0 (fun _ => true) true ts vs ds ps → (∀ n ∈ DataW.weightsEach P ts ds, n ≤ reachBytes) →
    ∃ xs, Sh.satL shs xs ∧ ConcL (memG W) xs vs
  | [], [], vs, ds, ps, _, _, h, _ => by
    obtain ⟨rfl, rfl, rfl⟩ := trodAll_nil h
    exact ⟨[], trivial, rfl, by simp⟩
  | [], _ :: _, _, _, _, h, _, _, _ => by simp [Sh.okAll] at h
  | _ :: _, [], _, _, _, h, _, _, _ => by simp [Sh.okAll] at h
  | s :: shs, t :: ts, vs, ds, ps, hok, hval, h, hw => by
    simp only [Sh.okAll, Bool.and_eq_true] at hok
    obtain ⟨⟨⟨h1, _⟩, _⟩, h2⟩ := hok
    obtain ⟨v, vs', d, ds', p, q, rfl, rfl, rfl, g1, g2⟩ := trodAll_cons h
    obtain ⟨x, x1, x2⟩ := conc_arg h1 (hval 0 t v rfl rfl) g1 (fun n hn => hw n (by simp [DataW.weightsEach, hn]))
    obtain ⟨xs, y1, y2, y3⟩ := conc_args h2 (fun j t v ht hv => hval (j + 1) t v (by simpa using ht) (by simpa using hv)) g2 (fun n hn => hw n (by simp [DataW.weightsEach, hn]))
    refine ⟨x :: xs, ⟨x1, y1⟩, by simp [y2], fun j a b ha hb => ?_⟩
    cases j with
    | zero => simp at ha hb; subst ha; subst hb; exact x2
    | succ j => exact y3 j a b (by simpa using ha) (by simpa using hb)
theorem args_stay {W W' : World} {sp' : Nat → Bool} (hl : laidOutB P = true) (hb : Below W.heap.size W W') : ∀ {shs : List Sh} {ts : List TypeId} {vs : List Value} {ds : List (DataW H)} {ps : List MemPlace}, Sh.okAll P shs ts = true →
    DataW.TrodAll enc P W 0 (fun _ => true) true ts vs ds ps → (∀ p ∈ ps, p.block < W.heap.size) → (∀ p ∈ ps, sp' p.block = true) → DataW.TrodAll enc P W' 0 sp' true ts vs ds ps
  | [], [], vs, ds, ps, _, h, _, _ => by
    obtain ⟨rfl, rfl, rfl⟩ := trodAll_nil h
    exact rfl
  | [], _ :: _, _, _, _, h, _, _, _ => by simp [Sh.okAll] at h
  | _ :: _, [], _, _, _, h, _, _, _ => by simp [Sh.okAll] at h
  | s :: shs, t :: ts, vs, ds, ps, hok, h, hlt, hs => by
    simp only [Sh.okAll, Bool.and_eq_true, decide_eq_true_eq] at hok
    obtain ⟨⟨⟨_, h1⟩, h2⟩, h3⟩ := hok
    obtain ⟨v, vs', d, ds', p, q, rfl, rfl, rfl, g1, g2⟩ := trodAll_cons h
    refine ⟨p, q, WideElems.Trod_stays hl h1 h2 g1 (fun x hx => hb.same (hlt x (by simp [hx]))) (fun x hx => hs x (by simp [hx])), ?_, rfl⟩
    exact args_stay hl hb h3 g2 (fun x hx => hlt x (by simp [hx])) (fun x hx => hs x (by simp [hx]))
theorem post_of_below {f : Func} {s : ChangeSpec} {apart fresh handsOn again : Bool} {W W' : World} {args : Array Value} {v : Value} {ds gs : List (DataW H)} {before pa pv : List MemPlace}
    (hW : DataW.Whole enc P f.params.toList s.vars apart W args.toList ds gs before)
    (hres : ∀ (b : Nat) (sp : Nat → Bool) (hd : Bool), DataW.TrodAll enc P W' b sp hd f.resultTypes.toList (v.resultList f.resultTypes.size) (s.fn H (ds ++ gs)).results [])
    (hargs : ∀ sp : Nat → Bool, (∀ p ∈ before, sp p.block = true) → DataW.TrodAll enc P W' 0 sp true f.params.toList args.toList (s.fn H (ds ++ gs)).args pa)
    (hvars : ∀ sp : Nat → Bool, (∀ p ∈ before, sp p.block = true) → DataW.TrodVars enc P W' sp s.vars (s.fn H (ds ++ gs)).vars pv)
    (hps : before = pa ++ pv) (hb : Below W.heap.size W W')
    (hok : ∀ (j : Nat) (t : TypeId) (r : Value), f.resultTypes[j]? = some t → (v.resultList f.resultTypes.size)[j]? = some r → Value.okWide P W' .any 0 t r) :
    s.post enc P f apart fresh handsOn again W args v W' := by
  have hlt : ∀ p ∈ before, p.block < W.heap.size := fun p hp => hW.lt p hp
  have hold : ∀ p ∈ before, (fun b => decide (b < W.heap.size)) p.block = true := fun p hp => by simpa using hlt p hp
  refine ⟨ds, gs, before, [], pa, pv, hW, hres _ _ _, hargs _ hold, hvars _ hold, World.keptBut_mono (fun p hp => ⟨hp, ?_⟩) (hb.frame (· ∈ before)), fun _ => ?_⟩
  · rw [hps, List.mem_append] at hp
    exact Or.inr hp
  · obtain ⟨_, _, _, _, _, hz, hn⟩ := hW
    refine ⟨hok, _, _, ([] ++ pa) ++ pv, ⟨[] ++ pa, pv, trodAll_append (hargs _ (fun _ _ => rfl)) (hres _ _ _), hvars _ (fun _ _ => rfl), rfl, ?_, ?_⟩, ?_⟩
    · intro b off hp
      have hin : MemPlace.cell b off ∈ before := by rw [hps]; simpa using hp
      rw [hb.frozen (hlt _ hin)]
      exact hz b off hin
    · intro ha
      have := hn ha
      rw [hps] at this
      simpa using this
    · intro p hp _
      rw [hps]
      simpa using hp
/-- The whole of a law's row but for what its own text says. -/
theorem law_calls {f : FuncId} {fn : Func} {s : ChangeSpec} {shs : List Sh} {tb : TypeId} {W : World} {base : Nat} {args : Array Value} {ds gs : List (DataW H)} {before : List MemPlace} {apart fresh handsOn again : Bool}
    (hl : laidOutB P = true) (hres : fn.resultTypes = #[tb]) (htb : P.underlying tb = some .bool) (hok : Sh.okAll P shs fn.params.toList = true) (hvars : s.vars = [])
    (hfn : ∀ ds : List (DataW H), ds.length = fn.params.size → s.fn H (ds ++ []) = { results := [.lit (.bool true)], args := ds })
    (hlaw : ∀ xs, Sh.satL shs xs → PCall P f xs (fun r => r = .bool true))
    (hval : ∀ (j : Nat) t v, fn.params[j]? = some t → args[j]? = some v → Value.okWide P W .any base t v)
    (hW : DataW.Whole enc P fn.params.toList s.vars apart W args.toList ds gs before)
    (hsz : (DataW.weightsEach P (fn.params.toList ++ s.plain.varTypes P) (ds ++ gs)).all (· ≤ reachBytes) = true) :
    Calls P f args W fun e W' => ∃ v, e = .returned v ∧ s.post enc P fn apart fresh handsOn again W args v W' := by
  have hW0 := hW
  have hltb : ∀ p ∈ before, p.block < W.heap.size := fun p hp => hW.lt p hp
  obtain ⟨p, q, hA, hV, rfl, hfz, hnd⟩ := hW
  rw [hvars] at hV
  obtain ⟨rfl, rfl⟩ := trodVars_none hV
  have hv0 : s.plain.varTypes P = [] := by simp [ChangeSpec.plain, DataSpec.varTypes, hvars]
  rw [hv0] at hsz
  simp only [List.append_nil] at hsz
  have hwt : ∀ n ∈ DataW.weightsEach P fn.params.toList ds, n ≤ reachBytes := fun n hn => by simpa using List.all_eq_true.1 hsz n hn
  obtain ⟨xs, hx1, hx2⟩ := conc_args (base := base) hok (fun j t v ht hv => hval j t v (by simpa using ht) (by simpa using hv)) hA hwt
  have hc := hlaw xs hx1 (memG W) W args.toList (fun b o hb => hb) hx2
  simp only [Array.toArray_toList] at hc
  have hdl : ds.length = fn.params.size := by
    have : ∀ {ts : List TypeId} {vs : List Value} {ds : List (DataW H)} {ps : List MemPlace}, DataW.TrodAll enc P W 0 (fun _ => true) true ts vs ds ps → ds.length = ts.length := by
      intro ts
      induction ts with
      | nil => intro vs ds ps h; obtain ⟨rfl, rfl, rfl⟩ := trodAll_nil h; rfl
      | cons t ts ih => intro vs ds ps h; obtain ⟨v, vs', d, ds', p, q, rfl, rfl, rfl, g1, g2⟩ := trodAll_cons h; simp [ih g2]
    simpa using this hA
  refine hc.mono fun e W' ⟨y, G', x, he, hQ, hcx, _, _, hext⟩ => ⟨y, he, ?_⟩
  subst hQ
  have hy := conc_bool hcx
  subst hy
  have e1 := hfn ds hdl
  refine post_of_below (pa := p) (pv := []) hW0 (fun b sp hd => ?_) (fun sp hs => ?_) (fun sp hs => ?_) rfl hext ?_
  · rw [e1, hres]
    exact trodAll_mk1 (shut_bool htb true)
  · rw [e1]
    exact args_stay hl hext hok hA (fun x hx => hltb x (by simp [hx])) (fun x hx => hs x (by simp [hx]))
  · rw [e1, hvars]
    exact rfl
  · exact ok_one hres rfl (okWide_bool_mk htb true)
end
end Go.Ab
