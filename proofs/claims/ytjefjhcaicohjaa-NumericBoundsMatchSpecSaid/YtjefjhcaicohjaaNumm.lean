import Derived.Test.YtjefjhcaicohjaaNuml
import Derived.Test.YtjefjhcaicohjaaNumd


namespace Go.Ab
/-! One abstract value says less than another. -/
def ALe (x y : AV) : Prop := ∀ G β v, Conc G β x v → Conc G β y v
theorem ALe.rfl' (x : AV) : ALe x x := fun _ _ _ h => h
theorem ALe.nil (sz bw : Nat) : ALe .nilS (.isl sz bw []) := fun G β v h => by
  cases h
  exact .isl [] (by simp) (by simp) (by simp) (by simp) (by simp) (by simp) (by simp)
def ALeL : List AV → List AV → Prop
  | [], [] => True
  | x :: r, y :: q => ALe x y ∧ ALeL r q
  | _, _ => False
theorem aleL_get : ∀ {xs ys : List AV}, ALeL xs ys → xs.length = ys.length ∧ ∀ (j : Nat) x y, xs[j]? = some x → ys[j]? = some y → ALe x y
  | [], [], _ => ⟨rfl, by simp⟩
  | x :: xs, y :: ys, h => by
    obtain ⟨h1, h2⟩ := aleL_get h.2
    refine ⟨by simp [h1], fun j a b ha hb => ?_⟩
    cases j with
    | zero => simp at ha hb; subst ha; subst hb; exact h.1
    | succ j => exact h2 j a b (by simpa using ha) (by simpa using hb)
  | [], _ :: _, h => h.elim
  | _ :: _, [], h => h.elim
theorem ALe.agg {xs ys : List AV} (h : ALeL xs ys) : ALe (.agg xs) (.agg ys) := fun G β v hc => by
  obtain ⟨h1, h2⟩ := aleL_get h
  cases hc with
  | agg vs hl hs =>
    refine .agg vs (by omega) fun j x y hx hy => ?_
    have hj : j < xs.length := by have := lt_of_get hx; omega
    exact h2 j _ _ (List.getElem?_eq_getElem hj) hx G β y (hs j _ y (List.getElem?_eq_getElem hj) hy)
theorem ALe.isl {sz bw : Nat} {es fs : List AV} (hl : es.length = fs.length) (hf : ∀ e ∈ fs, e.cells.length = sz) (h : ALeL (es.flatMap AV.cells) (fs.flatMap AV.cells)) : ALe (.isl sz bw es) (.isl sz bw fs) := fun G β v hc => by
  obtain ⟨h1, h2⟩ := aleL_get h
  generalize hq : AV.isl sz bw es = q at hc
  cases hc with
  | isl ys hu hl' hc' hb hA hr hs =>
    injection hq with q1 q2 q3
    subst q1; subst q2; subst q3
    rw [hl] at hl' hc' hb hA ⊢
    refine .isl ys hf hl' hc' hb hA hr fun j x y hx hy => ?_
    have hj : j < (es.flatMap AV.cells).length := by have := lt_of_get hx; omega
    exact h2 j _ _ (List.getElem?_eq_getElem hj) hx G nob y (hs j _ y (List.getElem?_eq_getElem hj) hy)
  | _ => cases hq
variable {P : Program}
theorem pcall_le {f : FuncId} {args args' : List AV} {Q : AV → Prop} (h : PCall P f args Q) (hl : ALeL args' args) : PCall P f args' Q := fun G w vals hG hv =>
  h G w vals hG ⟨by rw [← (aleL_get hl).1]; exact hv.1, fun j x y hx hy => by
    have hj : j < args'.length := by have := lt_of_get hx; rw [(aleL_get hl).1]; exact this
    exact (aleL_get hl).2 j _ _ (List.getElem?_eq_getElem hj) hx G nob y (hv.2 j _ y (List.getElem?_eq_getElem hj) hy)⟩
theorem pcall_res {f : FuncId} {args : List AV} {r r' : AV} (h : PCall P f args (fun x => x = r)) (hl : ALe r r') : PCall P f args (fun x => x = r') := fun G w vals hG hv =>
  (h G w vals hG hv).mono fun _ _ ⟨y, G', _, h1, h2, h3, h4⟩ => ⟨y, G', r', h1, rfl, hl _ _ _ (h2 ▸ h3), h4⟩
end Go.Ab
namespace Go.Proofs.Ytjefjhcaicohjaa
open Go.Ab
open Go
set_option linter.unusedSimpArgs false
set_option linter.unusedVariables false
set_option maxRecDepth 10000
attribute [local irreducible] PV AOp AOps AW PCall OCall Ab.Fin OFin RV RV1 Le AStk AGrd ADr ADx ADo AOpX AAny
set_option maxHeartbeats 4000000
/-! the closed example -/
def counterT : NT := ⟨[3], [⟨[1], 1, 7⟩], [⟨[], [⟨0, [2], 1⟩], 0⟩]⟩
theorem counter_pc : PCall Try.prog 78 [] (fun r => r = counterT.av) := by
  refine pcall_res (r := .agg [.isl 1 8 [.int 3], .isl 3 40 [.agg [.isl 1 8 [.int 1], .int 1, .int 7]], .isl 3 56 [.agg [.nilS, .isl 3 40 [.agg [.int 0, .isl 1 8 [.int 2], .int 1]], .int 0]]]) ?_ ?_
  · (refine enterS Try.func78 Try.ntmps78 ?_)
    (repeat' (first | (refine hK _ ?_; clear hK K) | (refine aw_seq (fun K hK => ?_)) | (refine gR ?_; refine regS ?_) | (refine gE ?_; (first | (refine exN ?_) | (refine exS (fun _ => ?_)))) | (refine gQ ?_; (first | (refine condT ?_) | (refine condF ?_) | (refine condS (fun hc => ?_) (fun hc => ?_) <;> (try (first | contradiction | (exfalso; omega)))))) | (refine gW ?_; refine wopsS ?_) | (refine aw_block ?_) | (refine gX ?_; refine exitS ?_) | (refine gT ?_; refine retS ?_) | (refine gS ?_; refine skipS ?_) | (apply_assumption (exfalso := false) (symm := false))))
    (refine fin_le (Le.refl _) (rv_one (rv1_cell (by first | exact pv_load (by rfl) (by rfl) (by rfl) (by rfl) | exact pv_loadA (by rfl) (by rfl) (by rfl) (by first | decide | simp)))) (by first | rfl | (simp only [go_sem, Nat.reduceAdd, Nat.reduceMul, reduceIte, Nat.reduceEqDiff, Nat.reduceLeDiff, Int.reduceBEq, Int.reduceBNe, Int.reduceLT, Int.reduceLE, decide_true, decide_false])) ?_)
    rfl
  · exact .agg ⟨ALe.rfl' _, ALe.rfl' _, ALe.isl rfl (by simp [counterT, AV.cells]) ⟨ALe.nil 3 40, ALe.rfl' _, ALe.rfl' _, trivial⟩, trivial⟩

theorem c_apply : PCall Try.prog 47 [counterT.av, ints [3], .int 0] (fun r => r = .tup [ints [7], fault 0 0]) := (apply_pc counterT [3] 0).mono fun x hx => by rw [hx, show applyOf counterT [3] 0 = ([7], (0, 0)) by decide]
theorem c_solves : PCall Try.prog 43 [counterT.av, ints [0]] (fun r => r = .tup [.bool true, fault 0 0]) := (solves_pc counterT [0]).mono fun x hx => by rw [hx, show solvesOf counterT [0] = (true, (0, 0)) by decide]
theorem c_solves0 : PCall Try.prog 43 [counterT.av, .nilS] (fun r => r = .tup [.bool false, fault 0 0]) :=
  pcall_le ((solves_pc counterT []).mono fun x hx => by rw [hx, show solvesOf counterT [] = (false, (0, 0)) by decide]) ⟨ALe.rfl' _, ALe.nil 1 8, trivial⟩
theorem c_bounds : PCall Try.prog 50 [counterT.av, .int 1] (fun r => r = .tup [prs [(3, 7)], fault 0 0]) := (bounds_pc counterT 1).mono fun x hx => by rw [hx, show boundsOf counterT 1 = ([(3, 7)], (0, 0)) by decide]
theorem c_empty : PCall Try.prog 41 [.agg [.nilS, .nilS, .nilS]] (fun r => r = fault 2 (-1)) :=
  pcall_le ((validate_pc ⟨[], [], []⟩).mono fun x hx => by rw [hx, show numFault ⟨[], [], []⟩ = (2, -1) by decide]) ⟨.agg ⟨ALe.nil 1 8, ALe.nil 3 40, ALe.nil 3 56, trivial⟩, trivial⟩
theorem c_ints : PCall Try.prog 48 [ints [7], ints [7]] (fun r => r = .bool true) := (refInts_pc [7] [7]).mono fun x hx => by rw [hx]; rfl
theorem c_same : PCall Try.prog 51 [prs [(3, 7)], prs [(3, 7)]] (fun r => r = .bool true) := (sameBounds_pc [(3, 7)] [(3, 7)]).mono fun x hx => by rw [hx]; rfl








theorem counts_pc : PCall Try.prog 40 [] (fun r => r = .bool true) := by
  (refine enterS Try.func40 Try.ntmps40 ?_)
  (repeat' (first | (refine hK _ ?_; clear hK K) | (refine aw_seq (fun K hK => ?_)) | (refine gR ?_; refine regS ?_) | (refine gE ?_; (first | (refine exN ?_) | (refine exS (fun _ => ?_)))) | (refine gC 78 ?_; refine callS (counter_pc) ?_) | (refine gC 47 ?_; refine callS (c_apply) ?_) | (refine gC 43 ?_; refine callS (c_solves) ?_) | (refine gC 43 ?_; refine callS (c_solves0) ?_) | (refine gC 50 ?_; refine callS (c_bounds) ?_) | (refine gC 48 ?_; refine callS (c_ints) ?_) | (refine gC 51 ?_; refine callS (c_same) ?_) | (refine gC 41 ?_; refine callS (c_empty) ?_) | (refine gC 21 ?_; refine callS (at_pc _ _) ?_) | (refine stk_op (fun K hK => ?_); (first | (refine aop_pv (pv_fieldAddrF (by rfl) (by rfl) (by first | decide | (simp; done) | (simp; omega))) ?_) | (refine aop_pv (pv_fieldAddrIF (by rfl) (by rfl) (by first | decide | (simp; done) | (simp; omega))) ?_) | (refine aop_pv (pv_eql (by rfl) (by rfl)) ?_) | (refine aop_pv (pv_eqlB (by rfl) (by rfl)) ?_) | (refine aop_pv (pv_eqlA (by rfl) (by rfl) (by kernel_rfl)) ?_))) | (refine gQ ?_; (first | (refine condT ?_) | (refine condF ?_) | (refine condS (fun hc => ?_) (fun hc => ?_) <;> (try (first | contradiction | (exfalso; omega)))))) | (refine gG ?_; refine guardS (fun hc => ?_) (fun hc => ?_) <;> (try (first | contradiction | (exfalso; omega)))) | (refine gW ?_; refine wopsS ?_) | (refine aw_block ?_) | (refine gX ?_; refine exitS ?_) | (refine gT ?_; refine retS ?_) | (refine gS ?_; refine skipS ?_) | (apply_assumption (exfalso := false) (symm := false))))
  (refine fin_le (Le.refl _) (rv_one (rv1_tmp (by rfl))) (by first | rfl | (simp only [go_sem, Nat.reduceAdd, Nat.reduceMul, reduceIte, Nat.reduceEqDiff, Nat.reduceLeDiff, Int.reduceBEq, Int.reduceBNe, Int.reduceLT, Int.reduceLE, decide_true, decide_false])) ?_)
  rfl




end Go.Proofs.Ytjefjhcaicohjaa
