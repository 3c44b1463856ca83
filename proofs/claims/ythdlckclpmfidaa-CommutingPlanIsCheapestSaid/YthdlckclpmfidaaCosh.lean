/- The shapes of the laws' arguments that are tasks. -/
import Derived.Test.YthdlckclpmfidaaTask
import Derived.Test.YthdlckclpmfidaaRd
import Derived.ProofKit
namespace Go.Proofs.Ythdlckclpmfidaa
open Go.Ab
open Go
set_option maxRecDepth 10000
attribute [local irreducible] PV AOp AOps AW PCall OCall Ab.Fin OFin RV RV1 Le AStk AGrd ADr ADx ADo AOpX AAny
abbrev shInts : Sh := .sl 1 8 .int
abbrev shOp : Sh := .st [shInts, shInts, shInts, .int]
abbrev shTask : Sh := .st [.int, shInts, shInts, .sl 4 80 shOp]
theorem list_map {α : Type} {S : AV → Prop} {f : α → AV} (h : ∀ x, S x → ∃ a, x = f a) : ∀ {es : List AV}, (∀ e ∈ es, S e) → ∃ xs : List α, es = xs.map f
  | [], _ => ⟨[], rfl⟩
  | e :: es, hs => by
    obtain ⟨a, rfl⟩ := h e (hs e (by simp))
    obtain ⟨xs, rfl⟩ := list_map h (es := es) (fun e he => hs e (by simp [he]))
    exact ⟨a :: xs, rfl⟩
theorem sat_ints {x : AV} (h : shInts.sat x) : ∃ xs : List Int, x = ints xs := by
  obtain ⟨es, rfl, he⟩ := h
  obtain ⟨xs, rfl⟩ := list_map (f := AV.int) (fun x ⟨n, _, hn⟩ => ⟨n, hn⟩) he
  exact ⟨xs, rfl⟩
theorem sat_st4 {a b c d : Sh} {x : AV} (h : (Sh.st [a, b, c, d]).sat x) : ∃ u v w z, x = .agg [u, v, w, z] ∧ a.sat u ∧ b.sat v ∧ c.sat w ∧ d.sat z := by
  obtain ⟨cs, rfl, hc⟩ := h
  match cs, hc with
  | [u, v, w, z], ⟨h1, h2, h3, h4, _⟩ => exact ⟨u, v, w, z, rfl, h1, h2, h3, h4⟩
theorem sat_sl {α : Type} {sz bw : Nat} {s : Sh} {f : α → AV} (hs : ∀ x, s.sat x → ∃ a, x = f a) {x : AV} (h : (Sh.sl sz bw s).sat x) : ∃ xs : List α, x = .isl sz bw (xs.map f) := by
  obtain ⟨es, rfl, he⟩ := h
  obtain ⟨xs, rfl⟩ := list_map hs he
  exact ⟨xs, rfl⟩
theorem sat_op {x : AV} (h : shOp.sat x) : ∃ o : Op, x = o.av := by
  obtain ⟨u, v, w, z, rfl, h1, h2, h3, ⟨m, _, rfl⟩⟩ := sat_st4 h
  obtain ⟨xs, rfl⟩ := sat_ints h1
  obtain ⟨ys, rfl⟩ := sat_ints h2
  obtain ⟨zs, rfl⟩ := sat_ints h3
  exact ⟨⟨xs, ys, zs, m⟩, rfl⟩
theorem sat_task {x : AV} (h : shTask.sat x) : ∃ t : Task, x = t.av := by
  obtain ⟨u, v, w, z, rfl, ⟨m, _, rfl⟩, h1, h2, h3⟩ := sat_st4 h
  obtain ⟨is, rfl⟩ := sat_ints h1
  obtain ⟨gs, rfl⟩ := sat_ints h2
  obtain ⟨os, rfl⟩ := sat_sl (f := Op.av) (fun _ => sat_op) h3
  exact ⟨⟨m, is, gs, os⟩, rfl⟩
theorem satL_cons {s : Sh} {r : List Sh} {xs : List AV} (h : Sh.satL (s :: r) xs) : ∃ x q, xs = x :: q ∧ s.sat x ∧ Sh.satL r q := by
  cases xs with
  | nil => exact h.elim
  | cons x q => exact ⟨x, q, rfl, h.1, h.2⟩
theorem satL_nil {xs : List AV} (h : Sh.satL [] xs) : xs = [] := by
  cases xs with
  | nil => rfl
  | cons x q => exact h.elim
theorem sat_int {x : AV} (h : Sh.int.sat x) : ∃ n : Int, (-9223372036854775808 ≤ n ∧ n ≤ 9223372036854775807) ∧ x = .int n := h
theorem own_try : ownKnob Try.prog.godebug = none := by kernel_rfl
theorem laid_try : laidOutB Try.prog = true := by kernel_rfl
end Go.Proofs.Ythdlckclpmfidaa
