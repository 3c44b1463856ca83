/- The shapes of the numeric laws' arguments. -/
import Derived.Test.YtjefjhcaicohjaaNumb
import Derived.Test.YtjefjhcaicohjaaRd
import Derived.ProofKit
namespace Go.Proofs.Ytjefjhcaicohjaa
open Go.Ab
open Go
set_option maxRecDepth 10000
attribute [local irreducible] PV AOp AOps AW PCall OCall Ab.Fin OFin RV RV1 Le AStk AGrd ADr ADx ADo AOpX AAny
abbrev shInts : Sh := .sl 1 8 .int
abbrev shCmp : Sh := .st [shInts, .int, .int]
abbrev shChg : Sh := .st [.int, shInts, .int]
abbrev shNOp : Sh := .st [.sl 3 40 shCmp, .sl 3 40 shChg, .int]
abbrev shNT : Sh := .st [shInts, .sl 3 40 shCmp, .sl 3 56 shNOp]
theorem list_map {α : Type} {S : AV → Prop} {f : α → AV} (h : ∀ x, S x → ∃ a, x = f a) : ∀ {es : List AV}, (∀ e ∈ es, S e) → ∃ xs : List α, es = xs.map f
  | [], _ => ⟨[], rfl⟩
  | e :: es, hs => by
    obtain ⟨a, rfl⟩ := h e (hs e (by simp))
    obtain ⟨xs, rfl⟩ := list_map h (es := es) (fun e he => hs e (by simp [he]))
    exact ⟨a :: xs, rfl⟩
theorem sat_ints {x : AV} (h : shInts.sat x) : ∃ xs : List Int, x = ints xs := by
  obtain ⟨es, rfl, he⟩ := h
  obtain ⟨xs, rfl⟩ := list_map (f := AV.int) (fun x ⟨n, _, hn⟩ => ⟨n, hn⟩) he
  exact ⟨xs, rfl⟩
theorem sat_st3 {a b c : Sh} {x : AV} (h : (Sh.st [a, b, c]).sat x) : ∃ u v w, x = .agg [u, v, w] ∧ a.sat u ∧ b.sat v ∧ c.sat w := by
  obtain ⟨cs, rfl, hc⟩ := h
  match cs, hc with
  | [u, v, w], ⟨h1, h2, h3, _⟩ => exact ⟨u, v, w, rfl, h1, h2, h3⟩
theorem sat_cmp {x : AV} (h : shCmp.sat x) : ∃ c : Cmp, x = c.av := by
  obtain ⟨u, v, w, rfl, h1, ⟨n, _, rfl⟩, ⟨m, _, rfl⟩⟩ := sat_st3 h
  obtain ⟨xs, rfl⟩ := sat_ints h1
  exact ⟨⟨xs, n, m⟩, rfl⟩
theorem sat_chg {x : AV} (h : shChg.sat x) : ∃ c : Chg, x = c.av := by
  obtain ⟨u, v, w, rfl, ⟨n, _, rfl⟩, h1, ⟨m, _, rfl⟩⟩ := sat_st3 h
  obtain ⟨xs, rfl⟩ := sat_ints h1
  exact ⟨⟨n, xs, m⟩, rfl⟩
theorem sat_sl {α : Type} {sz bw : Nat} {s : Sh} {f : α → AV} (hs : ∀ x, s.sat x → ∃ a, x = f a) {x : AV} (h : (Sh.sl sz bw s).sat x) : ∃ xs : List α, x = .isl sz bw (xs.map f) := by
  obtain ⟨es, rfl, he⟩ := h
  obtain ⟨xs, rfl⟩ := list_map hs he
  exact ⟨xs, rfl⟩
theorem sat_nop {x : AV} (h : shNOp.sat x) : ∃ o : NOp, x = o.av := by
  obtain ⟨u, v, w, rfl, h1, h2, ⟨m, _, rfl⟩⟩ := sat_st3 h
  obtain ⟨xs, rfl⟩ := sat_sl (f := Cmp.av) (fun _ => sat_cmp) h1
  obtain ⟨ys, rfl⟩ := sat_sl (f := Chg.av) (fun _ => sat_chg) h2
  exact ⟨⟨xs, ys, m⟩, rfl⟩
theorem sat_nt {x : AV} (h : shNT.sat x) : ∃ t : NT, x = t.av := by
  obtain ⟨u, v, w, rfl, h1, h2, h3⟩ := sat_st3 h
  obtain ⟨is, rfl⟩ := sat_ints h1
  obtain ⟨gs, rfl⟩ := sat_sl (f := Cmp.av) (fun _ => sat_cmp) h2
  obtain ⟨os, rfl⟩ := sat_sl (f := NOp.av) (fun _ => sat_nop) h3
  exact ⟨⟨is, gs, os⟩, rfl⟩
theorem satL_cons {s : Sh} {r : List Sh} {xs : List AV} (h : Sh.satL (s :: r) xs) : ∃ x q, xs = x :: q ∧ s.sat x ∧ Sh.satL r q := by
  cases xs with
  | nil => exact h.elim
  | cons x q => exact ⟨x, q, rfl, h.1, h.2⟩
theorem satL_nil {xs : List AV} (h : Sh.satL [] xs) : xs = [] := by
  cases xs with
  | nil => rfl
  | cons x q => exact h.elim
theorem sat_int {x : AV} (h : Sh.int.sat x) : ∃ n : Int, (-9223372036854775808 ≤ n ∧ n ≤ 9223372036854775807) ∧ x = .int n := h
theorem own_try : ownKnob Try.prog.godebug = none := by kernel_rfl
theorem laid_try : laidOutB Try.prog = true := by kernel_rfl
end Go.Proofs.Ytjefjhcaicohjaa
