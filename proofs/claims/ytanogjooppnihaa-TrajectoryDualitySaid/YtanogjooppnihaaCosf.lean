/- The shapes of the laws' arguments that are formulas. -/
import Derived.Test.YtanogjooppnihaaCosh
import Derived.Test.YtanogjooppnihaaFms
namespace Go.Proofs.Ytanogjooppnihaa
open Go.Ab
open Go
abbrev shRows : Sh := .sl 1 24 shInts
theorem sat_rows {x : AV} (h : shRows.sat x) : ∃ ls : List (List Int), x = .isl 1 24 (ls.map ints) := sat_sl (f := fun x => ints x) (fun _ => sat_ints) h
abbrev shNode : Sh := .st [.int, shInts, .int]
abbrev shForm : Sh := .st [.sl 3 40 shNode]
theorem sat_st3 {a b c : Sh} {x : AV} (h : (Sh.st [a, b, c]).sat x) : ∃ u v w, x = .agg [u, v, w] ∧ a.sat u ∧ b.sat v ∧ c.sat w := by
  obtain ⟨cs, rfl, hc⟩ := h
  match cs, hc with
  | [u, v, w], ⟨h1, h2, h3, _⟩ => exact ⟨u, v, w, rfl, h1, h2, h3⟩
theorem sat_st1 {a : Sh} {x : AV} (h : (Sh.st [a]).sat x) : ∃ u, x = .agg [u] ∧ a.sat u := by
  obtain ⟨cs, rfl, hc⟩ := h
  match cs, hc with
  | [u], ⟨h1, _⟩ => exact ⟨u, rfl, h1⟩
theorem sat_intsB {x : AV} (h : shInts.sat x) : ∃ xs : List Int, (∀ c ∈ xs, c ≤ 9223372036854775807) ∧ x = ints xs := by
  obtain ⟨es, rfl, he⟩ := h
  obtain ⟨xs, rfl⟩ := list_map (f := AV.int) (fun x ⟨n, _, hn⟩ => ⟨n, hn⟩) he
  refine ⟨xs, fun c hc => ?_, rfl⟩
  obtain ⟨n, hn, hx⟩ := he (AV.int c) (List.mem_map.2 ⟨c, hc, rfl⟩)
  injection hx with hx
  injection hx with _ hx
  rw [hx]
  exact hn.2
theorem sat_node {x : AV} (h : shNode.sat x) : ∃ n : FNode, (∀ c ∈ n.kids, c ≤ 9223372036854775807) ∧ x = n.av := by
  obtain ⟨u, v, w, rfl, ⟨a, _, rfl⟩, h2, ⟨c, _, rfl⟩⟩ := sat_st3 h
  obtain ⟨xs, hx, rfl⟩ := sat_intsB h2
  exact ⟨⟨a, xs, c⟩, hx, rfl⟩
theorem nodes_map : ∀ {es : List AV}, (∀ e ∈ es, shNode.sat e) → ∃ l : List FNode, (∀ n ∈ l, ∀ c ∈ n.kids, c ≤ 9223372036854775807) ∧ es = l.map FNode.av
  | [], _ => ⟨[], by simp, rfl⟩
  | e :: es, hs => by
    obtain ⟨a, ha, rfl⟩ := sat_node (hs e (by simp))
    obtain ⟨xs, hx, rfl⟩ := nodes_map (es := es) (fun e he => hs e (by simp [he]))
    refine ⟨a :: xs, fun n hn => ?_, rfl⟩
    rcases List.mem_cons.1 hn with rfl | hn
    · exact ha
    · exact hx n hn
theorem sat_form {x : AV} (h : shForm.sat x) : ∃ l : List FNode, (∀ n ∈ l, ∀ c ∈ n.kids, c ≤ 9223372036854775807) ∧ x = formA l := by
  obtain ⟨u, rfl, es, rfl, he⟩ := sat_st1 h
  obtain ⟨l, hl, rfl⟩ := nodes_map he
  exact ⟨l, hl, rfl⟩
end Go.Proofs.Ytanogjooppnihaa
