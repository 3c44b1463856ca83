/- The shapes of the laws' arguments that are multi-valued tasks. -/
import Derived.Test.YtokmhfjledbglaaCosh
import Derived.Test.YtokmhfjledbglaaMua
namespace Go.Proofs.Ytokmhfjledbglaa
open Go.Ab
open Go
abbrev shAsg : Sh := .st [.int, .int]
abbrev shAsgs : Sh := .sl 2 16 shAsg
abbrev shMOp : Sh := .st [shAsgs, shAsgs, .int]
abbrev shMulti : Sh := .st [shInts, shInts, shAsgs, .sl 3 56 shMOp]
theorem sat_st2 {a b : Sh} {x : AV} (h : (Sh.st [a, b]).sat x) : ∃ u v, x = .agg [u, v] ∧ a.sat u ∧ b.sat v := by
  obtain ⟨cs, rfl, hc⟩ := h
  match cs, hc with
  | [u, v], ⟨h1, h2, _⟩ => exact ⟨u, v, rfl, h1, h2⟩
theorem sat_st3 {a b c : Sh} {x : AV} (h : (Sh.st [a, b, c]).sat x) : ∃ u v w, x = .agg [u, v, w] ∧ a.sat u ∧ b.sat v ∧ c.sat w := by
  obtain ⟨cs, rfl, hc⟩ := h
  match cs, hc with
  | [u, v, w], ⟨h1, h2, h3, _⟩ => exact ⟨u, v, w, rfl, h1, h2, h3⟩
theorem sat_asg {x : AV} (h : shAsg.sat x) : ∃ p : Int × Int, x = asg p := by
  obtain ⟨u, v, rfl, ⟨a, _, rfl⟩, ⟨b, _, rfl⟩⟩ := sat_st2 h
  exact ⟨(a, b), rfl⟩
theorem sat_asgs {x : AV} (h : shAsgs.sat x) : ∃ l : List (Int × Int), x = asgs l := sat_sl (f := asg) (fun _ => sat_asg) h
theorem sat_mop {x : AV} (h : shMOp.sat x) : ∃ o : MOp, x = o.av := by
  obtain ⟨u, v, w, rfl, h1, h2, ⟨c, _, rfl⟩⟩ := sat_st3 h
  obtain ⟨p, rfl⟩ := sat_asgs h1
  obtain ⟨q, rfl⟩ := sat_asgs h2
  exact ⟨⟨p, q, c⟩, rfl⟩
theorem sat_multi {x : AV} (h : shMulti.sat x) : ∃ m : MTask, x = m.av := by
  obtain ⟨u, v, w, z, rfl, h1, h2, h3, h4⟩ := sat_st4 h
  obtain ⟨ss, rfl⟩ := sat_ints h1
  obtain ⟨is, rfl⟩ := sat_ints h2
  obtain ⟨gs, rfl⟩ := sat_asgs h3
  obtain ⟨os, rfl⟩ := sat_sl (f := MOp.av) (fun _ => sat_mop) h4
  exact ⟨⟨ss, is, gs, os⟩, rfl⟩
end Go.Proofs.Ytokmhfjledbglaa
