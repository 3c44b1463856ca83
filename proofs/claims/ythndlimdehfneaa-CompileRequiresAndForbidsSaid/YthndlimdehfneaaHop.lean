/- An operator's number, in or out of its range: no program in sight. -/
import Derived.Test.YthndlimdehfneaaCoq
namespace Go.Proofs.Ythndlimdehfneaa
open Go.Ab
open Go
theorem hop_cases {t : Task} {op : Int} (hf : taskFault t = (0, 0)) : ((op < 0 ∨ (t.ops.length : Int) ≤ op) ∧ forbidOf t op = (zeroT, (3, -6)) ∧ requireOf t op = (zeroT, (3, -6))) ∨ (∃ i : Nat, op = i ∧ i < t.ops.length ∧ t.facts = 24 ∧ forbidOf t op = (forbidT t i, (0, 0)) ∧ requireOf t op = (zeroT, (10, -8))) ∨
        (∃ i : Nat, op = i ∧ i < t.ops.length ∧ t.facts ≠ 24 ∧ forbidOf t op = (forbidT t i, (0, 0)) ∧ requireOf t op = (reqT t i, (0, 0))) := by
  have wt := taskFault_ok.1 hf
  have h40 := wt.n40
  by_cases ho : op < 0 ∨ (t.ops.length : Int) ≤ op
  · have hw := withOp_out hf ho
    exact .inl ⟨ho, by rw [forbidOf, hw, if_pos (by simp)], by rw [requireOf, hw, if_pos (by simp)]⟩
  · have hw := withOp_in hf ho
    obtain ⟨i, rfl⟩ := Int.eq_ofNat_of_zero_le (show 0 ≤ op by omega)
    by_cases h24 : t.facts = 24
    · exact .inr (.inl ⟨i, rfl, by omega, h24, by rw [forbidOf, hw, if_neg (by simp)]; rfl, by rw [requireOf, hw, if_neg (by simp), if_pos h24]⟩)
    · exact .inr (.inr ⟨i, rfl, by omega, h24, by rw [forbidOf, hw, if_neg (by simp)]; rfl, by rw [requireOf, hw, if_neg (by simp), if_neg h24]; rfl⟩)
end Go.Proofs.Ythndlimdehfneaa
