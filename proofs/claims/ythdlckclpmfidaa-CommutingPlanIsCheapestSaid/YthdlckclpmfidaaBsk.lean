/- Plans as the program has them: no program in sight. -/
import Derived.Test.YthdlckclpmfidaaBst
namespace Go.Proofs.Ythdlckclpmfidaa
open Go.Ab
open Go
set_option linter.unusedSimpArgs false
set_option linter.unusedVariables false
def natP (plan : List Int) : List Nat := plan.map Int.toNat
def worksB (t : Task) (s : List Int) (plan : List Nat) : Bool := match endsT t s plan with
  | some e => subB t.goal e
  | none => false
theorem worksB_iff {t : Task} {s : List Int} {plan : List Nat} : worksB t s plan = true ↔ WorksT t s plan := by
  unfold worksB WorksT
  cases endsT t s plan with
  | none => simp
  | some e => simp
theorem worksB_eq {t u : Task} {s : List Int} {p q : List Nat} (h : WorksT t s p ↔ WorksT u s q) : worksB t s p = worksB u s q := by
  rw [Bool.eq_iff_iff, worksB_iff, worksB_iff]; exact h
/-! costs of plans -/
theorem cost_bound {t : Task} (hw : WfT t) : ∀ (plan : List Nat), 0 ≤ costT t plan ∧ costT t plan ≤ 100 * plan.length
  | [] => by simp [costT]
  | j :: r => by
    have ih := cost_bound hw r
    rw [costT, List.length_cons]
    cases hj : t.ops[j]? with
    | none => simp only; omega
    | some o =>
      have := (hw.ops o (List.mem_of_getElem? hj)).2
      simp only; omega
theorem natP_take {plan : List Int} {k : Nat} (h : k < plan.length) : natP (plan.take (k + 1)) = natP (plan.take k) ++ [plan[k].toNat] := by
  unfold natP; rw [List.take_succ_eq_append_getElem h, List.map_append]; rfl
theorem cost_step {t : Task} {plan : List Int} {k : Nat} (h : k < plan.length) (hx : 0 ≤ plan[k] ∧ plan[k] < t.ops.length) : costT t (natP (plan.take (k + 1))) = costT t (natP (plan.take k)) + (t.ops[plan[k].toNat]'(by omega)).cost := by
  have hl : plan[k].toNat < t.ops.length := by omega
  rw [natP_take h, cost_app, costT, costT, List.getElem?_eq_getElem hl]
  simp
end Go.Proofs.Ythdlckclpmfidaa
