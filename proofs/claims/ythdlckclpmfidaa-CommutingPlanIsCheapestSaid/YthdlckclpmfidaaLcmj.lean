/- For every input the law CommutingPlanIsCheapest returns true and leaves its arguments as they were. No condition. -/
import Derived.Test.YthdlckclpmfidaaCmj
import Derived.Test.YthdlckclpmfidaaCosh
namespace Go.Proofs.Ythdlckclpmfidaa
open Go.Ab
open Go
set_option maxRecDepth 10000
attribute [local irreducible] PV AOp AOps AW PCall OCall Ab.Fin OFin RV RV1 Le AStk AGrd ADr ADx ADo AOpX AAny
theorem commutingPlanIsCheapest_law (xs : List AV) (h : Sh.satL [shTask] xs) : PCall Try.prog 4 xs (fun r => r = .bool true) := by
  obtain ⟨a0, xs, rfl, h0, h⟩ := satL_cons h
  obtain rfl := satL_nil h
  obtain ⟨t, rfl⟩ := sat_task h0
  exact cheapC_pc t
set_option maxRecDepth 100000 in
theorem commutingPlanIsCheapest_lifted (os : Os) (started : os.Started) (H : Type) (enc : TypeId × Value → H) :
    ReturnsInHanded {} Try.checked os 4 .any (Rows.commutingPlanIsCheapestSpec.pre6 enc Try.prog Try.f4 Rows.commutingPlanIsCheapestRow.domain false) (Rows.commutingPlanIsCheapestSpec.post enc Try.prog Try.f4 false true false false) := by
  refine returnsInHanded_of_change_sized (C := Try.checked) own_try started (by kernel_rfl) Try.func4
    (ChangeSpec.witness6 (enc := enc) (C := Try.checked) false ⟨#[], #[.agg #[.int .i64 0, .slice none 0 0, .slice none 0 0, .slice none 0 0]], []⟩ 8 (by kernel_rfl) (by kernel_rfl) (by kernel_rfl) (by kernel_rfl)) ?_
  intro W base args ds gs before hval hW _ hsz _
  exact law_calls (shs := [shTask]) (tb := 4) laid_try (by kernel_rfl) Try.underlying4 (by kernel_rfl) rfl (fun ds h => by
    match ds, h with
    | [_], _ => rfl) commutingPlanIsCheapest_law hval hW hsz
theorem commutingPlanIsCheapest_holds : Rows.CommutingPlanIsCheapestSaid :=
  OpenClaim.holds_of_wide 4 Try.f4 rfl rfl rfl rfl rfl rfl rfl ⟨rfl, rfl, rfl, rfl, rfl⟩ rfl rfl rfl rfl rfl (by kernel_rfl) Try.func4 (by kernel_rfl)
    (of_decide_eq_true (by kernel_rfl)) (by unfold Func.isWrapper; first | (rw [if_pos (by decide +kernel)]; kernel_rfl) | (rw [if_neg (by decide +kernel)]; exact ⟨rfl, rfl⟩))
    (fun os started H enc _ => commutingPlanIsCheapest_lifted os started H enc)
end Go.Proofs.Ythdlckclpmfidaa
