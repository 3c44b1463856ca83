/- For every input the law TrajectoryDuality returns true and leaves its arguments as they were. No condition. -/
import Derived.Test.YtanogjooppnihaaFmd
import Derived.Test.YtanogjooppnihaaCosf
namespace Go.Proofs.Ytanogjooppnihaa
open Go.Ab
open Go
set_option maxRecDepth 10000
attribute [local irreducible] PV AOp AOps AW PCall OCall Ab.Fin OFin RV RV1 Le AStk AGrd ADr ADx ADo AOpX AAny
theorem trajectoryDuality_law (xs : List AV) (h : Sh.satL [shForm, .int, shRows] xs) : PCall Try.prog 6 xs (fun r => r = .bool true) := by
  obtain ⟨a0, xs, rfl, h0, h⟩ := satL_cons h
  obtain ⟨a1, xs, rfl, h1, h⟩ := satL_cons h
  obtain ⟨a2, xs, rfl, h2, h⟩ := satL_cons h
  obtain rfl := satL_nil h
  obtain ⟨l, wl, rfl⟩ := sat_form h0
  obtain ⟨facts, wfacts, rfl⟩ := sat_int h1
  obtain ⟨ss, rfl⟩ := sat_rows h2
  exact dualLaw_pc l facts ss wl
set_option maxRecDepth 100000 in
theorem trajectoryDuality_lifted (os : Os) (started : os.Started) (H : Type) (enc : TypeId × Value → H) :
    ReturnsInHanded {} Try.checked os 6 .any (Rows.trajectoryDualitySpec.pre6 enc Try.prog Try.f6 Rows.trajectoryDualityRow.domain false) (Rows.trajectoryDualitySpec.post enc Try.prog Try.f6 false true false false) := by
  refine returnsInHanded_of_change_sized (C := Try.checked) own_try started (by kernel_rfl) Try.func6
    (ChangeSpec.witness6 (enc := enc) (C := Try.checked) false ⟨#[], #[.agg #[.slice none 0 0], .int .i64 0, .slice none 0 0], []⟩ 8 (by kernel_rfl) (by kernel_rfl) (by kernel_rfl) (by kernel_rfl)) ?_
  intro W base args ds gs before hval hW _ hsz _
  exact law_calls (shs := [shForm, .int, shRows]) (tb := 4) laid_try (by kernel_rfl) Try.underlying4 (by kernel_rfl) rfl (fun ds h => by
    match ds, h with
    | [_, _, _], _ => rfl) trajectoryDuality_law hval hW hsz
theorem trajectoryDuality_holds : Rows.TrajectoryDualitySaid :=
  OpenClaim.holds_of_wide 6 Try.f6 rfl rfl rfl rfl rfl rfl rfl ⟨rfl, rfl, rfl, rfl, rfl⟩ rfl rfl rfl rfl rfl (by kernel_rfl) Try.func6 (by kernel_rfl)
    (of_decide_eq_true (by kernel_rfl)) (by unfold Func.isWrapper; first | (rw [if_pos (by decide +kernel)]; kernel_rfl) | (rw [if_neg (by decide +kernel)]; exact ⟨rfl, rfl⟩))
    (fun os started H enc _ => trajectoryDuality_lifted os started H enc)
end Go.Proofs.Ytanogjooppnihaa
