/- For every input the law TrajectoryProgressMatchesSpec returns true and leaves its arguments as they were. No condition. -/
import Derived.Test.YtanogjooppnihaaFmr
import Derived.Test.YtanogjooppnihaaCosf
namespace Go.Proofs.Ytanogjooppnihaa
open Go.Ab
open Go
set_option maxRecDepth 10000
attribute [local irreducible] PV AOp AOps AW PCall OCall Ab.Fin OFin RV RV1 Le AStk AGrd ADr ADx ADo AOpX AAny
theorem trajectoryProgressMatchesSpec_law (xs : List AV) (h : Sh.satL [shForm, .int, shInts] xs) : PCall Try.prog 5 xs (fun r => r = .bool true) := by
  obtain ⟨a0, xs, rfl, h0, h⟩ := satL_cons h
  obtain ⟨a1, xs, rfl, h1, h⟩ := satL_cons h
  obtain ⟨a2, xs, rfl, h2, h⟩ := satL_cons h
  obtain rfl := satL_nil h
  obtain ⟨l, wl, rfl⟩ := sat_form h0
  obtain ⟨facts, wfacts, rfl⟩ := sat_int h1
  obtain ⟨s, rfl⟩ := sat_ints h2
  exact progMatchLaw_pc l facts s wl
set_option maxRecDepth 100000 in
theorem trajectoryProgressMatchesSpec_lifted (os : Os) (started : os.Started) (H : Type) (enc : TypeId × Value → H) :
    ReturnsInHanded {} Try.checked os 5 .any (Rows.trajectoryProgressMatchesSpecSpec.pre6 enc Try.prog Try.f5 Rows.trajectoryProgressMatchesSpecRow.domain false) (Rows.trajectoryProgressMatchesSpecSpec.post enc Try.prog Try.f5 false true false false) := by
  refine returnsInHanded_of_change_sized (C := Try.checked) own_try started (by kernel_rfl) Try.func5
    (ChangeSpec.witness6 (enc := enc) (C := Try.checked) false ⟨#[], #[.agg #[.slice none 0 0], .int .i64 0, .slice none 0 0], []⟩ 8 (by kernel_rfl) (by kernel_rfl) (by kernel_rfl) (by kernel_rfl)) ?_
  intro W base args ds gs before hval hW _ hsz _
  exact law_calls (shs := [shForm, .int, shInts]) (tb := 4) laid_try (by kernel_rfl) Try.underlying4 (by kernel_rfl) rfl (fun ds h => by
    match ds, h with
    | [_, _, _], _ => rfl) trajectoryProgressMatchesSpec_law hval hW hsz
theorem trajectoryProgressMatchesSpec_holds : Rows.TrajectoryProgressMatchesSpecSaid :=
  OpenClaim.holds_of_wide 5 Try.f5 rfl rfl rfl rfl rfl rfl rfl ⟨rfl, rfl, rfl, rfl, rfl⟩ rfl rfl rfl rfl rfl (by kernel_rfl) Try.func5 (by kernel_rfl)
    (of_decide_eq_true (by kernel_rfl)) (by unfold Func.isWrapper; first | (rw [if_pos (by decide +kernel)]; kernel_rfl) | (rw [if_neg (by decide +kernel)]; exact ⟨rfl, rfl⟩))
    (fun os started H enc _ => trajectoryProgressMatchesSpec_lifted os started H enc)
end Go.Proofs.Ytanogjooppnihaa
