/- For every input the law CommutingSuffices returns true and leaves its arguments as they were. No condition. -/
import Derived.Test.YthdlckclpmfidaaCmg
import Derived.Test.YthdlckclpmfidaaCosh
namespace Go.Proofs.Ythdlckclpmfidaa
open Go.Ab
open Go
set_option maxRecDepth 10000
attribute [local irreducible] PV AOp AOps AW PCall OCall Ab.Fin OFin RV RV1 Le AStk AGrd ADr ADx ADo AOpX AAny
theorem commutingSuffices_law (xs : List AV) (h : Sh.satL [shTask, shInts] xs) : PCall Try.prog 6 xs (fun r => r = .bool true) := by
  obtain ⟨a0, xs, rfl, h0, h⟩ := satL_cons h
  obtain ⟨a1, xs, rfl, h1, h⟩ := satL_cons h
  obtain rfl := satL_nil h
  obtain ⟨t, rfl⟩ := sat_task h0
  obtain ⟨s, rfl⟩ := sat_ints h1
  exact sufC_pc t s
set_option maxRecDepth 100000 in
theorem commutingSuffices_lifted (os : Os) (started : os.Started) (H : Type) (enc : TypeId × Value → H) :
    ReturnsInHanded {} Try.checked os 6 .any (Rows.commutingSufficesSpec.pre6 enc Try.prog Try.f6 Rows.commutingSufficesRow.domain false) (Rows.commutingSufficesSpec.post enc Try.prog Try.f6 false true false false) := by
  refine returnsInHanded_of_change_sized (C := Try.checked) own_try started (by kernel_rfl) Try.func6
    (ChangeSpec.witness6 (enc := enc) (C := Try.checked) false ⟨#[], #[.agg #[.int .i64 0, .slice none 0 0, .slice none 0 0, .slice none 0 0], .slice none 0 0], []⟩ 8 (by kernel_rfl) (by kernel_rfl) (by kernel_rfl) (by kernel_rfl)) ?_
  intro W base args ds gs before hval hW _ hsz _
  exact law_calls (shs := [shTask, shInts]) (tb := 4) laid_try (by kernel_rfl) Try.underlying4 (by kernel_rfl) rfl (fun ds h => by
    match ds, h with
    | [_, _], _ => rfl) commutingSuffices_law hval hW hsz
theorem commutingSuffices_holds : Rows.CommutingSufficesSaid :=
  OpenClaim.holds_of_wide 6 Try.f6 rfl rfl rfl rfl rfl rfl rfl ⟨rfl, rfl, rfl, rfl, rfl⟩ rfl rfl rfl rfl rfl (by kernel_rfl) Try.func6 (by kernel_rfl)
    (of_decide_eq_true (by kernel_rfl)) (by unfold Func.isWrapper; first | (rw [if_pos (by decide +kernel)]; kernel_rfl) | (rw [if_neg (by decide +kernel)]; exact ⟨rfl, rfl⟩))
    (fun os started H enc _ => commutingSuffices_lifted os started H enc)
end Go.Proofs.Ythdlckclpmfidaa
