/- For every input the law CompileProductsAddUp returns true and leaves its arguments as they were. No condition. -/
import Derived.Test.YthndlimdehfneaaPdl
import Derived.Test.YthndlimdehfneaaCosh
namespace Go.Proofs.Ythndlimdehfneaa
open Go.Ab
open Go
set_option maxRecDepth 10000
attribute [local irreducible] PV AOp AOps AW PCall OCall Ab.Fin OFin RV RV1 Le AStk AGrd ADr ADx ADo AOpX AAny
theorem compileProductsAddUp_law (xs : List AV) (h : Sh.satL [shTask, shTask, shInts, shInts] xs) : PCall Try.prog 12 xs (fun r => r = .bool true) := by
  obtain ⟨a0, xs, rfl, h0, h⟩ := satL_cons h
  obtain ⟨a1, xs, rfl, h1, h⟩ := satL_cons h
  obtain ⟨a2, xs, rfl, h2, h⟩ := satL_cons h
  obtain ⟨a3, xs, rfl, h3, h⟩ := satL_cons h
  obtain rfl := satL_nil h
  obtain ⟨a, rfl⟩ := sat_task h0
  obtain ⟨b, rfl⟩ := sat_task h1
  obtain ⟨x, rfl⟩ := sat_ints h2
  obtain ⟨y, rfl⟩ := sat_ints h3
  exact productsLaw_pc a b x y
set_option maxRecDepth 100000 in
theorem compileProductsAddUp_lifted (os : Os) (started : os.Started) (H : Type) (enc : TypeId × Value → H) :
    ReturnsInHanded {} Try.checked os 12 .any (Rows.compileProductsAddUpSpec.pre6 enc Try.prog Try.f12 Rows.compileProductsAddUpRow.domain false) (Rows.compileProductsAddUpSpec.post enc Try.prog Try.f12 false true false false) := by
  refine returnsInHanded_of_change_sized (C := Try.checked) own_try started (by kernel_rfl) Try.func12
    (ChangeSpec.witness6 (enc := enc) (C := Try.checked) false ⟨#[], #[.agg #[.int .i64 0, .slice none 0 0, .slice none 0 0, .slice none 0 0], .agg #[.int .i64 0, .slice none 0 0, .slice none 0 0, .slice none 0 0], .slice none 0 0, .slice none 0 0], []⟩ 8 (by kernel_rfl) (by kernel_rfl) (by kernel_rfl) (by kernel_rfl)) ?_
  intro W base args ds gs before hval hW _ hsz _
  exact law_calls (shs := [shTask, shTask, shInts, shInts]) (tb := 4) laid_try (by kernel_rfl) Try.underlying4 (by kernel_rfl) rfl (fun ds h => by
    match ds, h with
    | [_, _, _, _], _ => rfl) compileProductsAddUp_law hval hW hsz
theorem compileProductsAddUp_holds : Rows.CompileProductsAddUpSaid :=
  OpenClaim.holds_of_wide 12 Try.f12 rfl rfl rfl rfl rfl rfl rfl ⟨rfl, rfl, rfl, rfl, rfl⟩ rfl rfl rfl rfl rfl (by kernel_rfl) Try.func12 (by kernel_rfl)
    (of_decide_eq_true (by kernel_rfl)) (by unfold Func.isWrapper; first | (rw [if_pos (by decide +kernel)]; kernel_rfl) | (rw [if_neg (by decide +kernel)]; exact ⟨rfl, rfl⟩))
    (fun os started H enc _ => compileProductsAddUp_lifted os started H enc)
end Go.Proofs.Ythndlimdehfneaa
