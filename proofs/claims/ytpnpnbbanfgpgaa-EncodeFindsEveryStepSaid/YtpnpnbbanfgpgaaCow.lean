import Derived.Test.YtpnpnbbanfgpgaaCov



namespace Go.Proofs.Ytpnpnbbanfgpgaa
open Go.Ab
open Go
set_option linter.unusedSimpArgs false
set_option linter.unusedVariables false
set_option maxRecDepth 10000
attribute [local irreducible] PV AOp AOps AW PCall OCall MCall WCall HCall Ab.Fin OFin OFin2 MFin HFin RV RV1 Le AStk AGrd ADr ADx ADo AOpX AAny
set_option maxHeartbeats 4000000
/-! the reference's classes -/
theorem covF_len2 : ∀ (l : List (List Int)) (p : List (List Int) × List Int), (∀ x ∈ l, x.length ≤ 1000) → (l.foldl covStep p).2.length ≤ p.2.length + 1000 * l.length
  | [], p, _ => by simp
  | x :: r, p, hx => by
    have h := covF_len2 r (covStep p x) fun y hy => hx y (by simp [hy])
    have h1 := hx x (by simp)
    have h3 := List.length_filter_le (fun y => !hasB p.2 y) x
    have h2 : (covStep p x).2.length ≤ p.2.length + 1000 := by
      unfold covStep
      split
      · omega
      · simp only [List.length_append]; unfold notIn; omega
    rw [List.foldl_cons, List.length_cons]
    omega
theorem coverT_app (n : Nat) (ls : List (List Int)) : coverT n ls = ((ls ++ singles n).foldl covStep ([], [])).1 := by rw [coverT, List.foldl_append]
theorem app_getL {ls : List (List Int)} {n k : Nat} (h : k < ls.length) (h2 : k < (ls ++ singles n).length) : (ls ++ singles n)[k] = ls[k] := List.getElem_append_left h
theorem app_getR {ls : List (List Int)} {n k : Nat} (h : ¬ k < ls.length) (h2 : k < (ls ++ singles n).length) : (ls ++ singles n)[k] = [(k : Int) - ls.length] := by
  rw [List.getElem_append_right (by omega), singles_get]
  rw [List.length_append, singles_len] at h2
  simp; omega
@[local go_sem] theorem purge_app (id : Nat) (a b : List AV) : AV.purgeL id (a ++ b) = AV.purgeL id a ++ AV.purgeL id b := purgeL_append id a b
@[local go_sem] theorem cells_intsW (xs : List Int) : (xs.map AV.int).flatMap AV.cells = xs.map AV.int := flat_ints xs
@[local go_sem] theorem cast_1 : ((1 : Nat) : Int) = 1 := rfl
@[local go_sem] theorem cast_0 : ((0 : Nat) : Int) = 0 := rfl
end Go.Proofs.Ytpnpnbbanfgpgaa
