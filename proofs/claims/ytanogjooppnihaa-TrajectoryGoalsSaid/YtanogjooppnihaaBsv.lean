import Derived.Test.YtanogjooppnihaaBst



namespace Go.Proofs.Ytanogjooppnihaa
open Go.Ab
open Go
set_option linter.unusedSimpArgs false
set_option linter.unusedVariables false
set_option maxRecDepth 10000
attribute [local irreducible] PV AOp AOps AW PCall OCall MCall Ab.Fin OFin OFin2 MFin RV RV1 Le AStk AGrd ADr ADx ADo AOpX AAny
set_option maxHeartbeats 2000000
/-! one step -/
theorem aftK_len {o : Op} {s : List Int} {k : Nat} : (aftK o s k).length ≤ k := by
  unfold aftK
  have := List.length_filter_le (aftB o s) (upTo k)
  simp only [upTo, List.length_map, List.length_range] at this
  exact this
/-! a set as a number -/
theorem wsum_take {xs : List Int} {k : Nat} (h : k < xs.length) : wsum (xs.take (k + 1)) = wsum (xs.take k) + 2 ^ xs[k].toNat := by
  rw [List.take_succ_eq_append_getElem h, wsum_app]; simp [wsum]
theorem wsum_bd {xs : List Int} {n : Int} (h : isSet xs n = true) (hn : n ≤ 24) : wsum xs < 2 ^ 24 := by
  have := isSet_iff.1 h
  exact wsum_lt this.2 fun x hx => by have := this.1 x hx; omega
theorem wsum_take_le {xs : List Int} : ∀ (k : Nat), wsum (xs.take k) ≤ wsum xs := fun k => by
  have h := wsum_app (xs.take k) (xs.drop k)
  rw [List.take_append_drop] at h
  omega
end Go.Proofs.Ytanogjooppnihaa
