import Derived.Test.YthndlimdehfneaaComy



namespace Go.Proofs.Ythndlimdehfneaa
open Go.Ab
open Go
set_option linter.unusedSimpArgs false
set_option linter.unusedVariables false
set_option maxRecDepth 10000
attribute [local irreducible] PV AOp AOps AW PCall OCall MCall Ab.Fin OFin OFin2 MFin RV RV1 Le AStk AGrd ADr ADx ADo AOpX AAny
set_option maxHeartbeats 2000000
/-! the reference of Require -/
def reqT (t : Task) (i : Nat) : Task := ⟨t.facts + 1, t.init, t.goal ++ [t.facts], setAdd t.ops i (t.ops[i]!.add ++ [t.facts])⟩
theorem set_lt {xs : List Int} {n : Int} (h : isSet xs n = true) : ∀ x ∈ xs, x < n := fun x hx => ((isSet_iff.1 h).1 x hx).2
end Go.Proofs.Ythndlimdehfneaa
