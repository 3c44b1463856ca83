/-
  No cell of these rows narrows 'for every input' (looked for: loops, veiled, ifaces, maps, wideKeys, modest, calm, conditions, laid).
  DERIVED. THE GIVEN ROWS OF THIS SEAT. 5 by the template 'for every input the law returns true; each argument reads behind the call as it read before'; 0 by the template 'total and deterministic' (their statements: YtanogjooppnihaaTotals.lean).
  GIVEN WITH THE SEED: the statements are not yours to turn. If you find one false, say at which input.
  Laid BY PROGRAM, IN A SANDBOX (cutbox-rows.mjs): the forced cells as the released guide's own fill.sh prints them over the translation cbd29fe109f0760f… (all of the seat's roots in one cut). By AI agents, Wed Nov 11 2026. No macro, syntax, notation, axiom, sorry.
-/
import Derived.Test.YtanogjooppnihaaChecked
import GoSem.Claim
import GoSem.ClaimJoined
import GoSem.ClaimMapViews
import Derived.JoinedTies
import Derived.KernelRfl
namespace Go.Proofs.Ytanogjooppnihaa
/- THE CELL 'sum', in the pinned program and in every row, IS THE sha256 OF THE DUMP (.gsa) THAT YtanogjooppnihaaProg.lean LOADS. Nothing in Lean hashes anything: it is a label: what it is worth is what the hold of that sum in a sandbox is worth. -/
noncomputable def Try.pinned : Pinned := { name := "ytanogjooppnihaa", sum := "cbd29fe109f0760febc26852bff1804452b8bd50912b2ff7dbed71817efe03be", checked := Try.checked }
namespace Rows
def none {H : Type} : Left H := { results := [], args := [] }

/-- 'helmsmanlaw2.TrajectoryMatchesSpec': WHATEVER THE INPUT: true; the input reads as it did. -/
def trajectoryMatchesSpecSpec : ChangeSpec := { name := "trajectoryMatchesSpec", fn := fun _ => fun
  | [d1, d2, d3] => { results := [.lit (.bool true)], args := [d1, d2, d3] }
  | _ => none }
def trajectoryMatchesSpecRow : OpenClaim := { program := "ytanogjooppnihaa", sum := "cbd29fe109f0760febc26852bff1804452b8bd50912b2ff7dbed71817efe03be", func := "helmsman/helmsmanlaw2.TrajectoryMatchesSpec", spec := "trajectoryMatchesSpec", unfollowed := true, recurses := true, apart := false }
def TrajectoryMatchesSpecSaid : Prop := trajectoryMatchesSpecRow.holds Try.pinned (OpenSpec.ofChange trajectoryMatchesSpecSpec)

/-- ITS FALSE NEIGHBOUR: 'it returns false'. Refute it at one input. -/
def trajectoryMatchesSpecWrong : ChangeSpec := { name := "trajectoryMatchesSpec", fn := fun _ => fun
  | [d1, d2, d3] => { results := [.lit (.bool false)], args := [d1, d2, d3] }
  | _ => none }
def TrajectoryMatchesSpecWrongFalsely : Prop := trajectoryMatchesSpecRow.holds Try.pinned (OpenSpec.ofChange trajectoryMatchesSpecWrong)

/-- 'helmsmanlaw2.TrajectoryProgresses': WHATEVER THE INPUT: true; the input reads as it did. -/
def trajectoryProgressesSpec : ChangeSpec := { name := "trajectoryProgresses", fn := fun _ => fun
  | [d1, d2, d3] => { results := [.lit (.bool true)], args := [d1, d2, d3] }
  | _ => none }
def trajectoryProgressesRow : OpenClaim := { program := "ytanogjooppnihaa", sum := "cbd29fe109f0760febc26852bff1804452b8bd50912b2ff7dbed71817efe03be", func := "helmsman/helmsmanlaw2.TrajectoryProgresses", spec := "trajectoryProgresses", unfollowed := true, recurses := true, apart := false }
def TrajectoryProgressesSaid : Prop := trajectoryProgressesRow.holds Try.pinned (OpenSpec.ofChange trajectoryProgressesSpec)

/-- ITS FALSE NEIGHBOUR: 'it returns false'. Refute it at one input. -/
def trajectoryProgressesWrong : ChangeSpec := { name := "trajectoryProgresses", fn := fun _ => fun
  | [d1, d2, d3] => { results := [.lit (.bool false)], args := [d1, d2, d3] }
  | _ => none }
def TrajectoryProgressesWrongFalsely : Prop := trajectoryProgressesRow.holds Try.pinned (OpenSpec.ofChange trajectoryProgressesWrong)

/-- 'helmsmanlaw2.TrajectoryProgressMatchesSpec': WHATEVER THE INPUT: true; the input reads as it did. -/
def trajectoryProgressMatchesSpecSpec : ChangeSpec := { name := "trajectoryProgressMatchesSpec", fn := fun _ => fun
  | [d1, d2, d3] => { results := [.lit (.bool true)], args := [d1, d2, d3] }
  | _ => none }
def trajectoryProgressMatchesSpecRow : OpenClaim := { program := "ytanogjooppnihaa", sum := "cbd29fe109f0760febc26852bff1804452b8bd50912b2ff7dbed71817efe03be", func := "helmsman/helmsmanlaw2.TrajectoryProgressMatchesSpec", spec := "trajectoryProgressMatchesSpec", unfollowed := true, recurses := true, apart := false }
def TrajectoryProgressMatchesSpecSaid : Prop := trajectoryProgressMatchesSpecRow.holds Try.pinned (OpenSpec.ofChange trajectoryProgressMatchesSpecSpec)

/-- ITS FALSE NEIGHBOUR: 'it returns false'. Refute it at one input. -/
def trajectoryProgressMatchesSpecWrong : ChangeSpec := { name := "trajectoryProgressMatchesSpec", fn := fun _ => fun
  | [d1, d2, d3] => { results := [.lit (.bool false)], args := [d1, d2, d3] }
  | _ => none }
def TrajectoryProgressMatchesSpecWrongFalsely : Prop := trajectoryProgressMatchesSpecRow.holds Try.pinned (OpenSpec.ofChange trajectoryProgressMatchesSpecWrong)

/-- 'helmsmanlaw2.TrajectoryDuality': WHATEVER THE INPUT: true; the input reads as it did. -/
def trajectoryDualitySpec : ChangeSpec := { name := "trajectoryDuality", fn := fun _ => fun
  | [d1, d2, d3] => { results := [.lit (.bool true)], args := [d1, d2, d3] }
  | _ => none }
def trajectoryDualityRow : OpenClaim := { program := "ytanogjooppnihaa", sum := "cbd29fe109f0760febc26852bff1804452b8bd50912b2ff7dbed71817efe03be", func := "helmsman/helmsmanlaw2.TrajectoryDuality", spec := "trajectoryDuality", unfollowed := true, recurses := true, apart := false }
def TrajectoryDualitySaid : Prop := trajectoryDualityRow.holds Try.pinned (OpenSpec.ofChange trajectoryDualitySpec)

/-- ITS FALSE NEIGHBOUR: 'it returns false'. Refute it at one input. -/
def trajectoryDualityWrong : ChangeSpec := { name := "trajectoryDuality", fn := fun _ => fun
  | [d1, d2, d3] => { results := [.lit (.bool false)], args := [d1, d2, d3] }
  | _ => none }
def TrajectoryDualityWrongFalsely : Prop := trajectoryDualityRow.holds Try.pinned (OpenSpec.ofChange trajectoryDualityWrong)

/-- 'helmsmanlaw2.TrajectoryGoals': WHATEVER THE INPUT: true; the input reads as it did. -/
def trajectoryGoalsSpec : ChangeSpec := { name := "trajectoryGoals", fn := fun _ => fun
  | [d1, d2] => { results := [.lit (.bool true)], args := [d1, d2] }
  | _ => none }
def trajectoryGoalsRow : OpenClaim := { program := "ytanogjooppnihaa", sum := "cbd29fe109f0760febc26852bff1804452b8bd50912b2ff7dbed71817efe03be", func := "helmsman/helmsmanlaw2.TrajectoryGoals", spec := "trajectoryGoals", unfollowed := true, recurses := true, apart := false }
def TrajectoryGoalsSaid : Prop := trajectoryGoalsRow.holds Try.pinned (OpenSpec.ofChange trajectoryGoalsSpec)

/-- ITS FALSE NEIGHBOUR: 'it returns false'. Refute it at one input. -/
def trajectoryGoalsWrong : ChangeSpec := { name := "trajectoryGoals", fn := fun _ => fun
  | [d1, d2] => { results := [.lit (.bool false)], args := [d1, d2] }
  | _ => none }
def TrajectoryGoalsWrongFalsely : Prop := trajectoryGoalsRow.holds Try.pinned (OpenSpec.ofChange trajectoryGoalsWrong)

/- THE SECOND FORM. 'bulk': how many values and letters a reading holds, each counted each time it is reached (what is shared counts as often as it is met; a slice's spare places count too). A statement '..UptoSaid' is the law's where the arguments, and the package variables that the reading takes, are together of bulk at most 1048576: NARROWER than '..Said'. Prove '..Said' where nothing that the law and all that it calls make is longer than what came in: it says more and counts as full. Else prove '..UptoSaid'. A law counts once. -/
mutual
def uptoBulk {H : Type} : DataW H → Nat
  | .lit (.string bytes) => bytes.length + 1
  | .lit _ => 1
  | .nil => 1
  | .ptr d => uptoBulk d + 1
  | .slice elems spare => uptoBulkAll elems + uptoBulkAll spare + 1
  | .agg parts => uptoBulkAll parts + 1
  | .iface _ d => uptoBulk d + 1
  | .map entries => uptoBulkEntries entries + 1
  | .held _ => 1
def uptoBulkAll {H : Type} : List (DataW H) → Nat
  | [] => 0
  | d :: r => uptoBulk d + uptoBulkAll r
def uptoBulkEntries {H : Type} : List (Lit × DataW H) → Nat
  | [] => 0
  | x :: r => uptoBulkEntry x + uptoBulkEntries r
def uptoBulkEntry {H : Type} : Lit × DataW H → Nat
  | (.string bytes, d) => bytes.length + uptoBulk d + 1
  | (_, d) => uptoBulk d + 1
 end
def uptoSmall : (H : Type) → List (DataW H) → Bool := fun _ ds => decide (uptoBulkAll ds ≤ 1048576)
def OpenSpec.upto (s : _root_.Go.ChangeSpec) : _root_.Go.OpenSpec := { _root_.Go.OpenSpec.ofChange s with cond := some uptoSmall }

/-- 'helmsmanlaw2.TrajectoryMatchesSpec', WHERE WHAT IT READS IS OF BULK AT MOST 1048576: true; the input reads as it did. -/
def trajectoryMatchesSpecUptoRow : OpenClaim := { program := "ytanogjooppnihaa", sum := "cbd29fe109f0760febc26852bff1804452b8bd50912b2ff7dbed71817efe03be", func := "helmsman/helmsmanlaw2.TrajectoryMatchesSpec", spec := "trajectoryMatchesSpec", unfollowed := true, recurses := true, apart := false, narrowed := true }
def TrajectoryMatchesSpecUptoSaid : Prop := trajectoryMatchesSpecUptoRow.holds Try.pinned (OpenSpec.upto trajectoryMatchesSpecSpec)

/-- 'helmsmanlaw2.TrajectoryProgresses', WHERE WHAT IT READS IS OF BULK AT MOST 1048576: true; the input reads as it did. -/
def trajectoryProgressesUptoRow : OpenClaim := { program := "ytanogjooppnihaa", sum := "cbd29fe109f0760febc26852bff1804452b8bd50912b2ff7dbed71817efe03be", func := "helmsman/helmsmanlaw2.TrajectoryProgresses", spec := "trajectoryProgresses", unfollowed := true, recurses := true, apart := false, narrowed := true }
def TrajectoryProgressesUptoSaid : Prop := trajectoryProgressesUptoRow.holds Try.pinned (OpenSpec.upto trajectoryProgressesSpec)

/-- 'helmsmanlaw2.TrajectoryProgressMatchesSpec', WHERE WHAT IT READS IS OF BULK AT MOST 1048576: true; the input reads as it did. -/
def trajectoryProgressMatchesSpecUptoRow : OpenClaim := { program := "ytanogjooppnihaa", sum := "cbd29fe109f0760febc26852bff1804452b8bd50912b2ff7dbed71817efe03be", func := "helmsman/helmsmanlaw2.TrajectoryProgressMatchesSpec", spec := "trajectoryProgressMatchesSpec", unfollowed := true, recurses := true, apart := false, narrowed := true }
def TrajectoryProgressMatchesSpecUptoSaid : Prop := trajectoryProgressMatchesSpecUptoRow.holds Try.pinned (OpenSpec.upto trajectoryProgressMatchesSpecSpec)

/-- 'helmsmanlaw2.TrajectoryDuality', WHERE WHAT IT READS IS OF BULK AT MOST 1048576: true; the input reads as it did. -/
def trajectoryDualityUptoRow : OpenClaim := { program := "ytanogjooppnihaa", sum := "cbd29fe109f0760febc26852bff1804452b8bd50912b2ff7dbed71817efe03be", func := "helmsman/helmsmanlaw2.TrajectoryDuality", spec := "trajectoryDuality", unfollowed := true, recurses := true, apart := false, narrowed := true }
def TrajectoryDualityUptoSaid : Prop := trajectoryDualityUptoRow.holds Try.pinned (OpenSpec.upto trajectoryDualitySpec)

/-- 'helmsmanlaw2.TrajectoryGoals', WHERE WHAT IT READS IS OF BULK AT MOST 1048576: true; the input reads as it did. -/
def trajectoryGoalsUptoRow : OpenClaim := { program := "ytanogjooppnihaa", sum := "cbd29fe109f0760febc26852bff1804452b8bd50912b2ff7dbed71817efe03be", func := "helmsman/helmsmanlaw2.TrajectoryGoals", spec := "trajectoryGoals", unfollowed := true, recurses := true, apart := false, narrowed := true }
def TrajectoryGoalsUptoSaid : Prop := trajectoryGoalsUptoRow.holds Try.pinned (OpenSpec.upto trajectoryGoalsSpec)

end Rows
end Go.Proofs.Ytanogjooppnihaa
