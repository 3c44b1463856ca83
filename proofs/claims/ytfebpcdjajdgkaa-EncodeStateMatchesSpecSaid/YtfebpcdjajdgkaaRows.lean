/-
  No cell of these rows narrows 'for every input' (looked for: loops, veiled, ifaces, maps, wideKeys, modest, calm, conditions, laid).
  DERIVED. THE GIVEN ROWS OF THIS SEAT. 11 by the template 'for every input the law returns true; each argument reads behind the call as it read before'; 0 by the template 'total and deterministic' (their statements: YtfebpcdjajdgkaaTotals.lean).
  GIVEN WITH THE SEED: the statements are not yours to turn. If you find one false, say at which input.
  Laid BY PROGRAM, IN A SANDBOX (cutbox-rows.mjs): the forced cells as the released guide's own fill.sh prints them over the translation 9803d615883c81e1… (all of the seat's roots in one cut). By AI agents, Wed Nov 11 2026. No macro, syntax, notation, axiom, sorry.
-/
import Derived.Test.YtfebpcdjajdgkaaChecked
import GoSem.Claim
import GoSem.ClaimJoined
import GoSem.ClaimMapViews
import Derived.JoinedTies
import Derived.KernelRfl
namespace Go.Proofs.Ytfebpcdjajdgkaa
/- THE CELL 'sum', in the pinned program and in every row, IS THE sha256 OF THE DUMP (.gsa) THAT YtfebpcdjajdgkaaProg.lean LOADS. Nothing in Lean hashes anything: it is a label: what it is worth is what the hold of that sum in a sandbox is worth. -/
noncomputable def Try.pinned : Pinned := { name := "ytfebpcdjajdgkaa", sum := "9803d615883c81e16a2ccb3589f66bb43c4d64f43ae39e0ad0ecfc343d3b487c", checked := Try.checked }
namespace Rows
def none {H : Type} : Left H := { results := [], args := [] }

/-- 'helmsmanlaw2.EncodeMatchesSpec': WHATEVER THE INPUT: true; the input reads as it did. -/
def encodeMatchesSpecSpec : ChangeSpec := { name := "encodeMatchesSpec", fn := fun _ => fun
  | [d1, d2] => { results := [.lit (.bool true)], args := [d1, d2] }
  | _ => none }
def encodeMatchesSpecRow : OpenClaim := { program := "ytfebpcdjajdgkaa", sum := "9803d615883c81e16a2ccb3589f66bb43c4d64f43ae39e0ad0ecfc343d3b487c", func := "helmsman/helmsmanlaw2.EncodeMatchesSpec", spec := "encodeMatchesSpec", unfollowed := true, recurses := true, apart := false }
def EncodeMatchesSpecSaid : Prop := encodeMatchesSpecRow.holds Try.pinned (OpenSpec.ofChange encodeMatchesSpecSpec)

/-- ITS FALSE NEIGHBOUR: 'it returns false'. Refute it at one input. -/
def encodeMatchesSpecWrong : ChangeSpec := { name := "encodeMatchesSpec", fn := fun _ => fun
  | [d1, d2] => { results := [.lit (.bool false)], args := [d1, d2] }
  | _ => none }
def EncodeMatchesSpecWrongFalsely : Prop := encodeMatchesSpecRow.holds Try.pinned (OpenSpec.ofChange encodeMatchesSpecWrong)

/-- 'helmsmanlaw2.EncodeStateMatchesSpec': WHATEVER THE INPUT: true; the input reads as it did. -/
def encodeStateMatchesSpecSpec : ChangeSpec := { name := "encodeStateMatchesSpec", fn := fun _ => fun
  | [d1, d2, d3] => { results := [.lit (.bool true)], args := [d1, d2, d3] }
  | _ => none }
def encodeStateMatchesSpecRow : OpenClaim := { program := "ytfebpcdjajdgkaa", sum := "9803d615883c81e16a2ccb3589f66bb43c4d64f43ae39e0ad0ecfc343d3b487c", func := "helmsman/helmsmanlaw2.EncodeStateMatchesSpec", spec := "encodeStateMatchesSpec", unfollowed := true, recurses := true, apart := false }
def EncodeStateMatchesSpecSaid : Prop := encodeStateMatchesSpecRow.holds Try.pinned (OpenSpec.ofChange encodeStateMatchesSpecSpec)

/-- ITS FALSE NEIGHBOUR: 'it returns false'. Refute it at one input. -/
def encodeStateMatchesSpecWrong : ChangeSpec := { name := "encodeStateMatchesSpec", fn := fun _ => fun
  | [d1, d2, d3] => { results := [.lit (.bool false)], args := [d1, d2, d3] }
  | _ => none }
def EncodeStateMatchesSpecWrongFalsely : Prop := encodeStateMatchesSpecRow.holds Try.pinned (OpenSpec.ofChange encodeStateMatchesSpecWrong)

/-- 'helmsmanlaw2.EncodeClassesDivide': WHATEVER THE INPUT: true; the input reads as it did. -/
def encodeClassesDivideSpec : ChangeSpec := { name := "encodeClassesDivide", fn := fun _ => fun
  | [d1, d2] => { results := [.lit (.bool true)], args := [d1, d2] }
  | _ => none }
def encodeClassesDivideRow : OpenClaim := { program := "ytfebpcdjajdgkaa", sum := "9803d615883c81e16a2ccb3589f66bb43c4d64f43ae39e0ad0ecfc343d3b487c", func := "helmsman/helmsmanlaw2.EncodeClassesDivide", spec := "encodeClassesDivide", unfollowed := true, recurses := true, apart := false }
def EncodeClassesDivideSaid : Prop := encodeClassesDivideRow.holds Try.pinned (OpenSpec.ofChange encodeClassesDivideSpec)

/-- ITS FALSE NEIGHBOUR: 'it returns false'. Refute it at one input. -/
def encodeClassesDivideWrong : ChangeSpec := { name := "encodeClassesDivide", fn := fun _ => fun
  | [d1, d2] => { results := [.lit (.bool false)], args := [d1, d2] }
  | _ => none }
def EncodeClassesDivideWrongFalsely : Prop := encodeClassesDivideRow.holds Try.pinned (OpenSpec.ofChange encodeClassesDivideWrong)

/-- 'helmsmanlaw2.CommutingMatchesSpec': WHATEVER THE INPUT: true; the input reads as it did. -/
def commutingMatchesSpecSpec : ChangeSpec := { name := "commutingMatchesSpec", fn := fun _ => fun
  | [d1, d2, d3, d4] => { results := [.lit (.bool true)], args := [d1, d2, d3, d4] }
  | _ => none }
def commutingMatchesSpecRow : OpenClaim := { program := "ytfebpcdjajdgkaa", sum := "9803d615883c81e16a2ccb3589f66bb43c4d64f43ae39e0ad0ecfc343d3b487c", func := "helmsman/helmsmanlaw2.CommutingMatchesSpec", spec := "commutingMatchesSpec", unfollowed := true, recurses := true, apart := false }
def CommutingMatchesSpecSaid : Prop := commutingMatchesSpecRow.holds Try.pinned (OpenSpec.ofChange commutingMatchesSpecSpec)

/-- ITS FALSE NEIGHBOUR: 'it returns false'. Refute it at one input. -/
def commutingMatchesSpecWrong : ChangeSpec := { name := "commutingMatchesSpec", fn := fun _ => fun
  | [d1, d2, d3, d4] => { results := [.lit (.bool false)], args := [d1, d2, d3, d4] }
  | _ => none }
def CommutingMatchesSpecWrongFalsely : Prop := commutingMatchesSpecRow.holds Try.pinned (OpenSpec.ofChange commutingMatchesSpecWrong)

/-- 'helmsmanlaw2.CommutingPlanIsCheapest': WHATEVER THE INPUT: true; the input reads as it did. -/
def commutingPlanIsCheapestSpec : ChangeSpec := { name := "commutingPlanIsCheapest", fn := fun _ => fun
  | [d] => { results := [.lit (.bool true)], args := [d] }
  | _ => none }
def commutingPlanIsCheapestRow : OpenClaim := { program := "ytfebpcdjajdgkaa", sum := "9803d615883c81e16a2ccb3589f66bb43c4d64f43ae39e0ad0ecfc343d3b487c", func := "helmsman/helmsmanlaw2.CommutingPlanIsCheapest", spec := "commutingPlanIsCheapest", unfollowed := true, recurses := true, apart := false }
def CommutingPlanIsCheapestSaid : Prop := commutingPlanIsCheapestRow.holds Try.pinned (OpenSpec.ofChange commutingPlanIsCheapestSpec)

/-- ITS FALSE NEIGHBOUR: 'it returns false'. Refute it at one input. -/
def commutingPlanIsCheapestWrong : ChangeSpec := { name := "commutingPlanIsCheapest", fn := fun _ => fun
  | [d] => { results := [.lit (.bool false)], args := [d] }
  | _ => none }
def CommutingPlanIsCheapestWrongFalsely : Prop := commutingPlanIsCheapestRow.holds Try.pinned (OpenSpec.ofChange commutingPlanIsCheapestWrong)

/-- 'helmsmanlaw2.CommutingIsSymmetric': WHATEVER THE INPUT: true; the input reads as it did. -/
def commutingIsSymmetricSpec : ChangeSpec := { name := "commutingIsSymmetric", fn := fun _ => fun
  | [d1, d2, d3] => { results := [.lit (.bool true)], args := [d1, d2, d3] }
  | _ => none }
def commutingIsSymmetricRow : OpenClaim := { program := "ytfebpcdjajdgkaa", sum := "9803d615883c81e16a2ccb3589f66bb43c4d64f43ae39e0ad0ecfc343d3b487c", func := "helmsman/helmsmanlaw2.CommutingIsSymmetric", spec := "commutingIsSymmetric", unfollowed := true, recurses := true, apart := false }
def CommutingIsSymmetricSaid : Prop := commutingIsSymmetricRow.holds Try.pinned (OpenSpec.ofChange commutingIsSymmetricSpec)

/-- ITS FALSE NEIGHBOUR: 'it returns false'. Refute it at one input. -/
def commutingIsSymmetricWrong : ChangeSpec := { name := "commutingIsSymmetric", fn := fun _ => fun
  | [d1, d2, d3] => { results := [.lit (.bool false)], args := [d1, d2, d3] }
  | _ => none }
def CommutingIsSymmetricWrongFalsely : Prop := commutingIsSymmetricRow.holds Try.pinned (OpenSpec.ofChange commutingIsSymmetricWrong)

/-- 'helmsmanlaw2.CommutingSuffices': WHATEVER THE INPUT: true; the input reads as it did. -/
def commutingSufficesSpec : ChangeSpec := { name := "commutingSuffices", fn := fun _ => fun
  | [d1, d2] => { results := [.lit (.bool true)], args := [d1, d2] }
  | _ => none }
def commutingSufficesRow : OpenClaim := { program := "ytfebpcdjajdgkaa", sum := "9803d615883c81e16a2ccb3589f66bb43c4d64f43ae39e0ad0ecfc343d3b487c", func := "helmsman/helmsmanlaw2.CommutingSuffices", spec := "commutingSuffices", unfollowed := true, recurses := true, apart := false }
def CommutingSufficesSaid : Prop := commutingSufficesRow.holds Try.pinned (OpenSpec.ofChange commutingSufficesSpec)

/-- ITS FALSE NEIGHBOUR: 'it returns false'. Refute it at one input. -/
def commutingSufficesWrong : ChangeSpec := { name := "commutingSuffices", fn := fun _ => fun
  | [d1, d2] => { results := [.lit (.bool false)], args := [d1, d2] }
  | _ => none }
def CommutingSufficesWrongFalsely : Prop := commutingSufficesRow.holds Try.pinned (OpenSpec.ofChange commutingSufficesWrong)

/-- 'helmsmanlaw2.TrajectoryGoals': WHATEVER THE INPUT: true; the input reads as it did. -/
def trajectoryGoalsSpec : ChangeSpec := { name := "trajectoryGoals", fn := fun _ => fun
  | [d1, d2] => { results := [.lit (.bool true)], args := [d1, d2] }
  | _ => none }
def trajectoryGoalsRow : OpenClaim := { program := "ytfebpcdjajdgkaa", sum := "9803d615883c81e16a2ccb3589f66bb43c4d64f43ae39e0ad0ecfc343d3b487c", func := "helmsman/helmsmanlaw2.TrajectoryGoals", spec := "trajectoryGoals", unfollowed := true, recurses := true, apart := false }
def TrajectoryGoalsSaid : Prop := trajectoryGoalsRow.holds Try.pinned (OpenSpec.ofChange trajectoryGoalsSpec)

/-- ITS FALSE NEIGHBOUR: 'it returns false'. Refute it at one input. -/
def trajectoryGoalsWrong : ChangeSpec := { name := "trajectoryGoals", fn := fun _ => fun
  | [d1, d2] => { results := [.lit (.bool false)], args := [d1, d2] }
  | _ => none }
def TrajectoryGoalsWrongFalsely : Prop := trajectoryGoalsRow.holds Try.pinned (OpenSpec.ofChange trajectoryGoalsWrong)

/-- 'helmsmanlaw2.CommutingOrdersAgree': WHATEVER THE INPUT: true; the input reads as it did. -/
def commutingOrdersAgreeSpec : ChangeSpec := { name := "commutingOrdersAgree", fn := fun _ => fun
  | [d1, d2, d3, d4] => { results := [.lit (.bool true)], args := [d1, d2, d3, d4] }
  | _ => none }
def commutingOrdersAgreeRow : OpenClaim := { program := "ytfebpcdjajdgkaa", sum := "9803d615883c81e16a2ccb3589f66bb43c4d64f43ae39e0ad0ecfc343d3b487c", func := "helmsman/helmsmanlaw2.CommutingOrdersAgree", spec := "commutingOrdersAgree", unfollowed := true, recurses := true, apart := false }
def CommutingOrdersAgreeSaid : Prop := commutingOrdersAgreeRow.holds Try.pinned (OpenSpec.ofChange commutingOrdersAgreeSpec)

/-- ITS FALSE NEIGHBOUR: 'it returns false'. Refute it at one input. -/
def commutingOrdersAgreeWrong : ChangeSpec := { name := "commutingOrdersAgree", fn := fun _ => fun
  | [d1, d2, d3, d4] => { results := [.lit (.bool false)], args := [d1, d2, d3, d4] }
  | _ => none }
def CommutingOrdersAgreeWrongFalsely : Prop := commutingOrdersAgreeRow.holds Try.pinned (OpenSpec.ofChange commutingOrdersAgreeWrong)

/-- 'helmsmanlaw2.EncodePlansAreKept': WHATEVER THE INPUT: true; the input reads as it did. -/
def encodePlansAreKeptSpec : ChangeSpec := { name := "encodePlansAreKept", fn := fun _ => fun
  | [d1, d2, d3] => { results := [.lit (.bool true)], args := [d1, d2, d3] }
  | _ => none }
def encodePlansAreKeptRow : OpenClaim := { program := "ytfebpcdjajdgkaa", sum := "9803d615883c81e16a2ccb3589f66bb43c4d64f43ae39e0ad0ecfc343d3b487c", func := "helmsman/helmsmanlaw2.EncodePlansAreKept", spec := "encodePlansAreKept", unfollowed := true, recurses := true, apart := false }
def EncodePlansAreKeptSaid : Prop := encodePlansAreKeptRow.holds Try.pinned (OpenSpec.ofChange encodePlansAreKeptSpec)

/-- ITS FALSE NEIGHBOUR: 'it returns false'. Refute it at one input. -/
def encodePlansAreKeptWrong : ChangeSpec := { name := "encodePlansAreKept", fn := fun _ => fun
  | [d1, d2, d3] => { results := [.lit (.bool false)], args := [d1, d2, d3] }
  | _ => none }
def EncodePlansAreKeptWrongFalsely : Prop := encodePlansAreKeptRow.holds Try.pinned (OpenSpec.ofChange encodePlansAreKeptWrong)

/-- 'helmsmanlaw2.EncodeFindsEveryStep': WHATEVER THE INPUT: true; the input reads as it did. -/
def encodeFindsEveryStepSpec : ChangeSpec := { name := "encodeFindsEveryStep", fn := fun _ => fun
  | [d1, d2, d3] => { results := [.lit (.bool true)], args := [d1, d2, d3] }
  | _ => none }
def encodeFindsEveryStepRow : OpenClaim := { program := "ytfebpcdjajdgkaa", sum := "9803d615883c81e16a2ccb3589f66bb43c4d64f43ae39e0ad0ecfc343d3b487c", func := "helmsman/helmsmanlaw2.EncodeFindsEveryStep", spec := "encodeFindsEveryStep", unfollowed := true, recurses := true, apart := false }
def EncodeFindsEveryStepSaid : Prop := encodeFindsEveryStepRow.holds Try.pinned (OpenSpec.ofChange encodeFindsEveryStepSpec)

/-- ITS FALSE NEIGHBOUR: 'it returns false'. Refute it at one input. -/
def encodeFindsEveryStepWrong : ChangeSpec := { name := "encodeFindsEveryStep", fn := fun _ => fun
  | [d1, d2, d3] => { results := [.lit (.bool false)], args := [d1, d2, d3] }
  | _ => none }
def EncodeFindsEveryStepWrongFalsely : Prop := encodeFindsEveryStepRow.holds Try.pinned (OpenSpec.ofChange encodeFindsEveryStepWrong)

/- THE SECOND FORM. 'bulk': how many values and letters a reading holds, each counted each time it is reached (what is shared counts as often as it is met; a slice's spare places count too). A statement '..UptoSaid' is the law's where the arguments, and the package variables that the reading takes, are together of bulk at most 1048576: NARROWER than '..Said'. Prove '..Said' where nothing that the law and all that it calls make is longer than what came in: it says more and counts as full. Else prove '..UptoSaid'. A law counts once. -/
mutual
def uptoBulk {H : Type} : DataW H → Nat
  | .lit (.string bytes) => bytes.length + 1
  | .lit _ => 1
  | .nil => 1
  | .ptr d => uptoBulk d + 1
  | .slice elems spare => uptoBulkAll elems + uptoBulkAll spare + 1
  | .agg parts => uptoBulkAll parts + 1
  | .iface _ d => uptoBulk d + 1
  | .map entries => uptoBulkEntries entries + 1
  | .held _ => 1
def uptoBulkAll {H : Type} : List (DataW H) → Nat
  | [] => 0
  | d :: r => uptoBulk d + uptoBulkAll r
def uptoBulkEntries {H : Type} : List (Lit × DataW H) → Nat
  | [] => 0
  | x :: r => uptoBulkEntry x + uptoBulkEntries r
def uptoBulkEntry {H : Type} : Lit × DataW H → Nat
  | (.string bytes, d) => bytes.length + uptoBulk d + 1
  | (_, d) => uptoBulk d + 1
 end
def uptoSmall : (H : Type) → List (DataW H) → Bool := fun _ ds => decide (uptoBulkAll ds ≤ 1048576)
def OpenSpec.upto (s : _root_.Go.ChangeSpec) : _root_.Go.OpenSpec := { _root_.Go.OpenSpec.ofChange s with cond := some uptoSmall }

/-- 'helmsmanlaw2.EncodeMatchesSpec', WHERE WHAT IT READS IS OF BULK AT MOST 1048576: true; the input reads as it did. -/
def encodeMatchesSpecUptoRow : OpenClaim := { program := "ytfebpcdjajdgkaa", sum := "9803d615883c81e16a2ccb3589f66bb43c4d64f43ae39e0ad0ecfc343d3b487c", func := "helmsman/helmsmanlaw2.EncodeMatchesSpec", spec := "encodeMatchesSpec", unfollowed := true, recurses := true, apart := false, narrowed := true }
def EncodeMatchesSpecUptoSaid : Prop := encodeMatchesSpecUptoRow.holds Try.pinned (OpenSpec.upto encodeMatchesSpecSpec)

/-- 'helmsmanlaw2.EncodeStateMatchesSpec', WHERE WHAT IT READS IS OF BULK AT MOST 1048576: true; the input reads as it did. -/
def encodeStateMatchesSpecUptoRow : OpenClaim := { program := "ytfebpcdjajdgkaa", sum := "9803d615883c81e16a2ccb3589f66bb43c4d64f43ae39e0ad0ecfc343d3b487c", func := "helmsman/helmsmanlaw2.EncodeStateMatchesSpec", spec := "encodeStateMatchesSpec", unfollowed := true, recurses := true, apart := false, narrowed := true }
def EncodeStateMatchesSpecUptoSaid : Prop := encodeStateMatchesSpecUptoRow.holds Try.pinned (OpenSpec.upto encodeStateMatchesSpecSpec)

/-- 'helmsmanlaw2.EncodeClassesDivide', WHERE WHAT IT READS IS OF BULK AT MOST 1048576: true; the input reads as it did. -/
def encodeClassesDivideUptoRow : OpenClaim := { program := "ytfebpcdjajdgkaa", sum := "9803d615883c81e16a2ccb3589f66bb43c4d64f43ae39e0ad0ecfc343d3b487c", func := "helmsman/helmsmanlaw2.EncodeClassesDivide", spec := "encodeClassesDivide", unfollowed := true, recurses := true, apart := false, narrowed := true }
def EncodeClassesDivideUptoSaid : Prop := encodeClassesDivideUptoRow.holds Try.pinned (OpenSpec.upto encodeClassesDivideSpec)

/-- 'helmsmanlaw2.CommutingMatchesSpec', WHERE WHAT IT READS IS OF BULK AT MOST 1048576: true; the input reads as it did. -/
def commutingMatchesSpecUptoRow : OpenClaim := { program := "ytfebpcdjajdgkaa", sum := "9803d615883c81e16a2ccb3589f66bb43c4d64f43ae39e0ad0ecfc343d3b487c", func := "helmsman/helmsmanlaw2.CommutingMatchesSpec", spec := "commutingMatchesSpec", unfollowed := true, recurses := true, apart := false, narrowed := true }
def CommutingMatchesSpecUptoSaid : Prop := commutingMatchesSpecUptoRow.holds Try.pinned (OpenSpec.upto commutingMatchesSpecSpec)

/-- 'helmsmanlaw2.CommutingPlanIsCheapest', WHERE WHAT IT READS IS OF BULK AT MOST 1048576: true; the input reads as it did. -/
def commutingPlanIsCheapestUptoRow : OpenClaim := { program := "ytfebpcdjajdgkaa", sum := "9803d615883c81e16a2ccb3589f66bb43c4d64f43ae39e0ad0ecfc343d3b487c", func := "helmsman/helmsmanlaw2.CommutingPlanIsCheapest", spec := "commutingPlanIsCheapest", unfollowed := true, recurses := true, apart := false, narrowed := true }
def CommutingPlanIsCheapestUptoSaid : Prop := commutingPlanIsCheapestUptoRow.holds Try.pinned (OpenSpec.upto commutingPlanIsCheapestSpec)

/-- 'helmsmanlaw2.CommutingIsSymmetric', WHERE WHAT IT READS IS OF BULK AT MOST 1048576: true; the input reads as it did. -/
def commutingIsSymmetricUptoRow : OpenClaim := { program := "ytfebpcdjajdgkaa", sum := "9803d615883c81e16a2ccb3589f66bb43c4d64f43ae39e0ad0ecfc343d3b487c", func := "helmsman/helmsmanlaw2.CommutingIsSymmetric", spec := "commutingIsSymmetric", unfollowed := true, recurses := true, apart := false, narrowed := true }
def CommutingIsSymmetricUptoSaid : Prop := commutingIsSymmetricUptoRow.holds Try.pinned (OpenSpec.upto commutingIsSymmetricSpec)

/-- 'helmsmanlaw2.CommutingSuffices', WHERE WHAT IT READS IS OF BULK AT MOST 1048576: true; the input reads as it did. -/
def commutingSufficesUptoRow : OpenClaim := { program := "ytfebpcdjajdgkaa", sum := "9803d615883c81e16a2ccb3589f66bb43c4d64f43ae39e0ad0ecfc343d3b487c", func := "helmsman/helmsmanlaw2.CommutingSuffices", spec := "commutingSuffices", unfollowed := true, recurses := true, apart := false, narrowed := true }
def CommutingSufficesUptoSaid : Prop := commutingSufficesUptoRow.holds Try.pinned (OpenSpec.upto commutingSufficesSpec)

/-- 'helmsmanlaw2.TrajectoryGoals', WHERE WHAT IT READS IS OF BULK AT MOST 1048576: true; the input reads as it did. -/
def trajectoryGoalsUptoRow : OpenClaim := { program := "ytfebpcdjajdgkaa", sum := "9803d615883c81e16a2ccb3589f66bb43c4d64f43ae39e0ad0ecfc343d3b487c", func := "helmsman/helmsmanlaw2.TrajectoryGoals", spec := "trajectoryGoals", unfollowed := true, recurses := true, apart := false, narrowed := true }
def TrajectoryGoalsUptoSaid : Prop := trajectoryGoalsUptoRow.holds Try.pinned (OpenSpec.upto trajectoryGoalsSpec)

/-- 'helmsmanlaw2.CommutingOrdersAgree', WHERE WHAT IT READS IS OF BULK AT MOST 1048576: true; the input reads as it did. -/
def commutingOrdersAgreeUptoRow : OpenClaim := { program := "ytfebpcdjajdgkaa", sum := "9803d615883c81e16a2ccb3589f66bb43c4d64f43ae39e0ad0ecfc343d3b487c", func := "helmsman/helmsmanlaw2.CommutingOrdersAgree", spec := "commutingOrdersAgree", unfollowed := true, recurses := true, apart := false, narrowed := true }
def CommutingOrdersAgreeUptoSaid : Prop := commutingOrdersAgreeUptoRow.holds Try.pinned (OpenSpec.upto commutingOrdersAgreeSpec)

/-- 'helmsmanlaw2.EncodePlansAreKept', WHERE WHAT IT READS IS OF BULK AT MOST 1048576: true; the input reads as it did. -/
def encodePlansAreKeptUptoRow : OpenClaim := { program := "ytfebpcdjajdgkaa", sum := "9803d615883c81e16a2ccb3589f66bb43c4d64f43ae39e0ad0ecfc343d3b487c", func := "helmsman/helmsmanlaw2.EncodePlansAreKept", spec := "encodePlansAreKept", unfollowed := true, recurses := true, apart := false, narrowed := true }
def EncodePlansAreKeptUptoSaid : Prop := encodePlansAreKeptUptoRow.holds Try.pinned (OpenSpec.upto encodePlansAreKeptSpec)

/-- 'helmsmanlaw2.EncodeFindsEveryStep', WHERE WHAT IT READS IS OF BULK AT MOST 1048576: true; the input reads as it did. -/
def encodeFindsEveryStepUptoRow : OpenClaim := { program := "ytfebpcdjajdgkaa", sum := "9803d615883c81e16a2ccb3589f66bb43c4d64f43ae39e0ad0ecfc343d3b487c", func := "helmsman/helmsmanlaw2.EncodeFindsEveryStep", spec := "encodeFindsEveryStep", unfollowed := true, recurses := true, apart := false, narrowed := true }
def EncodeFindsEveryStepUptoSaid : Prop := encodeFindsEveryStepUptoRow.holds Try.pinned (OpenSpec.upto encodeFindsEveryStepSpec)

end Rows
end Go.Proofs.Ytfebpcdjajdgkaa
