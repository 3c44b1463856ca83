/-
  No cell of these rows narrows 'for every input' (looked for: loops, veiled, ifaces, maps, wideKeys, modest, calm, conditions, laid).
  DERIVED. THE GIVEN ROWS OF THIS SEAT. 4 by the template 'for every input the law returns true; each argument reads behind the call as it read before'; 0 by the template 'total and deterministic' (their statements: YtokmhfjledbglaaTotals.lean).
  GIVEN WITH THE SEED: the statements are not yours to turn. If you find one false, say at which input.
  Laid BY PROGRAM, IN A SANDBOX (cutbox-rows.mjs): the forced cells as the released guide's own fill.sh prints them over the translation 27c275ea097d2217… (all of the seat's roots in one cut). By AI agents, Wed Nov 11 2026. No macro, syntax, notation, axiom, sorry.
-/
import Derived.Test.YtokmhfjledbglaaChecked
import GoSem.Claim
import GoSem.ClaimJoined
import GoSem.ClaimMapViews
import Derived.JoinedTies
import Derived.KernelRfl
namespace Go.Proofs.Ytokmhfjledbglaa
/- THE CELL 'sum', in the pinned program and in every row, IS THE sha256 OF THE DUMP (.gsa) THAT YtokmhfjledbglaaProg.lean LOADS. Nothing in Lean hashes anything: it is a label: what it is worth is what the hold of that sum in a sandbox is worth. -/
noncomputable def Try.pinned : Pinned := { name := "ytokmhfjledbglaa", sum := "27c275ea097d2217622758d09a88d379b1bee66f1ebacda153e40a8b0a7ce6ad", checked := Try.checked }
namespace Rows
def none {H : Type} : Left H := { results := [], args := [] }

/-- 'helmsmanlaw2.InvariantMatchesSpec': WHATEVER THE INPUT: true; the input reads as it did. -/
def invariantMatchesSpecSpec : ChangeSpec := { name := "invariantMatchesSpec", fn := fun _ => fun
  | [d1, d2] => { results := [.lit (.bool true)], args := [d1, d2] }
  | _ => none }
def invariantMatchesSpecRow : OpenClaim := { program := "ytokmhfjledbglaa", sum := "27c275ea097d2217622758d09a88d379b1bee66f1ebacda153e40a8b0a7ce6ad", func := "helmsman/helmsmanlaw2.InvariantMatchesSpec", spec := "invariantMatchesSpec", unfollowed := true, recurses := true, apart := false }
def InvariantMatchesSpecSaid : Prop := invariantMatchesSpecRow.holds Try.pinned (OpenSpec.ofChange invariantMatchesSpecSpec)

/-- ITS FALSE NEIGHBOUR: 'it returns false'. Refute it at one input. -/
def invariantMatchesSpecWrong : ChangeSpec := { name := "invariantMatchesSpec", fn := fun _ => fun
  | [d1, d2] => { results := [.lit (.bool false)], args := [d1, d2] }
  | _ => none }
def InvariantMatchesSpecWrongFalsely : Prop := invariantMatchesSpecRow.holds Try.pinned (OpenSpec.ofChange invariantMatchesSpecWrong)

/-- 'helmsmanlaw2.InvariantFoundAreLargest': WHATEVER THE INPUT: true; the input reads as it did. -/
def invariantFoundAreLargestSpec : ChangeSpec := { name := "invariantFoundAreLargest", fn := fun _ => fun
  | [d1, d2] => { results := [.lit (.bool true)], args := [d1, d2] }
  | _ => none }
def invariantFoundAreLargestRow : OpenClaim := { program := "ytokmhfjledbglaa", sum := "27c275ea097d2217622758d09a88d379b1bee66f1ebacda153e40a8b0a7ce6ad", func := "helmsman/helmsmanlaw2.InvariantFoundAreLargest", spec := "invariantFoundAreLargest", unfollowed := true, recurses := true, apart := false }
def InvariantFoundAreLargestSaid : Prop := invariantFoundAreLargestRow.holds Try.pinned (OpenSpec.ofChange invariantFoundAreLargestSpec)

/-- ITS FALSE NEIGHBOUR: 'it returns false'. Refute it at one input. -/
def invariantFoundAreLargestWrong : ChangeSpec := { name := "invariantFoundAreLargest", fn := fun _ => fun
  | [d1, d2] => { results := [.lit (.bool false)], args := [d1, d2] }
  | _ => none }
def InvariantFoundAreLargestWrongFalsely : Prop := invariantFoundAreLargestRow.holds Try.pinned (OpenSpec.ofChange invariantFoundAreLargestWrong)

/-- 'helmsmanlaw2.InvariantHolds': WHATEVER THE INPUT: true; the input reads as it did. -/
def invariantHoldsSpec : ChangeSpec := { name := "invariantHolds", fn := fun _ => fun
  | [d1, d2, d3] => { results := [.lit (.bool true)], args := [d1, d2, d3] }
  | _ => none }
def invariantHoldsRow : OpenClaim := { program := "ytokmhfjledbglaa", sum := "27c275ea097d2217622758d09a88d379b1bee66f1ebacda153e40a8b0a7ce6ad", func := "helmsman/helmsmanlaw2.InvariantHolds", spec := "invariantHolds", unfollowed := true, recurses := true, apart := false }
def InvariantHoldsSaid : Prop := invariantHoldsRow.holds Try.pinned (OpenSpec.ofChange invariantHoldsSpec)

/-- ITS FALSE NEIGHBOUR: 'it returns false'. Refute it at one input. -/
def invariantHoldsWrong : ChangeSpec := { name := "invariantHolds", fn := fun _ => fun
  | [d1, d2, d3] => { results := [.lit (.bool false)], args := [d1, d2, d3] }
  | _ => none }
def InvariantHoldsWrongFalsely : Prop := invariantHoldsRow.holds Try.pinned (OpenSpec.ofChange invariantHoldsWrong)

/-- 'helmsmanlaw2.InvariantOfVariables': WHATEVER THE INPUT: true; the input reads as it did. -/
def invariantOfVariablesSpec : ChangeSpec := { name := "invariantOfVariables", fn := fun _ => fun
  | [d] => { results := [.lit (.bool true)], args := [d] }
  | _ => none }
def invariantOfVariablesRow : OpenClaim := { program := "ytokmhfjledbglaa", sum := "27c275ea097d2217622758d09a88d379b1bee66f1ebacda153e40a8b0a7ce6ad", func := "helmsman/helmsmanlaw2.InvariantOfVariables", spec := "invariantOfVariables", unfollowed := true, recurses := true, apart := false }
def InvariantOfVariablesSaid : Prop := invariantOfVariablesRow.holds Try.pinned (OpenSpec.ofChange invariantOfVariablesSpec)

/-- ITS FALSE NEIGHBOUR: 'it returns false'. Refute it at one input. -/
def invariantOfVariablesWrong : ChangeSpec := { name := "invariantOfVariables", fn := fun _ => fun
  | [d] => { results := [.lit (.bool false)], args := [d] }
  | _ => none }
def InvariantOfVariablesWrongFalsely : Prop := invariantOfVariablesRow.holds Try.pinned (OpenSpec.ofChange invariantOfVariablesWrong)

/- THE SECOND FORM. 'bulk': how many values and letters a reading holds, each counted each time it is reached (what is shared counts as often as it is met; a slice's spare places count too). A statement '..UptoSaid' is the law's where the arguments, and the package variables that the reading takes, are together of bulk at most 1048576: NARROWER than '..Said'. Prove '..Said' where nothing that the law and all that it calls make is longer than what came in: it says more and counts as full. Else prove '..UptoSaid'. A law counts once. -/
mutual
def uptoBulk {H : Type} : DataW H → Nat
  | .lit (.string bytes) => bytes.length + 1
  | .lit _ => 1
  | .nil => 1
  | .ptr d => uptoBulk d + 1
  | .slice elems spare => uptoBulkAll elems + uptoBulkAll spare + 1
  | .agg parts => uptoBulkAll parts + 1
  | .iface _ d => uptoBulk d + 1
  | .map entries => uptoBulkEntries entries + 1
  | .held _ => 1
def uptoBulkAll {H : Type} : List (DataW H) → Nat
  | [] => 0
  | d :: r => uptoBulk d + uptoBulkAll r
def uptoBulkEntries {H : Type} : List (Lit × DataW H) → Nat
  | [] => 0
  | x :: r => uptoBulkEntry x + uptoBulkEntries r
def uptoBulkEntry {H : Type} : Lit × DataW H → Nat
  | (.string bytes, d) => bytes.length + uptoBulk d + 1
  | (_, d) => uptoBulk d + 1
 end
def uptoSmall : (H : Type) → List (DataW H) → Bool := fun _ ds => decide (uptoBulkAll ds ≤ 1048576)
def OpenSpec.upto (s : _root_.Go.ChangeSpec) : _root_.Go.OpenSpec := { _root_.Go.OpenSpec.ofChange s with cond := some uptoSmall }

/-- 'helmsmanlaw2.InvariantMatchesSpec', WHERE WHAT IT READS IS OF BULK AT MOST 1048576: true; the input reads as it did. -/
def invariantMatchesSpecUptoRow : OpenClaim := { program := "ytokmhfjledbglaa", sum := "27c275ea097d2217622758d09a88d379b1bee66f1ebacda153e40a8b0a7ce6ad", func := "helmsman/helmsmanlaw2.InvariantMatchesSpec", spec := "invariantMatchesSpec", unfollowed := true, recurses := true, apart := false, narrowed := true }
def InvariantMatchesSpecUptoSaid : Prop := invariantMatchesSpecUptoRow.holds Try.pinned (OpenSpec.upto invariantMatchesSpecSpec)

/-- 'helmsmanlaw2.InvariantFoundAreLargest', WHERE WHAT IT READS IS OF BULK AT MOST 1048576: true; the input reads as it did. -/
def invariantFoundAreLargestUptoRow : OpenClaim := { program := "ytokmhfjledbglaa", sum := "27c275ea097d2217622758d09a88d379b1bee66f1ebacda153e40a8b0a7ce6ad", func := "helmsman/helmsmanlaw2.InvariantFoundAreLargest", spec := "invariantFoundAreLargest", unfollowed := true, recurses := true, apart := false, narrowed := true }
def InvariantFoundAreLargestUptoSaid : Prop := invariantFoundAreLargestUptoRow.holds Try.pinned (OpenSpec.upto invariantFoundAreLargestSpec)

/-- 'helmsmanlaw2.InvariantHolds', WHERE WHAT IT READS IS OF BULK AT MOST 1048576: true; the input reads as it did. -/
def invariantHoldsUptoRow : OpenClaim := { program := "ytokmhfjledbglaa", sum := "27c275ea097d2217622758d09a88d379b1bee66f1ebacda153e40a8b0a7ce6ad", func := "helmsman/helmsmanlaw2.InvariantHolds", spec := "invariantHolds", unfollowed := true, recurses := true, apart := false, narrowed := true }
def InvariantHoldsUptoSaid : Prop := invariantHoldsUptoRow.holds Try.pinned (OpenSpec.upto invariantHoldsSpec)

/-- 'helmsmanlaw2.InvariantOfVariables', WHERE WHAT IT READS IS OF BULK AT MOST 1048576: true; the input reads as it did. -/
def invariantOfVariablesUptoRow : OpenClaim := { program := "ytokmhfjledbglaa", sum := "27c275ea097d2217622758d09a88d379b1bee66f1ebacda153e40a8b0a7ce6ad", func := "helmsman/helmsmanlaw2.InvariantOfVariables", spec := "invariantOfVariables", unfollowed := true, recurses := true, apart := false, narrowed := true }
def InvariantOfVariablesUptoSaid : Prop := invariantOfVariablesUptoRow.holds Try.pinned (OpenSpec.upto invariantOfVariablesSpec)

end Rows
end Go.Proofs.Ytokmhfjledbglaa
