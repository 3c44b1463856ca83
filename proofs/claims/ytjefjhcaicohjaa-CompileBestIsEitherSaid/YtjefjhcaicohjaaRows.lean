/-
  No cell of these rows narrows 'for every input' (looked for: loops, veiled, ifaces, maps, wideKeys, modest, calm, conditions, laid).
  DERIVED. THE GIVEN ROWS OF THIS SEAT. 12 by the template 'for every input the law returns true; each argument reads behind the call as it read before'; 0 by the template 'total and deterministic' (their statements: YtjefjhcaicohjaaTotals.lean).
  GIVEN WITH THE SEED: the statements are not yours to turn. If you find one false, say at which input.
  Laid BY PROGRAM, IN A SANDBOX (cutbox-rows.mjs): the forced cells as the released guide's own fill.sh prints them over the translation 25a71a3f803384cf… (all of the seat's roots in one cut). By AI agents, Wed Nov 11 2026. No macro, syntax, notation, axiom, sorry.
-/
import Derived.Test.YtjefjhcaicohjaaChecked
import GoSem.Claim
import GoSem.ClaimJoined
import GoSem.ClaimMapViews
import Derived.JoinedTies
import Derived.KernelRfl
namespace Go.Proofs.Ytjefjhcaicohjaa
/- THE CELL 'sum', in the pinned program and in every row, IS THE sha256 OF THE DUMP (.gsa) THAT YtjefjhcaicohjaaProg.lean LOADS. Nothing in Lean hashes anything: it is a label: what it is worth is what the hold of that sum in a sandbox is worth. -/
noncomputable def Try.pinned : Pinned := { name := "ytjefjhcaicohjaa", sum := "25a71a3f803384cf1c794f24638a00229fc475641e25a85a13ea02ec4cf89c1c", checked := Try.checked }
namespace Rows
def none {H : Type} : Left H := { results := [], args := [] }

/-- 'helmsmanlaw2.CompileMatchesSpec': WHATEVER THE INPUT: true; the input reads as it did. -/
def compileMatchesSpecSpec : ChangeSpec := { name := "compileMatchesSpec", fn := fun _ => fun
  | [d1, d2, d3] => { results := [.lit (.bool true)], args := [d1, d2, d3] }
  | _ => none }
def compileMatchesSpecRow : OpenClaim := { program := "ytjefjhcaicohjaa", sum := "25a71a3f803384cf1c794f24638a00229fc475641e25a85a13ea02ec4cf89c1c", func := "helmsman/helmsmanlaw2.CompileMatchesSpec", spec := "compileMatchesSpec", unfollowed := true, recurses := true, apart := false }
def CompileMatchesSpecSaid : Prop := compileMatchesSpecRow.holds Try.pinned (OpenSpec.ofChange compileMatchesSpecSpec)

/-- ITS FALSE NEIGHBOUR: 'it returns false'. Refute it at one input. -/
def compileMatchesSpecWrong : ChangeSpec := { name := "compileMatchesSpec", fn := fun _ => fun
  | [d1, d2, d3] => { results := [.lit (.bool false)], args := [d1, d2, d3] }
  | _ => none }
def CompileMatchesSpecWrongFalsely : Prop := compileMatchesSpecRow.holds Try.pinned (OpenSpec.ofChange compileMatchesSpecWrong)

/-- 'helmsmanlaw2.CompileProductMatchesSpec': WHATEVER THE INPUT: true; the input reads as it did. -/
def compileProductMatchesSpecSpec : ChangeSpec := { name := "compileProductMatchesSpec", fn := fun _ => fun
  | [d1, d2] => { results := [.lit (.bool true)], args := [d1, d2] }
  | _ => none }
def compileProductMatchesSpecRow : OpenClaim := { program := "ytjefjhcaicohjaa", sum := "25a71a3f803384cf1c794f24638a00229fc475641e25a85a13ea02ec4cf89c1c", func := "helmsman/helmsmanlaw2.CompileProductMatchesSpec", spec := "compileProductMatchesSpec", unfollowed := true, recurses := true, apart := false }
def CompileProductMatchesSpecSaid : Prop := compileProductMatchesSpecRow.holds Try.pinned (OpenSpec.ofChange compileProductMatchesSpecSpec)

/-- ITS FALSE NEIGHBOUR: 'it returns false'. Refute it at one input. -/
def compileProductMatchesSpecWrong : ChangeSpec := { name := "compileProductMatchesSpec", fn := fun _ => fun
  | [d1, d2] => { results := [.lit (.bool false)], args := [d1, d2] }
  | _ => none }
def CompileProductMatchesSpecWrongFalsely : Prop := compileProductMatchesSpecRow.holds Try.pinned (OpenSpec.ofChange compileProductMatchesSpecWrong)

/-- 'helmsmanlaw2.CompileBestIsEither': WHATEVER THE INPUT: true; the input reads as it did. -/
def compileBestIsEitherSpec : ChangeSpec := { name := "compileBestIsEither", fn := fun _ => fun
  | [d1, d2] => { results := [.lit (.bool true)], args := [d1, d2] }
  | _ => none }
def compileBestIsEitherRow : OpenClaim := { program := "ytjefjhcaicohjaa", sum := "25a71a3f803384cf1c794f24638a00229fc475641e25a85a13ea02ec4cf89c1c", func := "helmsman/helmsmanlaw2.CompileBestIsEither", spec := "compileBestIsEither", unfollowed := true, recurses := true, apart := false }
def CompileBestIsEitherSaid : Prop := compileBestIsEitherRow.holds Try.pinned (OpenSpec.ofChange compileBestIsEitherSpec)

/-- ITS FALSE NEIGHBOUR: 'it returns false'. Refute it at one input. -/
def compileBestIsEitherWrong : ChangeSpec := { name := "compileBestIsEither", fn := fun _ => fun
  | [d1, d2] => { results := [.lit (.bool false)], args := [d1, d2] }
  | _ => none }
def CompileBestIsEitherWrongFalsely : Prop := compileBestIsEitherRow.holds Try.pinned (OpenSpec.ofChange compileBestIsEitherWrong)

/-- 'helmsmanlaw2.TrajectoryMatchesSpec': WHATEVER THE INPUT: true; the input reads as it did. -/
def trajectoryMatchesSpecSpec : ChangeSpec := { name := "trajectoryMatchesSpec", fn := fun _ => fun
  | [d1, d2, d3] => { results := [.lit (.bool true)], args := [d1, d2, d3] }
  | _ => none }
def trajectoryMatchesSpecRow : OpenClaim := { program := "ytjefjhcaicohjaa", sum := "25a71a3f803384cf1c794f24638a00229fc475641e25a85a13ea02ec4cf89c1c", func := "helmsman/helmsmanlaw2.TrajectoryMatchesSpec", spec := "trajectoryMatchesSpec", unfollowed := true, recurses := true, apart := false }
def TrajectoryMatchesSpecSaid : Prop := trajectoryMatchesSpecRow.holds Try.pinned (OpenSpec.ofChange trajectoryMatchesSpecSpec)

/-- ITS FALSE NEIGHBOUR: 'it returns false'. Refute it at one input. -/
def trajectoryMatchesSpecWrong : ChangeSpec := { name := "trajectoryMatchesSpec", fn := fun _ => fun
  | [d1, d2, d3] => { results := [.lit (.bool false)], args := [d1, d2, d3] }
  | _ => none }
def TrajectoryMatchesSpecWrongFalsely : Prop := trajectoryMatchesSpecRow.holds Try.pinned (OpenSpec.ofChange trajectoryMatchesSpecWrong)

/-- 'helmsmanlaw2.TrajectoryProgresses': WHATEVER THE INPUT: true; the input reads as it did. -/
def trajectoryProgressesSpec : ChangeSpec := { name := "trajectoryProgresses", fn := fun _ => fun
  | [d1, d2, d3] => { results := [.lit (.bool true)], args := [d1, d2, d3] }
  | _ => none }
def trajectoryProgressesRow : OpenClaim := { program := "ytjefjhcaicohjaa", sum := "25a71a3f803384cf1c794f24638a00229fc475641e25a85a13ea02ec4cf89c1c", func := "helmsman/helmsmanlaw2.TrajectoryProgresses", spec := "trajectoryProgresses", unfollowed := true, recurses := true, apart := false }
def TrajectoryProgressesSaid : Prop := trajectoryProgressesRow.holds Try.pinned (OpenSpec.ofChange trajectoryProgressesSpec)

/-- ITS FALSE NEIGHBOUR: 'it returns false'. Refute it at one input. -/
def trajectoryProgressesWrong : ChangeSpec := { name := "trajectoryProgresses", fn := fun _ => fun
  | [d1, d2, d3] => { results := [.lit (.bool false)], args := [d1, d2, d3] }
  | _ => none }
def TrajectoryProgressesWrongFalsely : Prop := trajectoryProgressesRow.holds Try.pinned (OpenSpec.ofChange trajectoryProgressesWrong)

/-- 'helmsmanlaw2.TrajectoryProgressMatchesSpec': WHATEVER THE INPUT: true; the input reads as it did. -/
def trajectoryProgressMatchesSpecSpec : ChangeSpec := { name := "trajectoryProgressMatchesSpec", fn := fun _ => fun
  | [d1, d2, d3] => { results := [.lit (.bool true)], args := [d1, d2, d3] }
  | _ => none }
def trajectoryProgressMatchesSpecRow : OpenClaim := { program := "ytjefjhcaicohjaa", sum := "25a71a3f803384cf1c794f24638a00229fc475641e25a85a13ea02ec4cf89c1c", func := "helmsman/helmsmanlaw2.TrajectoryProgressMatchesSpec", spec := "trajectoryProgressMatchesSpec", unfollowed := true, recurses := true, apart := false }
def TrajectoryProgressMatchesSpecSaid : Prop := trajectoryProgressMatchesSpecRow.holds Try.pinned (OpenSpec.ofChange trajectoryProgressMatchesSpecSpec)

/-- ITS FALSE NEIGHBOUR: 'it returns false'. Refute it at one input. -/
def trajectoryProgressMatchesSpecWrong : ChangeSpec := { name := "trajectoryProgressMatchesSpec", fn := fun _ => fun
  | [d1, d2, d3] => { results := [.lit (.bool false)], args := [d1, d2, d3] }
  | _ => none }
def TrajectoryProgressMatchesSpecWrongFalsely : Prop := trajectoryProgressMatchesSpecRow.holds Try.pinned (OpenSpec.ofChange trajectoryProgressMatchesSpecWrong)

/-- 'helmsmanlaw2.TrajectoryDuality': WHATEVER THE INPUT: true; the input reads as it did. -/
def trajectoryDualitySpec : ChangeSpec := { name := "trajectoryDuality", fn := fun _ => fun
  | [d1, d2, d3] => { results := [.lit (.bool true)], args := [d1, d2, d3] }
  | _ => none }
def trajectoryDualityRow : OpenClaim := { program := "ytjefjhcaicohjaa", sum := "25a71a3f803384cf1c794f24638a00229fc475641e25a85a13ea02ec4cf89c1c", func := "helmsman/helmsmanlaw2.TrajectoryDuality", spec := "trajectoryDuality", unfollowed := true, recurses := true, apart := false }
def TrajectoryDualitySaid : Prop := trajectoryDualityRow.holds Try.pinned (OpenSpec.ofChange trajectoryDualitySpec)

/-- ITS FALSE NEIGHBOUR: 'it returns false'. Refute it at one input. -/
def trajectoryDualityWrong : ChangeSpec := { name := "trajectoryDuality", fn := fun _ => fun
  | [d1, d2, d3] => { results := [.lit (.bool false)], args := [d1, d2, d3] }
  | _ => none }
def TrajectoryDualityWrongFalsely : Prop := trajectoryDualityRow.holds Try.pinned (OpenSpec.ofChange trajectoryDualityWrong)

/-- 'helmsmanlaw2.NumericMatchesSpec': WHATEVER THE INPUT: true; the input reads as it did. -/
def numericMatchesSpecSpec : ChangeSpec := { name := "numericMatchesSpec", fn := fun _ => fun
  | [d1, d2, d3, d4] => { results := [.lit (.bool true)], args := [d1, d2, d3, d4] }
  | _ => none }
def numericMatchesSpecRow : OpenClaim := { program := "ytjefjhcaicohjaa", sum := "25a71a3f803384cf1c794f24638a00229fc475641e25a85a13ea02ec4cf89c1c", func := "helmsman/helmsmanlaw2.NumericMatchesSpec", spec := "numericMatchesSpec", unfollowed := true, recurses := true, apart := false }
def NumericMatchesSpecSaid : Prop := numericMatchesSpecRow.holds Try.pinned (OpenSpec.ofChange numericMatchesSpecSpec)

/-- ITS FALSE NEIGHBOUR: 'it returns false'. Refute it at one input. -/
def numericMatchesSpecWrong : ChangeSpec := { name := "numericMatchesSpec", fn := fun _ => fun
  | [d1, d2, d3, d4] => { results := [.lit (.bool false)], args := [d1, d2, d3, d4] }
  | _ => none }
def NumericMatchesSpecWrongFalsely : Prop := numericMatchesSpecRow.holds Try.pinned (OpenSpec.ofChange numericMatchesSpecWrong)

/-- 'helmsmanlaw2.NumericBoundsMatchSpec': WHATEVER THE INPUT: true; the input reads as it did. -/
def numericBoundsMatchSpecSpec : ChangeSpec := { name := "numericBoundsMatchSpec", fn := fun _ => fun
  | [d1, d2] => { results := [.lit (.bool true)], args := [d1, d2] }
  | _ => none }
def numericBoundsMatchSpecRow : OpenClaim := { program := "ytjefjhcaicohjaa", sum := "25a71a3f803384cf1c794f24638a00229fc475641e25a85a13ea02ec4cf89c1c", func := "helmsman/helmsmanlaw2.NumericBoundsMatchSpec", spec := "numericBoundsMatchSpec", unfollowed := true, recurses := true, apart := false }
def NumericBoundsMatchSpecSaid : Prop := numericBoundsMatchSpecRow.holds Try.pinned (OpenSpec.ofChange numericBoundsMatchSpecSpec)

/-- ITS FALSE NEIGHBOUR: 'it returns false'. Refute it at one input. -/
def numericBoundsMatchSpecWrong : ChangeSpec := { name := "numericBoundsMatchSpec", fn := fun _ => fun
  | [d1, d2] => { results := [.lit (.bool false)], args := [d1, d2] }
  | _ => none }
def NumericBoundsMatchSpecWrongFalsely : Prop := numericBoundsMatchSpecRow.holds Try.pinned (OpenSpec.ofChange numericBoundsMatchSpecWrong)

/-- 'helmsmanlaw2.NumericBoundsContain': WHATEVER THE INPUT: true; the input reads as it did. -/
def numericBoundsContainSpec : ChangeSpec := { name := "numericBoundsContain", fn := fun _ => fun
  | [d1, d2] => { results := [.lit (.bool true)], args := [d1, d2] }
  | _ => none }
def numericBoundsContainRow : OpenClaim := { program := "ytjefjhcaicohjaa", sum := "25a71a3f803384cf1c794f24638a00229fc475641e25a85a13ea02ec4cf89c1c", func := "helmsman/helmsmanlaw2.NumericBoundsContain", spec := "numericBoundsContain", unfollowed := true, recurses := true, apart := false }
def NumericBoundsContainSaid : Prop := numericBoundsContainRow.holds Try.pinned (OpenSpec.ofChange numericBoundsContainSpec)

/-- ITS FALSE NEIGHBOUR: 'it returns false'. Refute it at one input. -/
def numericBoundsContainWrong : ChangeSpec := { name := "numericBoundsContain", fn := fun _ => fun
  | [d1, d2] => { results := [.lit (.bool false)], args := [d1, d2] }
  | _ => none }
def NumericBoundsContainWrongFalsely : Prop := numericBoundsContainRow.holds Try.pinned (OpenSpec.ofChange numericBoundsContainWrong)

/-- 'helmsmanlaw2.NumericBoundsGrow': WHATEVER THE INPUT: true; the input reads as it did. -/
def numericBoundsGrowSpec : ChangeSpec := { name := "numericBoundsGrow", fn := fun _ => fun
  | [d1, d2] => { results := [.lit (.bool true)], args := [d1, d2] }
  | _ => none }
def numericBoundsGrowRow : OpenClaim := { program := "ytjefjhcaicohjaa", sum := "25a71a3f803384cf1c794f24638a00229fc475641e25a85a13ea02ec4cf89c1c", func := "helmsman/helmsmanlaw2.NumericBoundsGrow", spec := "numericBoundsGrow", unfollowed := true, recurses := true, apart := false }
def NumericBoundsGrowSaid : Prop := numericBoundsGrowRow.holds Try.pinned (OpenSpec.ofChange numericBoundsGrowSpec)

/-- ITS FALSE NEIGHBOUR: 'it returns false'. Refute it at one input. -/
def numericBoundsGrowWrong : ChangeSpec := { name := "numericBoundsGrow", fn := fun _ => fun
  | [d1, d2] => { results := [.lit (.bool false)], args := [d1, d2] }
  | _ => none }
def NumericBoundsGrowWrongFalsely : Prop := numericBoundsGrowRow.holds Try.pinned (OpenSpec.ofChange numericBoundsGrowWrong)

/-- 'helmsmanlaw2.NumericSums': WHATEVER THE INPUT: true; the input reads as it did. -/
def numericSumsSpec : ChangeSpec := { name := "numericSums", fn := fun _ => fun
  | [d1, d2, d3] => { results := [.lit (.bool true)], args := [d1, d2, d3] }
  | _ => none }
def numericSumsRow : OpenClaim := { program := "ytjefjhcaicohjaa", sum := "25a71a3f803384cf1c794f24638a00229fc475641e25a85a13ea02ec4cf89c1c", func := "helmsman/helmsmanlaw2.NumericSums", spec := "numericSums", unfollowed := true, recurses := true, apart := false }
def NumericSumsSaid : Prop := numericSumsRow.holds Try.pinned (OpenSpec.ofChange numericSumsSpec)

/-- ITS FALSE NEIGHBOUR: 'it returns false'. Refute it at one input. -/
def numericSumsWrong : ChangeSpec := { name := "numericSums", fn := fun _ => fun
  | [d1, d2, d3] => { results := [.lit (.bool false)], args := [d1, d2, d3] }
  | _ => none }
def NumericSumsWrongFalsely : Prop := numericSumsRow.holds Try.pinned (OpenSpec.ofChange numericSumsWrong)

/- THE SECOND FORM. 'bulk': how many values and letters a reading holds, each counted each time it is reached (what is shared counts as often as it is met; a slice's spare places count too). A statement '..UptoSaid' is the law's where the arguments, and the package variables that the reading takes, are together of bulk at most 1048576: NARROWER than '..Said'. Prove '..Said' where nothing that the law and all that it calls make is longer than what came in: it says more and counts as full. Else prove '..UptoSaid'. A law counts once. -/
mutual
def uptoBulk {H : Type} : DataW H → Nat
  | .lit (.string bytes) => bytes.length + 1
  | .lit _ => 1
  | .nil => 1
  | .ptr d => uptoBulk d + 1
  | .slice elems spare => uptoBulkAll elems + uptoBulkAll spare + 1
  | .agg parts => uptoBulkAll parts + 1
  | .iface _ d => uptoBulk d + 1
  | .map entries => uptoBulkEntries entries + 1
  | .held _ => 1
def uptoBulkAll {H : Type} : List (DataW H) → Nat
  | [] => 0
  | d :: r => uptoBulk d + uptoBulkAll r
def uptoBulkEntries {H : Type} : List (Lit × DataW H) → Nat
  | [] => 0
  | x :: r => uptoBulkEntry x + uptoBulkEntries r
def uptoBulkEntry {H : Type} : Lit × DataW H → Nat
  | (.string bytes, d) => bytes.length + uptoBulk d + 1
  | (_, d) => uptoBulk d + 1
 end
def uptoSmall : (H : Type) → List (DataW H) → Bool := fun _ ds => decide (uptoBulkAll ds ≤ 1048576)
def OpenSpec.upto (s : _root_.Go.ChangeSpec) : _root_.Go.OpenSpec := { _root_.Go.OpenSpec.ofChange s with cond := some uptoSmall }

/-- 'helmsmanlaw2.CompileMatchesSpec', WHERE WHAT IT READS IS OF BULK AT MOST 1048576: true; the input reads as it did. -/
def compileMatchesSpecUptoRow : OpenClaim := { program := "ytjefjhcaicohjaa", sum := "25a71a3f803384cf1c794f24638a00229fc475641e25a85a13ea02ec4cf89c1c", func := "helmsman/helmsmanlaw2.CompileMatchesSpec", spec := "compileMatchesSpec", unfollowed := true, recurses := true, apart := false, narrowed := true }
def CompileMatchesSpecUptoSaid : Prop := compileMatchesSpecUptoRow.holds Try.pinned (OpenSpec.upto compileMatchesSpecSpec)

/-- 'helmsmanlaw2.CompileProductMatchesSpec', WHERE WHAT IT READS IS OF BULK AT MOST 1048576: true; the input reads as it did. -/
def compileProductMatchesSpecUptoRow : OpenClaim := { program := "ytjefjhcaicohjaa", sum := "25a71a3f803384cf1c794f24638a00229fc475641e25a85a13ea02ec4cf89c1c", func := "helmsman/helmsmanlaw2.CompileProductMatchesSpec", spec := "compileProductMatchesSpec", unfollowed := true, recurses := true, apart := false, narrowed := true }
def CompileProductMatchesSpecUptoSaid : Prop := compileProductMatchesSpecUptoRow.holds Try.pinned (OpenSpec.upto compileProductMatchesSpecSpec)

/-- 'helmsmanlaw2.CompileBestIsEither', WHERE WHAT IT READS IS OF BULK AT MOST 1048576: true; the input reads as it did. -/
def compileBestIsEitherUptoRow : OpenClaim := { program := "ytjefjhcaicohjaa", sum := "25a71a3f803384cf1c794f24638a00229fc475641e25a85a13ea02ec4cf89c1c", func := "helmsman/helmsmanlaw2.CompileBestIsEither", spec := "compileBestIsEither", unfollowed := true, recurses := true, apart := false, narrowed := true }
def CompileBestIsEitherUptoSaid : Prop := compileBestIsEitherUptoRow.holds Try.pinned (OpenSpec.upto compileBestIsEitherSpec)

/-- 'helmsmanlaw2.TrajectoryMatchesSpec', WHERE WHAT IT READS IS OF BULK AT MOST 1048576: true; the input reads as it did. -/
def trajectoryMatchesSpecUptoRow : OpenClaim := { program := "ytjefjhcaicohjaa", sum := "25a71a3f803384cf1c794f24638a00229fc475641e25a85a13ea02ec4cf89c1c", func := "helmsman/helmsmanlaw2.TrajectoryMatchesSpec", spec := "trajectoryMatchesSpec", unfollowed := true, recurses := true, apart := false, narrowed := true }
def TrajectoryMatchesSpecUptoSaid : Prop := trajectoryMatchesSpecUptoRow.holds Try.pinned (OpenSpec.upto trajectoryMatchesSpecSpec)

/-- 'helmsmanlaw2.TrajectoryProgresses', WHERE WHAT IT READS IS OF BULK AT MOST 1048576: true; the input reads as it did. -/
def trajectoryProgressesUptoRow : OpenClaim := { program := "ytjefjhcaicohjaa", sum := "25a71a3f803384cf1c794f24638a00229fc475641e25a85a13ea02ec4cf89c1c", func := "helmsman/helmsmanlaw2.TrajectoryProgresses", spec := "trajectoryProgresses", unfollowed := true, recurses := true, apart := false, narrowed := true }
def TrajectoryProgressesUptoSaid : Prop := trajectoryProgressesUptoRow.holds Try.pinned (OpenSpec.upto trajectoryProgressesSpec)

/-- 'helmsmanlaw2.TrajectoryProgressMatchesSpec', WHERE WHAT IT READS IS OF BULK AT MOST 1048576: true; the input reads as it did. -/
def trajectoryProgressMatchesSpecUptoRow : OpenClaim := { program := "ytjefjhcaicohjaa", sum := "25a71a3f803384cf1c794f24638a00229fc475641e25a85a13ea02ec4cf89c1c", func := "helmsman/helmsmanlaw2.TrajectoryProgressMatchesSpec", spec := "trajectoryProgressMatchesSpec", unfollowed := true, recurses := true, apart := false, narrowed := true }
def TrajectoryProgressMatchesSpecUptoSaid : Prop := trajectoryProgressMatchesSpecUptoRow.holds Try.pinned (OpenSpec.upto trajectoryProgressMatchesSpecSpec)

/-- 'helmsmanlaw2.TrajectoryDuality', WHERE WHAT IT READS IS OF BULK AT MOST 1048576: true; the input reads as it did. -/
def trajectoryDualityUptoRow : OpenClaim := { program := "ytjefjhcaicohjaa", sum := "25a71a3f803384cf1c794f24638a00229fc475641e25a85a13ea02ec4cf89c1c", func := "helmsman/helmsmanlaw2.TrajectoryDuality", spec := "trajectoryDuality", unfollowed := true, recurses := true, apart := false, narrowed := true }
def TrajectoryDualityUptoSaid : Prop := trajectoryDualityUptoRow.holds Try.pinned (OpenSpec.upto trajectoryDualitySpec)

/-- 'helmsmanlaw2.NumericMatchesSpec', WHERE WHAT IT READS IS OF BULK AT MOST 1048576: true; the input reads as it did. -/
def numericMatchesSpecUptoRow : OpenClaim := { program := "ytjefjhcaicohjaa", sum := "25a71a3f803384cf1c794f24638a00229fc475641e25a85a13ea02ec4cf89c1c", func := "helmsman/helmsmanlaw2.NumericMatchesSpec", spec := "numericMatchesSpec", unfollowed := true, recurses := true, apart := false, narrowed := true }
def NumericMatchesSpecUptoSaid : Prop := numericMatchesSpecUptoRow.holds Try.pinned (OpenSpec.upto numericMatchesSpecSpec)

/-- 'helmsmanlaw2.NumericBoundsMatchSpec', WHERE WHAT IT READS IS OF BULK AT MOST 1048576: true; the input reads as it did. -/
def numericBoundsMatchSpecUptoRow : OpenClaim := { program := "ytjefjhcaicohjaa", sum := "25a71a3f803384cf1c794f24638a00229fc475641e25a85a13ea02ec4cf89c1c", func := "helmsman/helmsmanlaw2.NumericBoundsMatchSpec", spec := "numericBoundsMatchSpec", unfollowed := true, recurses := true, apart := false, narrowed := true }
def NumericBoundsMatchSpecUptoSaid : Prop := numericBoundsMatchSpecUptoRow.holds Try.pinned (OpenSpec.upto numericBoundsMatchSpecSpec)

/-- 'helmsmanlaw2.NumericBoundsContain', WHERE WHAT IT READS IS OF BULK AT MOST 1048576: true; the input reads as it did. -/
def numericBoundsContainUptoRow : OpenClaim := { program := "ytjefjhcaicohjaa", sum := "25a71a3f803384cf1c794f24638a00229fc475641e25a85a13ea02ec4cf89c1c", func := "helmsman/helmsmanlaw2.NumericBoundsContain", spec := "numericBoundsContain", unfollowed := true, recurses := true, apart := false, narrowed := true }
def NumericBoundsContainUptoSaid : Prop := numericBoundsContainUptoRow.holds Try.pinned (OpenSpec.upto numericBoundsContainSpec)

/-- 'helmsmanlaw2.NumericBoundsGrow', WHERE WHAT IT READS IS OF BULK AT MOST 1048576: true; the input reads as it did. -/
def numericBoundsGrowUptoRow : OpenClaim := { program := "ytjefjhcaicohjaa", sum := "25a71a3f803384cf1c794f24638a00229fc475641e25a85a13ea02ec4cf89c1c", func := "helmsman/helmsmanlaw2.NumericBoundsGrow", spec := "numericBoundsGrow", unfollowed := true, recurses := true, apart := false, narrowed := true }
def NumericBoundsGrowUptoSaid : Prop := numericBoundsGrowUptoRow.holds Try.pinned (OpenSpec.upto numericBoundsGrowSpec)

/-- 'helmsmanlaw2.NumericSums', WHERE WHAT IT READS IS OF BULK AT MOST 1048576: true; the input reads as it did. -/
def numericSumsUptoRow : OpenClaim := { program := "ytjefjhcaicohjaa", sum := "25a71a3f803384cf1c794f24638a00229fc475641e25a85a13ea02ec4cf89c1c", func := "helmsman/helmsmanlaw2.NumericSums", spec := "numericSums", unfollowed := true, recurses := true, apart := false, narrowed := true }
def NumericSumsUptoSaid : Prop := numericSumsUptoRow.holds Try.pinned (OpenSpec.upto numericSumsSpec)

end Rows
end Go.Proofs.Ytjefjhcaicohjaa
