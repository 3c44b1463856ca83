/-
  No cell of these rows narrows 'for every input' (looked for: loops, veiled, ifaces, maps, wideKeys, modest, calm, conditions, laid).
  DERIVED. THE GIVEN ROWS OF THIS SEAT. 3 by the template 'for every input the law returns true; each argument reads behind the call as it read before'; 0 by the template 'total and deterministic' (their statements: YtkbiagkbmodgdaaGreatTotals.lean).
  GIVEN WITH THE SEED: the statements are not yours to turn. If you find one false, say at which input.
  Laid BY PROGRAM, IN A SANDBOX (cutbox-rows.mjs): the forced cells as the released guide's own fill.sh prints them over the translation a68d454bc8374047… (all of the seat's roots in one cut). By AI agents, Wed Nov 11 2026. No macro, syntax, notation, axiom, sorry.
-/
import Derived.Test.YtkbiagkbmodgdaaGreatChecked
import GoSem.Claim
import GoSem.ClaimJoined
import GoSem.ClaimMapViews
import Derived.JoinedTies
import Derived.KernelRfl
namespace Go.Proofs.YtkbiagkbmodgdaaGreat
/- THE CELL 'sum', in the pinned program and in every row, IS THE sha256 OF THE DUMP (.gsa) THAT YtkbiagkbmodgdaaGreatProg.lean LOADS. Nothing in Lean hashes anything: it is a label: what it is worth is what the hold of that sum in a sandbox is worth. -/
noncomputable def Tryz.pinned : Pinned := { name := "ytkbiagkbmodgdaagreat", sum := "a68d454bc83740478209d0e436a6e48b06f2e8b10afdd115a5cd8919ffcf3ae1", checked := Tryz.checked }
namespace Rows
def none {H : Type} : Left H := { results := [], args := [] }

/-- 'helmsmanlaw2.PlannerCheckMatchesSpec': WHATEVER THE INPUT: true; the input reads as it did. -/
def plannerCheckMatchesSpecSpec : ChangeSpec := { name := "plannerCheckMatchesSpec", fn := fun _ => fun
  | [d1, d2] => { results := [.lit (.bool true)], args := [d1, d2] }
  | _ => none }
def plannerCheckMatchesSpecRow : OpenClaim := { program := "ytkbiagkbmodgdaagreat", sum := "a68d454bc83740478209d0e436a6e48b06f2e8b10afdd115a5cd8919ffcf3ae1", func := "helmsman/helmsmanlaw2.PlannerCheckMatchesSpec", spec := "plannerCheckMatchesSpec", unfollowed := true, recurses := true, plainKeys := false, leaving := true, apart := false }
def PlannerCheckMatchesSpecSaid : Prop := plannerCheckMatchesSpecRow.holds Tryz.pinned (OpenSpec.ofChange plannerCheckMatchesSpecSpec)

/-- ITS FALSE NEIGHBOUR: 'it returns false'. Refute it at one input. -/
def plannerCheckMatchesSpecWrong : ChangeSpec := { name := "plannerCheckMatchesSpec", fn := fun _ => fun
  | [d1, d2] => { results := [.lit (.bool false)], args := [d1, d2] }
  | _ => none }
def PlannerCheckMatchesSpecWrongFalsely : Prop := plannerCheckMatchesSpecRow.holds Tryz.pinned (OpenSpec.ofChange plannerCheckMatchesSpecWrong)

/-- 'helmsmanlaw2.PlannerProofsDecide': WHATEVER THE INPUT: true; the input reads as it did. -/
def plannerProofsDecideSpec : ChangeSpec := { name := "plannerProofsDecide", fn := fun _ => fun
  | [d1, d2, d3] => { results := [.lit (.bool true)], args := [d1, d2, d3] }
  | _ => none }
def plannerProofsDecideRow : OpenClaim := { program := "ytkbiagkbmodgdaagreat", sum := "a68d454bc83740478209d0e436a6e48b06f2e8b10afdd115a5cd8919ffcf3ae1", func := "helmsman/helmsmanlaw2.PlannerProofsDecide", spec := "plannerProofsDecide", unfollowed := true, recurses := true, plainKeys := false, leaving := true, apart := false }
def PlannerProofsDecideSaid : Prop := plannerProofsDecideRow.holds Tryz.pinned (OpenSpec.ofChange plannerProofsDecideSpec)

/-- ITS FALSE NEIGHBOUR: 'it returns false'. Refute it at one input. -/
def plannerProofsDecideWrong : ChangeSpec := { name := "plannerProofsDecide", fn := fun _ => fun
  | [d1, d2, d3] => { results := [.lit (.bool false)], args := [d1, d2, d3] }
  | _ => none }
def PlannerProofsDecideWrongFalsely : Prop := plannerProofsDecideRow.holds Tryz.pinned (OpenSpec.ofChange plannerProofsDecideWrong)

/-- 'helmsmanlaw2.PlannerWhyMatchesSpec': WHATEVER THE INPUT: true; the input reads as it did. -/
def plannerWhyMatchesSpecSpec : ChangeSpec := { name := "plannerWhyMatchesSpec", fn := fun _ => fun
  | [d1, d2] => { results := [.lit (.bool true)], args := [d1, d2] }
  | _ => none }
def plannerWhyMatchesSpecRow : OpenClaim := { program := "ytkbiagkbmodgdaagreat", sum := "a68d454bc83740478209d0e436a6e48b06f2e8b10afdd115a5cd8919ffcf3ae1", func := "helmsman/helmsmanlaw2.PlannerWhyMatchesSpec", spec := "plannerWhyMatchesSpec", unfollowed := true, recurses := true, plainKeys := false, leaving := true, apart := false }
def PlannerWhyMatchesSpecSaid : Prop := plannerWhyMatchesSpecRow.holds Tryz.pinned (OpenSpec.ofChange plannerWhyMatchesSpecSpec)

/-- ITS FALSE NEIGHBOUR: 'it returns false'. Refute it at one input. -/
def plannerWhyMatchesSpecWrong : ChangeSpec := { name := "plannerWhyMatchesSpec", fn := fun _ => fun
  | [d1, d2] => { results := [.lit (.bool false)], args := [d1, d2] }
  | _ => none }
def PlannerWhyMatchesSpecWrongFalsely : Prop := plannerWhyMatchesSpecRow.holds Tryz.pinned (OpenSpec.ofChange plannerWhyMatchesSpecWrong)

/- THE SECOND FORM. 'bulk': how many values and letters a reading holds, each counted each time it is reached (what is shared counts as often as it is met; a slice's spare places count too). A statement '..UptoSaid' is the law's where the arguments, and the package variables that the reading takes, are together of bulk at most 1048576: NARROWER than '..Said'. Prove '..Said' where nothing that the law and all that it calls make is longer than what came in: it says more and counts as full. Else prove '..UptoSaid'. A law counts once. -/
mutual
def uptoBulk {H : Type} : DataW H → Nat
  | .lit (.string bytes) => bytes.length + 1
  | .lit _ => 1
  | .nil => 1
  | .ptr d => uptoBulk d + 1
  | .slice elems spare => uptoBulkAll elems + uptoBulkAll spare + 1
  | .agg parts => uptoBulkAll parts + 1
  | .iface _ d => uptoBulk d + 1
  | .map entries => uptoBulkEntries entries + 1
  | .held _ => 1
def uptoBulkAll {H : Type} : List (DataW H) → Nat
  | [] => 0
  | d :: r => uptoBulk d + uptoBulkAll r
def uptoBulkEntries {H : Type} : List (Lit × DataW H) → Nat
  | [] => 0
  | x :: r => uptoBulkEntry x + uptoBulkEntries r
def uptoBulkEntry {H : Type} : Lit × DataW H → Nat
  | (.string bytes, d) => bytes.length + uptoBulk d + 1
  | (_, d) => uptoBulk d + 1
 end
def uptoSmall : (H : Type) → List (DataW H) → Bool := fun _ ds => decide (uptoBulkAll ds ≤ 1048576)
def OpenSpec.upto (s : _root_.Go.ChangeSpec) : _root_.Go.OpenSpec := { _root_.Go.OpenSpec.ofChange s with cond := some uptoSmall }

/-- 'helmsmanlaw2.PlannerCheckMatchesSpec', WHERE WHAT IT READS IS OF BULK AT MOST 1048576: true; the input reads as it did. -/
def plannerCheckMatchesSpecUptoRow : OpenClaim := { program := "ytkbiagkbmodgdaagreat", sum := "a68d454bc83740478209d0e436a6e48b06f2e8b10afdd115a5cd8919ffcf3ae1", func := "helmsman/helmsmanlaw2.PlannerCheckMatchesSpec", spec := "plannerCheckMatchesSpec", unfollowed := true, recurses := true, plainKeys := false, leaving := true, apart := false, narrowed := true }
def PlannerCheckMatchesSpecUptoSaid : Prop := plannerCheckMatchesSpecUptoRow.holds Tryz.pinned (OpenSpec.upto plannerCheckMatchesSpecSpec)

/-- 'helmsmanlaw2.PlannerProofsDecide', WHERE WHAT IT READS IS OF BULK AT MOST 1048576: true; the input reads as it did. -/
def plannerProofsDecideUptoRow : OpenClaim := { program := "ytkbiagkbmodgdaagreat", sum := "a68d454bc83740478209d0e436a6e48b06f2e8b10afdd115a5cd8919ffcf3ae1", func := "helmsman/helmsmanlaw2.PlannerProofsDecide", spec := "plannerProofsDecide", unfollowed := true, recurses := true, plainKeys := false, leaving := true, apart := false, narrowed := true }
def PlannerProofsDecideUptoSaid : Prop := plannerProofsDecideUptoRow.holds Tryz.pinned (OpenSpec.upto plannerProofsDecideSpec)

/-- 'helmsmanlaw2.PlannerWhyMatchesSpec', WHERE WHAT IT READS IS OF BULK AT MOST 1048576: true; the input reads as it did. -/
def plannerWhyMatchesSpecUptoRow : OpenClaim := { program := "ytkbiagkbmodgdaagreat", sum := "a68d454bc83740478209d0e436a6e48b06f2e8b10afdd115a5cd8919ffcf3ae1", func := "helmsman/helmsmanlaw2.PlannerWhyMatchesSpec", spec := "plannerWhyMatchesSpec", unfollowed := true, recurses := true, plainKeys := false, leaving := true, apart := false, narrowed := true }
def PlannerWhyMatchesSpecUptoSaid : Prop := plannerWhyMatchesSpecUptoRow.holds Tryz.pinned (OpenSpec.upto plannerWhyMatchesSpecSpec)

end Rows
end Go.Proofs.YtkbiagkbmodgdaaGreat
