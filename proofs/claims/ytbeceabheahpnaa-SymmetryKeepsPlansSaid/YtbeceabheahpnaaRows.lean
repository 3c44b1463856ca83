/-
  No cell of these rows narrows 'for every input' (looked for: loops, veiled, ifaces, maps, wideKeys, modest, calm, conditions, laid).
  DERIVED. THE GIVEN ROWS OF THIS SEAT. 5 by the template 'for every input the law returns true; each argument reads behind the call as it read before'; 0 by the template 'total and deterministic' (their statements: YtbeceabheahpnaaTotals.lean).
  GIVEN WITH THE SEED: the statements are not yours to turn. If you find one false, say at which input.
  Laid BY PROGRAM, IN A SANDBOX (cutbox-rows.mjs): the forced cells as the released guide's own fill.sh prints them over the translation d9c78a24c3c9a7b4… (all of the seat's roots in one cut). By AI agents, Wed Nov 11 2026. No macro, syntax, notation, axiom, sorry.
-/
import Derived.Test.YtbeceabheahpnaaChecked
import GoSem.Claim
import GoSem.ClaimJoined
import GoSem.ClaimMapViews
import Derived.JoinedTies
import Derived.KernelRfl
namespace Go.Proofs.Ytbeceabheahpnaa
/- THE CELL 'sum', in the pinned program and in every row, IS THE sha256 OF THE DUMP (.gsa) THAT YtbeceabheahpnaaProg.lean LOADS. Nothing in Lean hashes anything: it is a label: what it is worth is what the hold of that sum in a sandbox is worth. -/
noncomputable def Try.pinned : Pinned := { name := "ytbeceabheahpnaa", sum := "d9c78a24c3c9a7b47e3297bbcae14ee9423fbed59a5600ae55f6f730dc51ef5d", checked := Try.checked }
namespace Rows
def none {H : Type} : Left H := { results := [], args := [] }

/-- 'helmsmanlaw2.SymmetryMatchesSpec': WHATEVER THE INPUT: true; the input reads as it did. -/
def symmetryMatchesSpecSpec : ChangeSpec := { name := "symmetryMatchesSpec", fn := fun _ => fun
  | [d1, d2] => { results := [.lit (.bool true)], args := [d1, d2] }
  | _ => none }
def symmetryMatchesSpecRow : OpenClaim := { program := "ytbeceabheahpnaa", sum := "d9c78a24c3c9a7b47e3297bbcae14ee9423fbed59a5600ae55f6f730dc51ef5d", func := "helmsman/helmsmanlaw2.SymmetryMatchesSpec", spec := "symmetryMatchesSpec", unfollowed := true, recurses := true, apart := false }
def SymmetryMatchesSpecSaid : Prop := symmetryMatchesSpecRow.holds Try.pinned (OpenSpec.ofChange symmetryMatchesSpecSpec)

/-- ITS FALSE NEIGHBOUR: 'it returns false'. Refute it at one input. -/
def symmetryMatchesSpecWrong : ChangeSpec := { name := "symmetryMatchesSpec", fn := fun _ => fun
  | [d1, d2] => { results := [.lit (.bool false)], args := [d1, d2] }
  | _ => none }
def SymmetryMatchesSpecWrongFalsely : Prop := symmetryMatchesSpecRow.holds Try.pinned (OpenSpec.ofChange symmetryMatchesSpecWrong)

/-- 'helmsmanlaw2.SymmetryAllMatchesSpec': WHATEVER THE INPUT: true; the input reads as it did. -/
def symmetryAllMatchesSpecSpec : ChangeSpec := { name := "symmetryAllMatchesSpec", fn := fun _ => fun
  | [d1, d2] => { results := [.lit (.bool true)], args := [d1, d2] }
  | _ => none }
def symmetryAllMatchesSpecRow : OpenClaim := { program := "ytbeceabheahpnaa", sum := "d9c78a24c3c9a7b47e3297bbcae14ee9423fbed59a5600ae55f6f730dc51ef5d", func := "helmsman/helmsmanlaw2.SymmetryAllMatchesSpec", spec := "symmetryAllMatchesSpec", unfollowed := true, recurses := true, apart := false }
def SymmetryAllMatchesSpecSaid : Prop := symmetryAllMatchesSpecRow.holds Try.pinned (OpenSpec.ofChange symmetryAllMatchesSpecSpec)

/-- ITS FALSE NEIGHBOUR: 'it returns false'. Refute it at one input. -/
def symmetryAllMatchesSpecWrong : ChangeSpec := { name := "symmetryAllMatchesSpec", fn := fun _ => fun
  | [d1, d2] => { results := [.lit (.bool false)], args := [d1, d2] }
  | _ => none }
def SymmetryAllMatchesSpecWrongFalsely : Prop := symmetryAllMatchesSpecRow.holds Try.pinned (OpenSpec.ofChange symmetryAllMatchesSpecWrong)

/-- 'helmsmanlaw2.SymmetryFormsAGroup': WHATEVER THE INPUT: true; the input reads as it did. -/
def symmetryFormsAGroupSpec : ChangeSpec := { name := "symmetryFormsAGroup", fn := fun _ => fun
  | [d1, d2, d3] => { results := [.lit (.bool true)], args := [d1, d2, d3] }
  | _ => none }
def symmetryFormsAGroupRow : OpenClaim := { program := "ytbeceabheahpnaa", sum := "d9c78a24c3c9a7b47e3297bbcae14ee9423fbed59a5600ae55f6f730dc51ef5d", func := "helmsman/helmsmanlaw2.SymmetryFormsAGroup", spec := "symmetryFormsAGroup", unfollowed := true, recurses := true, apart := false }
def SymmetryFormsAGroupSaid : Prop := symmetryFormsAGroupRow.holds Try.pinned (OpenSpec.ofChange symmetryFormsAGroupSpec)

/-- ITS FALSE NEIGHBOUR: 'it returns false'. Refute it at one input. -/
def symmetryFormsAGroupWrong : ChangeSpec := { name := "symmetryFormsAGroup", fn := fun _ => fun
  | [d1, d2, d3] => { results := [.lit (.bool false)], args := [d1, d2, d3] }
  | _ => none }
def SymmetryFormsAGroupWrongFalsely : Prop := symmetryFormsAGroupRow.holds Try.pinned (OpenSpec.ofChange symmetryFormsAGroupWrong)

/-- 'helmsmanlaw2.SymmetryCanonicalStatesAgree': WHATEVER THE INPUT: true; the input reads as it did. -/
def symmetryCanonicalStatesAgreeSpec : ChangeSpec := { name := "symmetryCanonicalStatesAgree", fn := fun _ => fun
  | [d1, d2, d3] => { results := [.lit (.bool true)], args := [d1, d2, d3] }
  | _ => none }
def symmetryCanonicalStatesAgreeRow : OpenClaim := { program := "ytbeceabheahpnaa", sum := "d9c78a24c3c9a7b47e3297bbcae14ee9423fbed59a5600ae55f6f730dc51ef5d", func := "helmsman/helmsmanlaw2.SymmetryCanonicalStatesAgree", spec := "symmetryCanonicalStatesAgree", unfollowed := true, recurses := true, apart := false }
def SymmetryCanonicalStatesAgreeSaid : Prop := symmetryCanonicalStatesAgreeRow.holds Try.pinned (OpenSpec.ofChange symmetryCanonicalStatesAgreeSpec)

/-- ITS FALSE NEIGHBOUR: 'it returns false'. Refute it at one input. -/
def symmetryCanonicalStatesAgreeWrong : ChangeSpec := { name := "symmetryCanonicalStatesAgree", fn := fun _ => fun
  | [d1, d2, d3] => { results := [.lit (.bool false)], args := [d1, d2, d3] }
  | _ => none }
def SymmetryCanonicalStatesAgreeWrongFalsely : Prop := symmetryCanonicalStatesAgreeRow.holds Try.pinned (OpenSpec.ofChange symmetryCanonicalStatesAgreeWrong)

/-- 'helmsmanlaw2.SymmetryKeepsPlans': WHATEVER THE INPUT: true; the input reads as it did. -/
def symmetryKeepsPlansSpec : ChangeSpec := { name := "symmetryKeepsPlans", fn := fun _ => fun
  | [d1, d2, d3, d4] => { results := [.lit (.bool true)], args := [d1, d2, d3, d4] }
  | _ => none }
def symmetryKeepsPlansRow : OpenClaim := { program := "ytbeceabheahpnaa", sum := "d9c78a24c3c9a7b47e3297bbcae14ee9423fbed59a5600ae55f6f730dc51ef5d", func := "helmsman/helmsmanlaw2.SymmetryKeepsPlans", spec := "symmetryKeepsPlans", unfollowed := true, recurses := true, apart := false }
def SymmetryKeepsPlansSaid : Prop := symmetryKeepsPlansRow.holds Try.pinned (OpenSpec.ofChange symmetryKeepsPlansSpec)

/-- ITS FALSE NEIGHBOUR: 'it returns false'. Refute it at one input. -/
def symmetryKeepsPlansWrong : ChangeSpec := { name := "symmetryKeepsPlans", fn := fun _ => fun
  | [d1, d2, d3, d4] => { results := [.lit (.bool false)], args := [d1, d2, d3, d4] }
  | _ => none }
def SymmetryKeepsPlansWrongFalsely : Prop := symmetryKeepsPlansRow.holds Try.pinned (OpenSpec.ofChange symmetryKeepsPlansWrong)

/- THE SECOND FORM. 'bulk': how many values and letters a reading holds, each counted each time it is reached (what is shared counts as often as it is met; a slice's spare places count too). A statement '..UptoSaid' is the law's where the arguments, and the package variables that the reading takes, are together of bulk at most 1048576: NARROWER than '..Said'. Prove '..Said' where nothing that the law and all that it calls make is longer than what came in: it says more and counts as full. Else prove '..UptoSaid'. A law counts once. -/
mutual
def uptoBulk {H : Type} : DataW H → Nat
  | .lit (.string bytes) => bytes.length + 1
  | .lit _ => 1
  | .nil => 1
  | .ptr d => uptoBulk d + 1
  | .slice elems spare => uptoBulkAll elems + uptoBulkAll spare + 1
  | .agg parts => uptoBulkAll parts + 1
  | .iface _ d => uptoBulk d + 1
  | .map entries => uptoBulkEntries entries + 1
  | .held _ => 1
def uptoBulkAll {H : Type} : List (DataW H) → Nat
  | [] => 0
  | d :: r => uptoBulk d + uptoBulkAll r
def uptoBulkEntries {H : Type} : List (Lit × DataW H) → Nat
  | [] => 0
  | x :: r => uptoBulkEntry x + uptoBulkEntries r
def uptoBulkEntry {H : Type} : Lit × DataW H → Nat
  | (.string bytes, d) => bytes.length + uptoBulk d + 1
  | (_, d) => uptoBulk d + 1
 end
def uptoSmall : (H : Type) → List (DataW H) → Bool := fun _ ds => decide (uptoBulkAll ds ≤ 1048576)
def OpenSpec.upto (s : _root_.Go.ChangeSpec) : _root_.Go.OpenSpec := { _root_.Go.OpenSpec.ofChange s with cond := some uptoSmall }

/-- 'helmsmanlaw2.SymmetryMatchesSpec', WHERE WHAT IT READS IS OF BULK AT MOST 1048576: true; the input reads as it did. -/
def symmetryMatchesSpecUptoRow : OpenClaim := { program := "ytbeceabheahpnaa", sum := "d9c78a24c3c9a7b47e3297bbcae14ee9423fbed59a5600ae55f6f730dc51ef5d", func := "helmsman/helmsmanlaw2.SymmetryMatchesSpec", spec := "symmetryMatchesSpec", unfollowed := true, recurses := true, apart := false, narrowed := true }
def SymmetryMatchesSpecUptoSaid : Prop := symmetryMatchesSpecUptoRow.holds Try.pinned (OpenSpec.upto symmetryMatchesSpecSpec)

/-- 'helmsmanlaw2.SymmetryAllMatchesSpec', WHERE WHAT IT READS IS OF BULK AT MOST 1048576: true; the input reads as it did. -/
def symmetryAllMatchesSpecUptoRow : OpenClaim := { program := "ytbeceabheahpnaa", sum := "d9c78a24c3c9a7b47e3297bbcae14ee9423fbed59a5600ae55f6f730dc51ef5d", func := "helmsman/helmsmanlaw2.SymmetryAllMatchesSpec", spec := "symmetryAllMatchesSpec", unfollowed := true, recurses := true, apart := false, narrowed := true }
def SymmetryAllMatchesSpecUptoSaid : Prop := symmetryAllMatchesSpecUptoRow.holds Try.pinned (OpenSpec.upto symmetryAllMatchesSpecSpec)

/-- 'helmsmanlaw2.SymmetryFormsAGroup', WHERE WHAT IT READS IS OF BULK AT MOST 1048576: true; the input reads as it did. -/
def symmetryFormsAGroupUptoRow : OpenClaim := { program := "ytbeceabheahpnaa", sum := "d9c78a24c3c9a7b47e3297bbcae14ee9423fbed59a5600ae55f6f730dc51ef5d", func := "helmsman/helmsmanlaw2.SymmetryFormsAGroup", spec := "symmetryFormsAGroup", unfollowed := true, recurses := true, apart := false, narrowed := true }
def SymmetryFormsAGroupUptoSaid : Prop := symmetryFormsAGroupUptoRow.holds Try.pinned (OpenSpec.upto symmetryFormsAGroupSpec)

/-- 'helmsmanlaw2.SymmetryCanonicalStatesAgree', WHERE WHAT IT READS IS OF BULK AT MOST 1048576: true; the input reads as it did. -/
def symmetryCanonicalStatesAgreeUptoRow : OpenClaim := { program := "ytbeceabheahpnaa", sum := "d9c78a24c3c9a7b47e3297bbcae14ee9423fbed59a5600ae55f6f730dc51ef5d", func := "helmsman/helmsmanlaw2.SymmetryCanonicalStatesAgree", spec := "symmetryCanonicalStatesAgree", unfollowed := true, recurses := true, apart := false, narrowed := true }
def SymmetryCanonicalStatesAgreeUptoSaid : Prop := symmetryCanonicalStatesAgreeUptoRow.holds Try.pinned (OpenSpec.upto symmetryCanonicalStatesAgreeSpec)

/-- 'helmsmanlaw2.SymmetryKeepsPlans', WHERE WHAT IT READS IS OF BULK AT MOST 1048576: true; the input reads as it did. -/
def symmetryKeepsPlansUptoRow : OpenClaim := { program := "ytbeceabheahpnaa", sum := "d9c78a24c3c9a7b47e3297bbcae14ee9423fbed59a5600ae55f6f730dc51ef5d", func := "helmsman/helmsmanlaw2.SymmetryKeepsPlans", spec := "symmetryKeepsPlans", unfollowed := true, recurses := true, apart := false, narrowed := true }
def SymmetryKeepsPlansUptoSaid : Prop := symmetryKeepsPlansUptoRow.holds Try.pinned (OpenSpec.upto symmetryKeepsPlansSpec)

end Rows
end Go.Proofs.Ytbeceabheahpnaa
