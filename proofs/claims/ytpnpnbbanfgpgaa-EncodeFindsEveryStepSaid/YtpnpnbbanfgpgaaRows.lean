/-
  No cell of these rows narrows 'for every input' (looked for: loops, veiled, ifaces, maps, wideKeys, modest, calm, conditions, laid).
  DERIVED. THE GIVEN ROWS OF THIS SEAT. 3 by the template 'for every input the law returns true; each argument reads behind the call as it read before'; 0 by the template 'total and deterministic' (their statements: YtpnpnbbanfgpgaaTotals.lean).
  GIVEN WITH THE SEED: the statements are not yours to turn. If you find one false, say at which input.
  Laid BY PROGRAM, IN A SANDBOX (cutbox-rows.mjs): the forced cells as the released guide's own fill.sh prints them over the translation c1e537e824646bd7… (all of the seat's roots in one cut). By AI agents, Wed Nov 11 2026. No macro, syntax, notation, axiom, sorry.
-/
import Derived.Test.YtpnpnbbanfgpgaaChecked
import GoSem.Claim
import GoSem.ClaimJoined
import GoSem.ClaimMapViews
import Derived.JoinedTies
import Derived.KernelRfl
namespace Go.Proofs.Ytpnpnbbanfgpgaa
/- THE CELL 'sum', in the pinned program and in every row, IS THE sha256 OF THE DUMP (.gsa) THAT YtpnpnbbanfgpgaaProg.lean LOADS. Nothing in Lean hashes anything: it is a label: what it is worth is what the hold of that sum in a sandbox is worth. -/
noncomputable def Try.pinned : Pinned := { name := "ytpnpnbbanfgpgaa", sum := "c1e537e824646bd769ccfc41a382c58d0965bb9d68cedd56a87a3bdf4f0bf8c8", checked := Try.checked }
namespace Rows
def none {H : Type} : Left H := { results := [], args := [] }

/-- 'helmsmanlaw2.EncodeClassesDivide': WHATEVER THE INPUT: true; the input reads as it did. -/
def encodeClassesDivideSpec : ChangeSpec := { name := "encodeClassesDivide", fn := fun _ => fun
  | [d1, d2] => { results := [.lit (.bool true)], args := [d1, d2] }
  | _ => none }
def encodeClassesDivideRow : OpenClaim := { program := "ytpnpnbbanfgpgaa", sum := "c1e537e824646bd769ccfc41a382c58d0965bb9d68cedd56a87a3bdf4f0bf8c8", func := "helmsman/helmsmanlaw2.EncodeClassesDivide", spec := "encodeClassesDivide", unfollowed := true, recurses := true, apart := false }
def EncodeClassesDivideSaid : Prop := encodeClassesDivideRow.holds Try.pinned (OpenSpec.ofChange encodeClassesDivideSpec)

/-- ITS FALSE NEIGHBOUR: 'it returns false'. Refute it at one input. -/
def encodeClassesDivideWrong : ChangeSpec := { name := "encodeClassesDivide", fn := fun _ => fun
  | [d1, d2] => { results := [.lit (.bool false)], args := [d1, d2] }
  | _ => none }
def EncodeClassesDivideWrongFalsely : Prop := encodeClassesDivideRow.holds Try.pinned (OpenSpec.ofChange encodeClassesDivideWrong)

/-- 'helmsmanlaw2.EncodePlansAreKept': WHATEVER THE INPUT: true; the input reads as it did. -/
def encodePlansAreKeptSpec : ChangeSpec := { name := "encodePlansAreKept", fn := fun _ => fun
  | [d1, d2, d3] => { results := [.lit (.bool true)], args := [d1, d2, d3] }
  | _ => none }
def encodePlansAreKeptRow : OpenClaim := { program := "ytpnpnbbanfgpgaa", sum := "c1e537e824646bd769ccfc41a382c58d0965bb9d68cedd56a87a3bdf4f0bf8c8", func := "helmsman/helmsmanlaw2.EncodePlansAreKept", spec := "encodePlansAreKept", unfollowed := true, recurses := true, apart := false }
def EncodePlansAreKeptSaid : Prop := encodePlansAreKeptRow.holds Try.pinned (OpenSpec.ofChange encodePlansAreKeptSpec)

/-- ITS FALSE NEIGHBOUR: 'it returns false'. Refute it at one input. -/
def encodePlansAreKeptWrong : ChangeSpec := { name := "encodePlansAreKept", fn := fun _ => fun
  | [d1, d2, d3] => { results := [.lit (.bool false)], args := [d1, d2, d3] }
  | _ => none }
def EncodePlansAreKeptWrongFalsely : Prop := encodePlansAreKeptRow.holds Try.pinned (OpenSpec.ofChange encodePlansAreKeptWrong)

/-- 'helmsmanlaw2.EncodeFindsEveryStep': WHATEVER THE INPUT: true; the input reads as it did. -/
def encodeFindsEveryStepSpec : ChangeSpec := { name := "encodeFindsEveryStep", fn := fun _ => fun
  | [d1, d2, d3] => { results := [.lit (.bool true)], args := [d1, d2, d3] }
  | _ => none }
def encodeFindsEveryStepRow : OpenClaim := { program := "ytpnpnbbanfgpgaa", sum := "c1e537e824646bd769ccfc41a382c58d0965bb9d68cedd56a87a3bdf4f0bf8c8", func := "helmsman/helmsmanlaw2.EncodeFindsEveryStep", spec := "encodeFindsEveryStep", unfollowed := true, recurses := true, apart := false }
def EncodeFindsEveryStepSaid : Prop := encodeFindsEveryStepRow.holds Try.pinned (OpenSpec.ofChange encodeFindsEveryStepSpec)

/-- ITS FALSE NEIGHBOUR: 'it returns false'. Refute it at one input. -/
def encodeFindsEveryStepWrong : ChangeSpec := { name := "encodeFindsEveryStep", fn := fun _ => fun
  | [d1, d2, d3] => { results := [.lit (.bool false)], args := [d1, d2, d3] }
  | _ => none }
def EncodeFindsEveryStepWrongFalsely : Prop := encodeFindsEveryStepRow.holds Try.pinned (OpenSpec.ofChange encodeFindsEveryStepWrong)

/- THE SECOND FORM. 'bulk': how many values and letters a reading holds, each counted each time it is reached (what is shared counts as often as it is met; a slice's spare places count too). A statement '..UptoSaid' is the law's where the arguments, and the package variables that the reading takes, are together of bulk at most 1048576: NARROWER than '..Said'. Prove '..Said' where nothing that the law and all that it calls make is longer than what came in: it says more and counts as full. Else prove '..UptoSaid'. A law counts once. -/
mutual
def uptoBulk {H : Type} : DataW H → Nat
  | .lit (.string bytes) => bytes.length + 1
  | .lit _ => 1
  | .nil => 1
  | .ptr d => uptoBulk d + 1
  | .slice elems spare => uptoBulkAll elems + uptoBulkAll spare + 1
  | .agg parts => uptoBulkAll parts + 1
  | .iface _ d => uptoBulk d + 1
  | .map entries => uptoBulkEntries entries + 1
  | .held _ => 1
def uptoBulkAll {H : Type} : List (DataW H) → Nat
  | [] => 0
  | d :: r => uptoBulk d + uptoBulkAll r
def uptoBulkEntries {H : Type} : List (Lit × DataW H) → Nat
  | [] => 0
  | x :: r => uptoBulkEntry x + uptoBulkEntries r
def uptoBulkEntry {H : Type} : Lit × DataW H → Nat
  | (.string bytes, d) => bytes.length + uptoBulk d + 1
  | (_, d) => uptoBulk d + 1
 end
def uptoSmall : (H : Type) → List (DataW H) → Bool := fun _ ds => decide (uptoBulkAll ds ≤ 1048576)
def OpenSpec.upto (s : _root_.Go.ChangeSpec) : _root_.Go.OpenSpec := { _root_.Go.OpenSpec.ofChange s with cond := some uptoSmall }

/-- 'helmsmanlaw2.EncodeClassesDivide', WHERE WHAT IT READS IS OF BULK AT MOST 1048576: true; the input reads as it did. -/
def encodeClassesDivideUptoRow : OpenClaim := { program := "ytpnpnbbanfgpgaa", sum := "c1e537e824646bd769ccfc41a382c58d0965bb9d68cedd56a87a3bdf4f0bf8c8", func := "helmsman/helmsmanlaw2.EncodeClassesDivide", spec := "encodeClassesDivide", unfollowed := true, recurses := true, apart := false, narrowed := true }
def EncodeClassesDivideUptoSaid : Prop := encodeClassesDivideUptoRow.holds Try.pinned (OpenSpec.upto encodeClassesDivideSpec)

/-- 'helmsmanlaw2.EncodePlansAreKept', WHERE WHAT IT READS IS OF BULK AT MOST 1048576: true; the input reads as it did. -/
def encodePlansAreKeptUptoRow : OpenClaim := { program := "ytpnpnbbanfgpgaa", sum := "c1e537e824646bd769ccfc41a382c58d0965bb9d68cedd56a87a3bdf4f0bf8c8", func := "helmsman/helmsmanlaw2.EncodePlansAreKept", spec := "encodePlansAreKept", unfollowed := true, recurses := true, apart := false, narrowed := true }
def EncodePlansAreKeptUptoSaid : Prop := encodePlansAreKeptUptoRow.holds Try.pinned (OpenSpec.upto encodePlansAreKeptSpec)

/-- 'helmsmanlaw2.EncodeFindsEveryStep', WHERE WHAT IT READS IS OF BULK AT MOST 1048576: true; the input reads as it did. -/
def encodeFindsEveryStepUptoRow : OpenClaim := { program := "ytpnpnbbanfgpgaa", sum := "c1e537e824646bd769ccfc41a382c58d0965bb9d68cedd56a87a3bdf4f0bf8c8", func := "helmsman/helmsmanlaw2.EncodeFindsEveryStep", spec := "encodeFindsEveryStep", unfollowed := true, recurses := true, apart := false, narrowed := true }
def EncodeFindsEveryStepUptoSaid : Prop := encodeFindsEveryStepUptoRow.holds Try.pinned (OpenSpec.upto encodeFindsEveryStepSpec)

end Rows
end Go.Proofs.Ytpnpnbbanfgpgaa
