/-
  No cell of these rows narrows 'for every input' (looked for: loops, veiled, ifaces, maps, wideKeys, modest, calm, conditions, laid).
  DERIVED. THE GIVEN ROWS OF THIS SEAT. 5 by the template 'for every input the law returns true; each argument reads behind the call as it read before'; 0 by the template 'total and deterministic' (their statements: YthdlckclpmfidaaTotals.lean).
  GIVEN WITH THE SEED: the statements are not yours to turn. If you find one false, say at which input.
  Laid BY PROGRAM, IN A SANDBOX (cutbox-rows.mjs): the forced cells as the released guide's own fill.sh prints them over the translation c55a92f819b2d042… (all of the seat's roots in one cut). By AI agents, Wed Nov 11 2026. No macro, syntax, notation, axiom, sorry.
-/
import Derived.Test.YthdlckclpmfidaaChecked
import GoSem.Claim
import GoSem.ClaimJoined
import GoSem.ClaimMapViews
import Derived.JoinedTies
import Derived.KernelRfl
namespace Go.Proofs.Ythdlckclpmfidaa
/- THE CELL 'sum', in the pinned program and in every row, IS THE sha256 OF THE DUMP (.gsa) THAT YthdlckclpmfidaaProg.lean LOADS. Nothing in Lean hashes anything: it is a label: what it is worth is what the hold of that sum in a sandbox is worth. -/
noncomputable def Try.pinned : Pinned := { name := "ythdlckclpmfidaa", sum := "c55a92f819b2d0426a859b9dfad614ed65e64231399e126ddbd00c9a672c0096", checked := Try.checked }
namespace Rows
def none {H : Type} : Left H := { results := [], args := [] }

/-- 'helmsmanlaw2.CommutingMatchesSpec': WHATEVER THE INPUT: true; the input reads as it did. -/
def commutingMatchesSpecSpec : ChangeSpec := { name := "commutingMatchesSpec", fn := fun _ => fun
  | [d1, d2, d3, d4] => { results := [.lit (.bool true)], args := [d1, d2, d3, d4] }
  | _ => none }
def commutingMatchesSpecRow : OpenClaim := { program := "ythdlckclpmfidaa", sum := "c55a92f819b2d0426a859b9dfad614ed65e64231399e126ddbd00c9a672c0096", func := "helmsman/helmsmanlaw2.CommutingMatchesSpec", spec := "commutingMatchesSpec", unfollowed := true, recurses := true, apart := false }
def CommutingMatchesSpecSaid : Prop := commutingMatchesSpecRow.holds Try.pinned (OpenSpec.ofChange commutingMatchesSpecSpec)

/-- ITS FALSE NEIGHBOUR: 'it returns false'. Refute it at one input. -/
def commutingMatchesSpecWrong : ChangeSpec := { name := "commutingMatchesSpec", fn := fun _ => fun
  | [d1, d2, d3, d4] => { results := [.lit (.bool false)], args := [d1, d2, d3, d4] }
  | _ => none }
def CommutingMatchesSpecWrongFalsely : Prop := commutingMatchesSpecRow.holds Try.pinned (OpenSpec.ofChange commutingMatchesSpecWrong)

/-- 'helmsmanlaw2.CommutingPlanIsCheapest': WHATEVER THE INPUT: true; the input reads as it did. -/
def commutingPlanIsCheapestSpec : ChangeSpec := { name := "commutingPlanIsCheapest", fn := fun _ => fun
  | [d] => { results := [.lit (.bool true)], args := [d] }
  | _ => none }
def commutingPlanIsCheapestRow : OpenClaim := { program := "ythdlckclpmfidaa", sum := "c55a92f819b2d0426a859b9dfad614ed65e64231399e126ddbd00c9a672c0096", func := "helmsman/helmsmanlaw2.CommutingPlanIsCheapest", spec := "commutingPlanIsCheapest", unfollowed := true, recurses := true, apart := false }
def CommutingPlanIsCheapestSaid : Prop := commutingPlanIsCheapestRow.holds Try.pinned (OpenSpec.ofChange commutingPlanIsCheapestSpec)

/-- ITS FALSE NEIGHBOUR: 'it returns false'. Refute it at one input. -/
def commutingPlanIsCheapestWrong : ChangeSpec := { name := "commutingPlanIsCheapest", fn := fun _ => fun
  | [d] => { results := [.lit (.bool false)], args := [d] }
  | _ => none }
def CommutingPlanIsCheapestWrongFalsely : Prop := commutingPlanIsCheapestRow.holds Try.pinned (OpenSpec.ofChange commutingPlanIsCheapestWrong)

/-- 'helmsmanlaw2.CommutingIsSymmetric': WHATEVER THE INPUT: true; the input reads as it did. -/
def commutingIsSymmetricSpec : ChangeSpec := { name := "commutingIsSymmetric", fn := fun _ => fun
  | [d1, d2, d3] => { results := [.lit (.bool true)], args := [d1, d2, d3] }
  | _ => none }
def commutingIsSymmetricRow : OpenClaim := { program := "ythdlckclpmfidaa", sum := "c55a92f819b2d0426a859b9dfad614ed65e64231399e126ddbd00c9a672c0096", func := "helmsman/helmsmanlaw2.CommutingIsSymmetric", spec := "commutingIsSymmetric", unfollowed := true, recurses := true, apart := false }
def CommutingIsSymmetricSaid : Prop := commutingIsSymmetricRow.holds Try.pinned (OpenSpec.ofChange commutingIsSymmetricSpec)

/-- ITS FALSE NEIGHBOUR: 'it returns false'. Refute it at one input. -/
def commutingIsSymmetricWrong : ChangeSpec := { name := "commutingIsSymmetric", fn := fun _ => fun
  | [d1, d2, d3] => { results := [.lit (.bool false)], args := [d1, d2, d3] }
  | _ => none }
def CommutingIsSymmetricWrongFalsely : Prop := commutingIsSymmetricRow.holds Try.pinned (OpenSpec.ofChange commutingIsSymmetricWrong)

/-- 'helmsmanlaw2.CommutingSuffices': WHATEVER THE INPUT: true; the input reads as it did. -/
def commutingSufficesSpec : ChangeSpec := { name := "commutingSuffices", fn := fun _ => fun
  | [d1, d2] => { results := [.lit (.bool true)], args := [d1, d2] }
  | _ => none }
def commutingSufficesRow : OpenClaim := { program := "ythdlckclpmfidaa", sum := "c55a92f819b2d0426a859b9dfad614ed65e64231399e126ddbd00c9a672c0096", func := "helmsman/helmsmanlaw2.CommutingSuffices", spec := "commutingSuffices", unfollowed := true, recurses := true, apart := false }
def CommutingSufficesSaid : Prop := commutingSufficesRow.holds Try.pinned (OpenSpec.ofChange commutingSufficesSpec)

/-- ITS FALSE NEIGHBOUR: 'it returns false'. Refute it at one input. -/
def commutingSufficesWrong : ChangeSpec := { name := "commutingSuffices", fn := fun _ => fun
  | [d1, d2] => { results := [.lit (.bool false)], args := [d1, d2] }
  | _ => none }
def CommutingSufficesWrongFalsely : Prop := commutingSufficesRow.holds Try.pinned (OpenSpec.ofChange commutingSufficesWrong)

/-- 'helmsmanlaw2.CommutingOrdersAgree': WHATEVER THE INPUT: true; the input reads as it did. -/
def commutingOrdersAgreeSpec : ChangeSpec := { name := "commutingOrdersAgree", fn := fun _ => fun
  | [d1, d2, d3, d4] => { results := [.lit (.bool true)], args := [d1, d2, d3, d4] }
  | _ => none }
def commutingOrdersAgreeRow : OpenClaim := { program := "ythdlckclpmfidaa", sum := "c55a92f819b2d0426a859b9dfad614ed65e64231399e126ddbd00c9a672c0096", func := "helmsman/helmsmanlaw2.CommutingOrdersAgree", spec := "commutingOrdersAgree", unfollowed := true, recurses := true, apart := false }
def CommutingOrdersAgreeSaid : Prop := commutingOrdersAgreeRow.holds Try.pinned (OpenSpec.ofChange commutingOrdersAgreeSpec)

/-- ITS FALSE NEIGHBOUR: 'it returns false'. Refute it at one input. -/
def commutingOrdersAgreeWrong : ChangeSpec := { name := "commutingOrdersAgree", fn := fun _ => fun
  | [d1, d2, d3, d4] => { results := [.lit (.bool false)], args := [d1, d2, d3, d4] }
  | _ => none }
def CommutingOrdersAgreeWrongFalsely : Prop := commutingOrdersAgreeRow.holds Try.pinned (OpenSpec.ofChange commutingOrdersAgreeWrong)

/- THE SECOND FORM. 'bulk': how many values and letters a reading holds, each counted each time it is reached (what is shared counts as often as it is met; a slice's spare places count too). A statement '..UptoSaid' is the law's where the arguments, and the package variables that the reading takes, are together of bulk at most 1048576: NARROWER than '..Said'. Prove '..Said' where nothing that the law and all that it calls make is longer than what came in: it says more and counts as full. Else prove '..UptoSaid'. A law counts once. -/
mutual
def uptoBulk {H : Type} : DataW H → Nat
  | .lit (.string bytes) => bytes.length + 1
  | .lit _ => 1
  | .nil => 1
  | .ptr d => uptoBulk d + 1
  | .slice elems spare => uptoBulkAll elems + uptoBulkAll spare + 1
  | .agg parts => uptoBulkAll parts + 1
  | .iface _ d => uptoBulk d + 1
  | .map entries => uptoBulkEntries entries + 1
  | .held _ => 1
def uptoBulkAll {H : Type} : List (DataW H) → Nat
  | [] => 0
  | d :: r => uptoBulk d + uptoBulkAll r
def uptoBulkEntries {H : Type} : List (Lit × DataW H) → Nat
  | [] => 0
  | x :: r => uptoBulkEntry x + uptoBulkEntries r
def uptoBulkEntry {H : Type} : Lit × DataW H → Nat
  | (.string bytes, d) => bytes.length + uptoBulk d + 1
  | (_, d) => uptoBulk d + 1
 end
def uptoSmall : (H : Type) → List (DataW H) → Bool := fun _ ds => decide (uptoBulkAll ds ≤ 1048576)
def OpenSpec.upto (s : _root_.Go.ChangeSpec) : _root_.Go.OpenSpec := { _root_.Go.OpenSpec.ofChange s with cond := some uptoSmall }

/-- 'helmsmanlaw2.CommutingMatchesSpec', WHERE WHAT IT READS IS OF BULK AT MOST 1048576: true; the input reads as it did. -/
def commutingMatchesSpecUptoRow : OpenClaim := { program := "ythdlckclpmfidaa", sum := "c55a92f819b2d0426a859b9dfad614ed65e64231399e126ddbd00c9a672c0096", func := "helmsman/helmsmanlaw2.CommutingMatchesSpec", spec := "commutingMatchesSpec", unfollowed := true, recurses := true, apart := false, narrowed := true }
def CommutingMatchesSpecUptoSaid : Prop := commutingMatchesSpecUptoRow.holds Try.pinned (OpenSpec.upto commutingMatchesSpecSpec)

/-- 'helmsmanlaw2.CommutingPlanIsCheapest', WHERE WHAT IT READS IS OF BULK AT MOST 1048576: true; the input reads as it did. -/
def commutingPlanIsCheapestUptoRow : OpenClaim := { program := "ythdlckclpmfidaa", sum := "c55a92f819b2d0426a859b9dfad614ed65e64231399e126ddbd00c9a672c0096", func := "helmsman/helmsmanlaw2.CommutingPlanIsCheapest", spec := "commutingPlanIsCheapest", unfollowed := true, recurses := true, apart := false, narrowed := true }
def CommutingPlanIsCheapestUptoSaid : Prop := commutingPlanIsCheapestUptoRow.holds Try.pinned (OpenSpec.upto commutingPlanIsCheapestSpec)

/-- 'helmsmanlaw2.CommutingIsSymmetric', WHERE WHAT IT READS IS OF BULK AT MOST 1048576: true; the input reads as it did. -/
def commutingIsSymmetricUptoRow : OpenClaim := { program := "ythdlckclpmfidaa", sum := "c55a92f819b2d0426a859b9dfad614ed65e64231399e126ddbd00c9a672c0096", func := "helmsman/helmsmanlaw2.CommutingIsSymmetric", spec := "commutingIsSymmetric", unfollowed := true, recurses := true, apart := false, narrowed := true }
def CommutingIsSymmetricUptoSaid : Prop := commutingIsSymmetricUptoRow.holds Try.pinned (OpenSpec.upto commutingIsSymmetricSpec)

/-- 'helmsmanlaw2.CommutingSuffices', WHERE WHAT IT READS IS OF BULK AT MOST 1048576: true; the input reads as it did. -/
def commutingSufficesUptoRow : OpenClaim := { program := "ythdlckclpmfidaa", sum := "c55a92f819b2d0426a859b9dfad614ed65e64231399e126ddbd00c9a672c0096", func := "helmsman/helmsmanlaw2.CommutingSuffices", spec := "commutingSuffices", unfollowed := true, recurses := true, apart := false, narrowed := true }
def CommutingSufficesUptoSaid : Prop := commutingSufficesUptoRow.holds Try.pinned (OpenSpec.upto commutingSufficesSpec)

/-- 'helmsmanlaw2.CommutingOrdersAgree', WHERE WHAT IT READS IS OF BULK AT MOST 1048576: true; the input reads as it did. -/
def commutingOrdersAgreeUptoRow : OpenClaim := { program := "ythdlckclpmfidaa", sum := "c55a92f819b2d0426a859b9dfad614ed65e64231399e126ddbd00c9a672c0096", func := "helmsman/helmsmanlaw2.CommutingOrdersAgree", spec := "commutingOrdersAgree", unfollowed := true, recurses := true, apart := false, narrowed := true }
def CommutingOrdersAgreeUptoSaid : Prop := commutingOrdersAgreeUptoRow.holds Try.pinned (OpenSpec.upto commutingOrdersAgreeSpec)

end Rows
end Go.Proofs.Ythdlckclpmfidaa
