/- The shapes of the laws' arguments that are lists of lists. -/
import Derived.Test.YtpnpnbbanfgpgaaCosh
import Derived.Test.YtpnpnbbanfgpgaaInx
namespace Go.Proofs.Ytpnpnbbanfgpgaa
open Go.Ab
open Go
abbrev shRows : Sh := .sl 1 24 shInts
theorem sat_rows {x : AV} (h : shRows.sat x) : ∃ ls : List (List Int), x = rows ls := sat_sl (f := fun x => ints x) (fun _ => sat_ints) h
end Go.Proofs.Ytpnpnbbanfgpgaa
