import Derived.Test.YtpnpnbbanfgpgaaMup
import Derived.Test.YtpnpnbbanfgpgaaVez

namespace Go.Proofs.Ytpnpnbbanfgpgaa
open Go.Ab
open Go
theorem multi_ok (t : Task) (ls : List (List Int)) (h : groupsFault t ls = (0, 0)) : PCall Try.prog 11 [t.av, rows ls] (fun r => r = mres (multiF t (coverT t.facts.toNat ls))) := multi_okV (fun o n cs h1 h2 h3 => verL_pc o n cs h1 h2 h3) t ls h
end Go.Proofs.Ytpnpnbbanfgpgaa
