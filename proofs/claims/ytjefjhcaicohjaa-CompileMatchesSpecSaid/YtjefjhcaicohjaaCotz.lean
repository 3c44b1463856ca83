import Derived.Test.YtjefjhcaicohjaaCotb
import Derived.Test.YtjefjhcaicohjaaCotc
import Derived.Test.YtjefjhcaicohjaaCotd
import Derived.Test.YtjefjhcaicohjaaCote



namespace Go.Proofs.Ytjefjhcaicohjaa
open Go.Ab
open Go
set_option linter.unusedSimpArgs false
set_option linter.unusedVariables false
set_option maxRecDepth 10000
attribute [local irreducible] PV AOp AOps AW PCall OCall MCall Ab.Fin OFin OFin2 MFin RV RV1 Le AStk AGrd ADr ADx ADo AOpX AAny
set_option maxHeartbeats 40000000
theorem matchesLaw_pc (t : Task) (op b : Int) : PCall Try.prog 3 [t.av, .int op, .int b] (fun r => r = .bool true) := by
  by_cases hf : taskFault t = (0, 0)
  · by_cases hb : b < 0 ∨ 100 < b
    · exact matchesB t op b hf hb
    · cases hfs : firstSome (scaleAt b t.ops) t.ops.length with
      | none => exact matchesC t op b hf hb hfs
      | some p => exact matchesD t op b hf hb p hfs
  · exact matchesE t op b hf
end Go.Proofs.Ytjefjhcaicohjaa
