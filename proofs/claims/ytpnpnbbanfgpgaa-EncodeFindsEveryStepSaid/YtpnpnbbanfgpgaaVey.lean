import Derived.Test.YtpnpnbbanfgpgaaVex



namespace Go.Proofs.Ytpnpnbbanfgpgaa
open Go.Ab
open Go
set_option linter.unusedSimpArgs false
set_option linter.unusedVariables false
set_option maxRecDepth 10000
attribute [local irreducible] PV AOp AOps AW PCall OCall MCall WCall HCall Ab.Fin OFin OFin2 MFin HFin RV RV1 Le AStk AGrd ADr ADx ADo AOpX AAny
set_option maxHeartbeats 4000000
attribute [local go_sem] purge_appV cells_intsV cast_0
@[local go_sem] theorem sealDL_app (id sz bw n : Nat) (es a b : List AV) : AV.sealDL id sz bw n es (a ++ b) = AV.sealDL id sz bw n es a ++ AV.sealDL id sz bw n es b := by rw [sealDL_eq, sealDL_eq, sealDL_eq, List.map_append]
theorem asc_snoc (l : List (Int × Int)) (a b : Int) : l.flatMap asc ++ [.int a, .int b] = (l ++ [(a, b)]).flatMap asc := by simp [asc]
end Go.Proofs.Ytpnpnbbanfgpgaa
