/- Part of a proof: of two right answers both have a plan, at one cost, or none. No condition. -/
import Derived.Test.YtkbiagkbmodgdaaGreatZlma
set_option linter.unusedSimpArgs false
set_option linter.unusedVariables false
namespace Go.Proofs.YtkbiagkbmodgdaaGreat
open Go.Ab
open Go
set_option maxRecDepth 100000
theorem Ig:bg Tryz.prog 69 [.agg [.int 1,.cr 1 8 [],.cr 1 8 [.int 0],.cr 4 80 [.agg [.cr 1 8 [],.cr 1 8 [.int 0],.cr 1 8 [],.int 2]]]] (fun r=>r= .dr [.cr 2 32 [.agg [.fS,.int 2]],.int 2,.agg [.int 0,.int 0]]):=mP (C:=MH) (n:=3000) ah
end Go.Proofs.YtkbiagkbmodgdaaGreat
