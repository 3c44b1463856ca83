/- Part of a proof. No condition. -/
import Derived.Test.YtkbiagkbmodgdaaGreatZlma
namespace Go.Proofs.YtkbiagkbmodgdaaGreat
open Go.Ab
open Go Tryz
set_option maxRecDepth 100000
theorem Dx:bm prog 34 [.agg [.int 1,.cD 1 8 [],.cD 1 8 [.int 0],.cD 4 80 [.agg [.cD 1 8 [],.cD 1 8 [.int 0],.cD 1 8 [],.int 2]]],.int 0] (fun r=>r= .dC [.int 1000000000,.agg [.int 0,.int 0]]):=oI (C:=RN) (n:=3000) ai
end Go.Proofs.YtkbiagkbmodgdaaGreat
