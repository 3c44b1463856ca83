/- The tables of one seat as instances for the abstract layer. By program (gentab.py). -/
import Derived.Test.YtbeceabheahpnaaRows
import Derived.Test.YtbeceabheahpnaaAb
import Derived.KernelRfl
set_option maxRecDepth 20000
namespace Go.Proofs.Ytbeceabheahpnaa
open Go.Ab

-- 1: func()
instance : TyU Try.prog 1 (.func #[] #[] false) := ⟨Try.underlying1⟩
instance : TyI Try.prog 1 (.nilFunc) 1 8 := tyI_of (by kernel_rfl)
-- 2: int64
instance : TyU Try.prog 2 (.int .i64) := ⟨Try.underlying2⟩
instance : TyI Try.prog 2 (.int .i64 0) 1 8 := tyI_of (by kernel_rfl)
-- 3: int
instance : TyU Try.prog 3 (.int .i64) := ⟨Try.underlying3⟩
instance : TyI Try.prog 3 (.int .i64 0) 1 8 := tyI_of (by kernel_rfl)
-- 4: bool
instance : TyU Try.prog 4 (.bool) := ⟨Try.underlying4⟩
instance : TyI Try.prog 4 (.bool false) 1 1 := tyI_of (by kernel_rfl)
-- 5: uint8
instance : TyU Try.prog 5 (.int .u8) := ⟨Try.underlying5⟩
instance : TyI Try.prog 5 (.int .u8 0) 1 1 := tyI_of (by kernel_rfl)
-- 9: string
instance : TyU Try.prog 9 (.string) := ⟨Try.underlying9⟩
instance : TyI Try.prog 9 (.string ⟨#[]⟩) 1 16 := tyI_of (by kernel_rfl)
-- 12: uintptr
instance : TyU Try.prog 12 (.int .u64) := ⟨Try.underlying12⟩
instance : TyI Try.prog 12 (.int .u64 0) 1 8 := tyI_of (by kernel_rfl)
-- 13: struct ( msg string; addr uintptr )
instance : TyU Try.prog 13 (.struct #[{ name := "msg", type := 9, offset := 0, embedded := false, tag := "", pkgPath := "runtime", byteOffset := 0 }, { name := "addr", type := 12, offset := 1, embedded := false, tag := "", pkgPath := "runtime", byteOffset := 16 }]) := ⟨Try.underlying13⟩
instance : TyI Try.prog 13 (.agg #[.string ⟨#[]⟩, .int .u64 0]) 2 24 := tyI_of (by kernel_rfl)
instance : TyF Try.prog 13 [(0, 1), (1, 1)] := ⟨_, Try.underlying13, by kernel_rfl⟩
-- 21: int32
instance : TyU Try.prog 21 (.int .i32) := ⟨Try.underlying21⟩
instance : TyI Try.prog 21 (.int .i32 0) 1 4 := tyI_of (by kernel_rfl)
-- 22: []int
instance : TyU Try.prog 22 (.slice 3) := ⟨Try.underlying22⟩
instance : TyI Try.prog 22 (.slice none 0 0) 1 24 := tyI_of (by kernel_rfl)
-- 23: []api.Operator
instance : TyU Try.prog 23 (.slice 60) := ⟨Try.underlying23⟩
instance : TyI Try.prog 23 (.slice none 0 0) 1 24 := tyI_of (by kernel_rfl)
-- 24: struct ( Facts int; Init []int; Goal []int; Operators []api.Operator )
instance : TyU Try.prog 24 (.struct #[{ name := "Facts", type := 3, offset := 0, embedded := false, tag := "", pkgPath := "", byteOffset := 0 }, { name := "Init", type := 22, offset := 1, embedded := false, tag := "", pkgPath := "", byteOffset := 8 }, { name := "Goal", type := 22, offset := 2, embedded := false, tag := "", pkgPath := "", byteOffset := 32 }, { name := "Operators", type := 23, offset := 3, embedded := false, tag := "", pkgPath := "", byteOffset := 56 }]) := ⟨Try.underlying24⟩
instance : TyI Try.prog 24 (.agg #[.int .i64 0, .slice none 0 0, .slice none 0 0, .slice none 0 0]) 4 80 := tyI_of (by kernel_rfl)
instance : TyF Try.prog 24 [(0, 1), (1, 1), (2, 1), (3, 1)] := ⟨_, Try.underlying24, by kernel_rfl⟩
-- 25: api.Task
instance : TyU Try.prog 25 (.struct #[{ name := "Facts", type := 3, offset := 0, embedded := false, tag := "", pkgPath := "", byteOffset := 0 }, { name := "Init", type := 22, offset := 1, embedded := false, tag := "", pkgPath := "", byteOffset := 8 }, { name := "Goal", type := 22, offset := 2, embedded := false, tag := "", pkgPath := "", byteOffset := 32 }, { name := "Operators", type := 23, offset := 3, embedded := false, tag := "", pkgPath := "", byteOffset := 56 }]) := ⟨Try.underlying25⟩
instance : TyI Try.prog 25 (.agg #[.int .i64 0, .slice none 0 0, .slice none 0 0, .slice none 0 0]) 4 80 := tyI_of (by kernel_rfl)
instance : TyF Try.prog 25 [(0, 1), (1, 1), (2, 1), (3, 1)] := ⟨_, Try.underlying25, by kernel_rfl⟩
-- 26: struct ( Code int; Index int )
instance : TyU Try.prog 26 (.struct #[{ name := "Code", type := 3, offset := 0, embedded := false, tag := "", pkgPath := "", byteOffset := 0 }, { name := "Index", type := 3, offset := 1, embedded := false, tag := "", pkgPath := "", byteOffset := 8 }]) := ⟨Try.underlying26⟩
instance : TyI Try.prog 26 (.agg #[.int .i64 0, .int .i64 0]) 2 16 := tyI_of (by kernel_rfl)
instance : TyF Try.prog 26 [(0, 1), (1, 1)] := ⟨_, Try.underlying26, by kernel_rfl⟩
-- 27: api.Fault
instance : TyU Try.prog 27 (.struct #[{ name := "Code", type := 3, offset := 0, embedded := false, tag := "", pkgPath := "", byteOffset := 0 }, { name := "Index", type := 3, offset := 1, embedded := false, tag := "", pkgPath := "", byteOffset := 8 }]) := ⟨Try.underlying27⟩
instance : TyI Try.prog 27 (.agg #[.int .i64 0, .int .i64 0]) 2 16 := tyI_of (by kernel_rfl)
instance : TyF Try.prog 27 [(0, 1), (1, 1)] := ⟨_, Try.underlying27, by kernel_rfl⟩
-- 28: func(api.Task) api.Fault
instance : TyU Try.prog 28 (.func #[25] #[27] false) := ⟨Try.underlying28⟩
instance : TyI Try.prog 28 (.nilFunc) 1 8 := tyI_of (by kernel_rfl)
-- 29: func(int, []int) bool
instance : TyU Try.prog 29 (.func #[3, 22] #[4] false) := ⟨Try.underlying29⟩
instance : TyI Try.prog 29 (.nilFunc) 1 8 := tyI_of (by kernel_rfl)
-- 30: func(int, int) api.Fault
instance : TyU Try.prog 30 (.func #[3, 3] #[27] false) := ⟨Try.underlying30⟩
instance : TyI Try.prog 30 (.nilFunc) 1 8 := tyI_of (by kernel_rfl)
-- 32: func(api.Task, []int) ([]int, bool)
instance : TyU Try.prog 32 (.func #[25, 22] #[22, 4] false) := ⟨Try.underlying32⟩
instance : TyI Try.prog 32 (.nilFunc) 1 8 := tyI_of (by kernel_rfl)
-- 34: func(api.Task, []int) ([]int, bool, api.Fault)
instance : TyU Try.prog 34 (.func #[25, 22] #[22, 4, 27] false) := ⟨Try.underlying34⟩
instance : TyI Try.prog 34 (.nilFunc) 1 8 := tyI_of (by kernel_rfl)
-- 35: func() bool
instance : TyU Try.prog 35 (.func #[] #[4] false) := ⟨Try.underlying35⟩
instance : TyI Try.prog 35 (.nilFunc) 1 8 := tyI_of (by kernel_rfl)
-- 36: func([]int, []int) bool
instance : TyU Try.prog 36 (.func #[22, 22] #[4] false) := ⟨Try.underlying36⟩
instance : TyI Try.prog 36 (.nilFunc) 1 8 := tyI_of (by kernel_rfl)
-- 37: func(api.Task, []int) bool
instance : TyU Try.prog 37 (.func #[25, 22] #[4] false) := ⟨Try.underlying37⟩
instance : TyI Try.prog 37 (.nilFunc) 1 8 := tyI_of (by kernel_rfl)
-- 38: func(api.Task, []int) api.Fault
instance : TyU Try.prog 38 (.func #[25, 22] #[27] false) := ⟨Try.underlying38⟩
instance : TyI Try.prog 38 (.nilFunc) 1 8 := tyI_of (by kernel_rfl)
-- 39: [][]int
instance : TyU Try.prog 39 (.slice 22) := ⟨Try.underlying39⟩
instance : TyI Try.prog 39 (.slice none 0 0) 1 24 := tyI_of (by kernel_rfl)
-- 41: func(api.Task) ([][]int, api.Fault)
instance : TyU Try.prog 41 (.func #[25] #[39, 27] false) := ⟨Try.underlying41⟩
instance : TyI Try.prog 41 (.nilFunc) 1 8 := tyI_of (by kernel_rfl)
-- 43: func(api.Task, []int) ([]int, api.Fault)
instance : TyU Try.prog 43 (.func #[25, 22] #[22, 27] false) := ⟨Try.underlying43⟩
instance : TyI Try.prog 43 (.nilFunc) 1 8 := tyI_of (by kernel_rfl)
-- 44: func(api.Task) [][]int
instance : TyU Try.prog 44 (.func #[25] #[39] false) := ⟨Try.underlying44⟩
instance : TyI Try.prog 44 (.nilFunc) 1 8 := tyI_of (by kernel_rfl)
-- 45: func([][]int, [][]int) bool
instance : TyU Try.prog 45 (.func #[39, 39] #[4] false) := ⟨Try.underlying45⟩
instance : TyI Try.prog 45 (.nilFunc) 1 8 := tyI_of (by kernel_rfl)
-- 46: func([]int, []int) []int
instance : TyU Try.prog 46 (.func #[22, 22] #[22] false) := ⟨Try.underlying46⟩
instance : TyI Try.prog 46 (.nilFunc) 1 8 := tyI_of (by kernel_rfl)
-- 47: func([]int, int) []int
instance : TyU Try.prog 47 (.func #[22, 3] #[22] false) := ⟨Try.underlying47⟩
instance : TyI Try.prog 47 (.nilFunc) 1 8 := tyI_of (by kernel_rfl)
-- 48: func(int, int, int) bool
instance : TyU Try.prog 48 (.func #[3, 3, 3] #[4] false) := ⟨Try.underlying48⟩
instance : TyI Try.prog 48 (.nilFunc) 1 8 := tyI_of (by kernel_rfl)
-- 49: func([][]int, []int) int
instance : TyU Try.prog 49 (.func #[39, 22] #[3] false) := ⟨Try.underlying49⟩
instance : TyI Try.prog 49 (.nilFunc) 1 8 := tyI_of (by kernel_rfl)
-- 50: func(api.Task, int, int) bool
instance : TyU Try.prog 50 (.func #[25, 3, 3] #[4] false) := ⟨Try.underlying50⟩
instance : TyI Try.prog 50 (.nilFunc) 1 8 := tyI_of (by kernel_rfl)
-- 51: func(api.Task, []int) int
instance : TyU Try.prog 51 (.func #[25, 22] #[3] false) := ⟨Try.underlying51⟩
instance : TyI Try.prog 51 (.nilFunc) 1 8 := tyI_of (by kernel_rfl)
-- 52: func(api.Task, []int, int) bool
instance : TyU Try.prog 52 (.func #[25, 22, 3] #[4] false) := ⟨Try.underlying52⟩
instance : TyI Try.prog 52 (.nilFunc) 1 8 := tyI_of (by kernel_rfl)
-- 53: func(api.Task, []int, []int) ([][]int, api.Fault)
instance : TyU Try.prog 53 (.func #[25, 22, 22] #[39, 27] false) := ⟨Try.underlying53⟩
instance : TyI Try.prog 53 (.nilFunc) 1 8 := tyI_of (by kernel_rfl)
-- 54: func([]int, []int) ([]int, bool)
instance : TyU Try.prog 54 (.func #[22, 22] #[22, 4] false) := ⟨Try.underlying54⟩
instance : TyI Try.prog 54 (.nilFunc) 1 8 := tyI_of (by kernel_rfl)
-- 56: func(api.Task, []int) (int, api.Fault)
instance : TyU Try.prog 56 (.func #[25, 22] #[3, 27] false) := ⟨Try.underlying56⟩
instance : TyI Try.prog 56 (.nilFunc) 1 8 := tyI_of (by kernel_rfl)
-- 57: func(api.Task, []int, []int, []int) bool
instance : TyU Try.prog 57 (.func #[25, 22, 22, 22] #[4] false) := ⟨Try.underlying57⟩
instance : TyI Try.prog 57 (.nilFunc) 1 8 := tyI_of (by kernel_rfl)
-- 58: func([]int, int) bool
instance : TyU Try.prog 58 (.func #[22, 3] #[4] false) := ⟨Try.underlying58⟩
instance : TyI Try.prog 58 (.nilFunc) 1 8 := tyI_of (by kernel_rfl)
-- 59: struct ( Pre []int; Add []int; Del []int; Cost int )
instance : TyU Try.prog 59 (.struct #[{ name := "Pre", type := 22, offset := 0, embedded := false, tag := "", pkgPath := "", byteOffset := 0 }, { name := "Add", type := 22, offset := 1, embedded := false, tag := "", pkgPath := "", byteOffset := 24 }, { name := "Del", type := 22, offset := 2, embedded := false, tag := "", pkgPath := "", byteOffset := 48 }, { name := "Cost", type := 3, offset := 3, embedded := false, tag := "", pkgPath := "", byteOffset := 72 }]) := ⟨Try.underlying59⟩
instance : TyI Try.prog 59 (.agg #[.slice none 0 0, .slice none 0 0, .slice none 0 0, .int .i64 0]) 4 80 := tyI_of (by kernel_rfl)
instance : TyF Try.prog 59 [(0, 1), (1, 1), (2, 1), (3, 1)] := ⟨_, Try.underlying59, by kernel_rfl⟩
-- 60: api.Operator
instance : TyU Try.prog 60 (.struct #[{ name := "Pre", type := 22, offset := 0, embedded := false, tag := "", pkgPath := "", byteOffset := 0 }, { name := "Add", type := 22, offset := 1, embedded := false, tag := "", pkgPath := "", byteOffset := 24 }, { name := "Del", type := 22, offset := 2, embedded := false, tag := "", pkgPath := "", byteOffset := 48 }, { name := "Cost", type := 3, offset := 3, embedded := false, tag := "", pkgPath := "", byteOffset := 72 }]) := ⟨Try.underlying60⟩
instance : TyI Try.prog 60 (.agg #[.slice none 0 0, .slice none 0 0, .slice none 0 0, .int .i64 0]) 4 80 := tyI_of (by kernel_rfl)
instance : TyF Try.prog 60 [(0, 1), (1, 1), (2, 1), (3, 1)] := ⟨_, Try.underlying60, by kernel_rfl⟩
-- 61: func() api.Task
instance : TyU Try.prog 61 (.func #[] #[25] false) := ⟨Try.underlying61⟩
instance : TyI Try.prog 61 (.nilFunc) 1 8 := tyI_of (by kernel_rfl)
-- 62: func([]int) []int
instance : TyU Try.prog 62 (.func #[22] #[22] false) := ⟨Try.underlying62⟩
instance : TyI Try.prog 62 (.nilFunc) 1 8 := tyI_of (by kernel_rfl)
-- 63: func([]int, []int) int
instance : TyU Try.prog 63 (.func #[22, 22] #[3] false) := ⟨Try.underlying63⟩
instance : TyI Try.prog 63 (.nilFunc) 1 8 := tyI_of (by kernel_rfl)
-- 64: func([]int, int) [][]int
instance : TyU Try.prog 64 (.func #[22, 3] #[39] false) := ⟨Try.underlying64⟩
instance : TyI Try.prog 64 (.nilFunc) 1 8 := tyI_of (by kernel_rfl)
-- 66: func(api.Task, []int) ([][]int, bool)
instance : TyU Try.prog 66 (.func #[25, 22] #[39, 4] false) := ⟨Try.underlying66⟩
instance : TyI Try.prog 66 (.nilFunc) 1 8 := tyI_of (by kernel_rfl)
-- 67: func(api.Task, [][]int) []int
instance : TyU Try.prog 67 (.func #[25, 39] #[22] false) := ⟨Try.underlying67⟩
instance : TyI Try.prog 67 (.nilFunc) 1 8 := tyI_of (by kernel_rfl)
-- 68: func(int, []int) api.Fault
instance : TyU Try.prog 68 (.func #[3, 22] #[27] false) := ⟨Try.underlying68⟩
instance : TyI Try.prog 68 (.nilFunc) 1 8 := tyI_of (by kernel_rfl)
-- 69: func(api.Task, []int, []int) [][]int
instance : TyU Try.prog 69 (.func #[25, 22, 22] #[39] false) := ⟨Try.underlying69⟩
instance : TyI Try.prog 69 (.nilFunc) 1 8 := tyI_of (by kernel_rfl)
-- 70: func(api.Operator, int) int
instance : TyU Try.prog 70 (.func #[60, 3] #[3] false) := ⟨Try.underlying70⟩
instance : TyI Try.prog 70 (.nilFunc) 1 8 := tyI_of (by kernel_rfl)
-- 71: func(iter.Seq[int]) []int
instance : TyU Try.prog 71 (.func #[73] #[22] false) := ⟨Try.underlying71⟩
instance : TyI Try.prog 71 (.nilFunc) 1 8 := tyI_of (by kernel_rfl)
-- 72: func(func(int) bool)
instance : TyU Try.prog 72 (.func #[83] #[] false) := ⟨Try.underlying72⟩
instance : TyI Try.prog 72 (.nilFunc) 1 8 := tyI_of (by kernel_rfl)
-- 73: iter.Seq[int]
instance : TyU Try.prog 73 (.func #[83] #[] false) := ⟨Try.underlying73⟩
instance : TyI Try.prog 73 (.nilFunc) 1 8 := tyI_of (by kernel_rfl)
-- 74: func([]int) iter.Seq[int]
instance : TyU Try.prog 74 (.func #[22] #[73] false) := ⟨Try.underlying74⟩
instance : TyI Try.prog 74 (.nilFunc) 1 8 := tyI_of (by kernel_rfl)
-- 75: []bool
instance : TyU Try.prog 75 (.slice 4) := ⟨Try.underlying75⟩
instance : TyI Try.prog 75 (.slice none 0 0) 1 24 := tyI_of (by kernel_rfl)
-- 76: func(api.Operator, api.Operator) bool
instance : TyU Try.prog 76 (.func #[60, 60] #[4] false) := ⟨Try.underlying76⟩
instance : TyI Try.prog 76 (.nilFunc) 1 8 := tyI_of (by kernel_rfl)
-- 77: func(func([]int) bool)
instance : TyU Try.prog 77 (.func #[84] #[] false) := ⟨Try.underlying77⟩
instance : TyI Try.prog 77 (.nilFunc) 1 8 := tyI_of (by kernel_rfl)
-- 78: func(int) func(func([]int) bool)
instance : TyU Try.prog 78 (.func #[3] #[77] false) := ⟨Try.underlying78⟩
instance : TyI Try.prog 78 (.nilFunc) 1 8 := tyI_of (by kernel_rfl)
-- 79: func([]int)
instance : TyU Try.prog 79 (.func #[22] #[] false) := ⟨Try.underlying79⟩
instance : TyI Try.prog 79 (.nilFunc) 1 8 := tyI_of (by kernel_rfl)
-- 80: func(int, int) int
instance : TyU Try.prog 80 (.func #[3, 3] #[3] false) := ⟨Try.underlying80⟩
instance : TyI Try.prog 80 (.nilFunc) 1 8 := tyI_of (by kernel_rfl)
-- 81: func([]int) int
instance : TyU Try.prog 81 (.func #[22] #[3] false) := ⟨Try.underlying81⟩
instance : TyI Try.prog 81 (.nilFunc) 1 8 := tyI_of (by kernel_rfl)
-- 82: func(api.Task, []int, int) []int
instance : TyU Try.prog 82 (.func #[25, 22, 3] #[22] false) := ⟨Try.underlying82⟩
instance : TyI Try.prog 82 (.nilFunc) 1 8 := tyI_of (by kernel_rfl)
-- 83: func(int) bool
instance : TyU Try.prog 83 (.func #[3] #[4] false) := ⟨Try.underlying83⟩
instance : TyI Try.prog 83 (.nilFunc) 1 8 := tyI_of (by kernel_rfl)
-- 84: func([]int) bool
instance : TyU Try.prog 84 (.func #[22] #[4] false) := ⟨Try.underlying84⟩
instance : TyI Try.prog 84 (.nilFunc) 1 8 := tyI_of (by kernel_rfl)
-- 85: func([]int, int, int, int)
instance : TyU Try.prog 85 (.func #[22, 3, 3, 3] #[] false) := ⟨Try.underlying85⟩
instance : TyI Try.prog 85 (.nilFunc) 1 8 := tyI_of (by kernel_rfl)
-- 86: func(uint) int
instance : TyU Try.prog 86 (.func #[87] #[3] false) := ⟨Try.underlying86⟩
instance : TyI Try.prog 86 (.nilFunc) 1 8 := tyI_of (by kernel_rfl)
-- 87: uint
instance : TyU Try.prog 87 (.int .u64) := ⟨Try.underlying87⟩
instance : TyI Try.prog 87 (.int .u64 0) 1 8 := tyI_of (by kernel_rfl)
-- 88: func([]int, []int, []int) []int
instance : TyU Try.prog 88 (.func #[22, 22, 22] #[22] false) := ⟨Try.underlying88⟩
instance : TyI Try.prog 88 (.nilFunc) 1 8 := tyI_of (by kernel_rfl)
-- 89: func([]int, func(int) bool) bool
instance : TyU Try.prog 89 (.func #[22, 83] #[4] false) := ⟨Try.underlying89⟩
instance : TyI Try.prog 89 (.nilFunc) 1 8 := tyI_of (by kernel_rfl)
-- 91: func([]int, int) (int, bool)
instance : TyU Try.prog 91 (.func #[22, 3] #[3, 4] false) := ⟨Try.underlying91⟩
instance : TyI Try.prog 91 (.nilFunc) 1 8 := tyI_of (by kernel_rfl)
-- 92: func([]int, iter.Seq[int]) []int
instance : TyU Try.prog 92 (.func #[22, 73] #[22] false) := ⟨Try.underlying92⟩
instance : TyI Try.prog 92 (.nilFunc) 1 8 := tyI_of (by kernel_rfl)
-- 93: func([]int, int) int
instance : TyU Try.prog 93 (.func #[22, 3] #[3] false) := ⟨Try.underlying93⟩
instance : TyI Try.prog 93 (.nilFunc) 1 8 := tyI_of (by kernel_rfl)
-- 94: func([]int, int, int)
instance : TyU Try.prog 94 (.func #[22, 3, 3] #[] false) := ⟨Try.underlying94⟩
instance : TyI Try.prog 94 (.nilFunc) 1 8 := tyI_of (by kernel_rfl)
-- 95: slices.sortedHint
instance : TyU Try.prog 95 (.int .i64) := ⟨Try.underlying95⟩
instance : TyI Try.prog 95 (.int .i64 0) 1 8 := tyI_of (by kernel_rfl)
-- 97: func([]int, int, int) (int, slices.sortedHint)
instance : TyU Try.prog 97 (.func #[22, 3, 3] #[3, 95] false) := ⟨Try.underlying97⟩
instance : TyI Try.prog 97 (.nilFunc) 1 8 := tyI_of (by kernel_rfl)
-- 98: func([]int, int, int) bool
instance : TyU Try.prog 98 (.func #[22, 3, 3] #[4] false) := ⟨Try.underlying98⟩
instance : TyI Try.prog 98 (.nilFunc) 1 8 := tyI_of (by kernel_rfl)
-- 99: func(int, int) bool
instance : TyU Try.prog 99 (.func #[3, 3] #[4] false) := ⟨Try.underlying99⟩
instance : TyI Try.prog 99 (.nilFunc) 1 8 := tyI_of (by kernel_rfl)
-- 100: func([]int, int, int, int) int
instance : TyU Try.prog 100 (.func #[22, 3, 3, 3] #[3] false) := ⟨Try.underlying100⟩
instance : TyI Try.prog 100 (.nilFunc) 1 8 := tyI_of (by kernel_rfl)
-- 101: func([]int, int, int, int) (int, bool)
instance : TyU Try.prog 101 (.func #[22, 3, 3, 3] #[3, 4] false) := ⟨Try.underlying101⟩
instance : TyI Try.prog 101 (.nilFunc) 1 8 := tyI_of (by kernel_rfl)
-- 102: func(uint32) int
instance : TyU Try.prog 102 (.func #[103] #[3] false) := ⟨Try.underlying102⟩
instance : TyI Try.prog 102 (.nilFunc) 1 8 := tyI_of (by kernel_rfl)
-- 103: uint32
instance : TyU Try.prog 103 (.int .u32) := ⟨Try.underlying103⟩
instance : TyI Try.prog 103 (.int .u32 0) 1 4 := tyI_of (by kernel_rfl)
-- 104: func(uint64) int
instance : TyU Try.prog 104 (.func #[105] #[3] false) := ⟨Try.underlying104⟩
instance : TyI Try.prog 104 (.nilFunc) 1 8 := tyI_of (by kernel_rfl)
-- 105: uint64
instance : TyU Try.prog 105 (.int .u64) := ⟨Try.underlying105⟩
instance : TyI Try.prog 105 (.int .u64 0) 1 8 := tyI_of (by kernel_rfl)
-- 106: func([]int, func(int) bool) int
instance : TyU Try.prog 106 (.func #[22, 83] #[3] false) := ⟨Try.underlying106⟩
instance : TyI Try.prog 106 (.nilFunc) 1 8 := tyI_of (by kernel_rfl)
-- 107: slices.xorshift
instance : TyU Try.prog 107 (.int .u64) := ⟨Try.underlying107⟩
instance : TyI Try.prog 107 (.int .u64 0) 1 8 := tyI_of (by kernel_rfl)
-- 108: func(int) uint
instance : TyU Try.prog 108 (.func #[3] #[87] false) := ⟨Try.underlying108⟩
instance : TyI Try.prog 108 (.nilFunc) 1 8 := tyI_of (by kernel_rfl)
-- 109: func() uint64
instance : TyU Try.prog 109 (.func #[] #[105] false) := ⟨Try.underlying109⟩
instance : TyI Try.prog 109 (.nilFunc) 1 8 := tyI_of (by kernel_rfl)
-- 110: func([]int, int, *int) int
instance : TyU Try.prog 110 (.func #[22, 3, 111] #[3] false) := ⟨Try.underlying110⟩
instance : TyI Try.prog 110 (.nilFunc) 1 8 := tyI_of (by kernel_rfl)
-- 111: *int
instance : TyU Try.prog 111 (.pointer 3) := ⟨Try.underlying111⟩
instance : TyI Try.prog 111 (.pointer none) 1 8 := tyI_of (by kernel_rfl)
-- 112: func([]int, int, int, int, *int) int
instance : TyU Try.prog 112 (.func #[22, 3, 3, 3, 111] #[3] false) := ⟨Try.underlying112⟩
instance : TyI Try.prog 112 (.nilFunc) 1 8 := tyI_of (by kernel_rfl)
-- 113: *slices.xorshift
instance : TyU Try.prog 113 (.pointer 107) := ⟨Try.underlying113⟩
instance : TyI Try.prog 113 (.pointer none) 1 8 := tyI_of (by kernel_rfl)
-- 115: func([]int, int, int, *int) (int, int)
instance : TyU Try.prog 115 (.func #[22, 3, 3, 111] #[3, 3] false) := ⟨Try.underlying115⟩
instance : TyI Try.prog 115 (.nilFunc) 1 8 := tyI_of (by kernel_rfl)
-- 116: func() string
instance : TyU Try.prog 116 (.func #[] #[9] false) := ⟨Try.underlying116⟩
instance : TyI Try.prog 116 (.nilFunc) 1 8 := tyI_of (by kernel_rfl)
-- 122: func() int
instance : TyU Try.prog 122 (.func #[] #[3] false) := ⟨Try.underlying122⟩
instance : TyI Try.prog 122 (.nilFunc) 1 8 := tyI_of (by kernel_rfl)
-- 126: *uint8
instance : TyU Try.prog 126 (.pointer 5) := ⟨Try.underlying126⟩
instance : TyI Try.prog 126 (.pointer none) 1 8 := tyI_of (by kernel_rfl)
def tabL : List (Nat × TI) := [(1, ⟨false, 1, 8, [.v (.nilFunc)], .other⟩),
  (2, ⟨false, 1, 8, [.v (.int .i64 0)], .int .i64⟩),
  (3, ⟨false, 1, 8, [.v (.int .i64 0)], .int .i64⟩),
  (4, ⟨false, 1, 1, [.v (.bool false)], .bool⟩),
  (5, ⟨false, 1, 1, [.v (.int .u8 0)], .int .u8⟩),
  (9, ⟨false, 1, 16, [.v (.string ⟨#[]⟩)], .other⟩),
  (12, ⟨false, 1, 8, [.v (.int .u64 0)], .int .u64⟩),
  (13, ⟨true, 2, 24, [.v (.string ⟨#[]⟩), .v (.int .u64 0)], .st [(0, 1), (1, 1)] false⟩),
  (21, ⟨false, 1, 4, [.v (.int .i32 0)], .int .i32⟩),
  (22, ⟨false, 1, 24, [.v (.slice none 0 0)], .sl 3⟩),
  (23, ⟨false, 1, 24, [.v (.slice none 0 0)], .sl 60⟩),
  (24, ⟨true, 4, 80, [.v (.int .i64 0), .v (.slice none 0 0), .v (.slice none 0 0), .v (.slice none 0 0)], .st [(0, 1), (1, 1), (2, 1), (3, 1)] false⟩),
  (25, ⟨true, 4, 80, [.v (.int .i64 0), .v (.slice none 0 0), .v (.slice none 0 0), .v (.slice none 0 0)], .st [(0, 1), (1, 1), (2, 1), (3, 1)] false⟩),
  (26, ⟨true, 2, 16, [.v (.int .i64 0), .v (.int .i64 0)], .st [(0, 1), (1, 1)] true⟩),
  (27, ⟨true, 2, 16, [.v (.int .i64 0), .v (.int .i64 0)], .st [(0, 1), (1, 1)] true⟩),
  (28, ⟨false, 1, 8, [.v (.nilFunc)], .other⟩),
  (29, ⟨false, 1, 8, [.v (.nilFunc)], .other⟩),
  (30, ⟨false, 1, 8, [.v (.nilFunc)], .other⟩),
  (32, ⟨false, 1, 8, [.v (.nilFunc)], .other⟩),
  (34, ⟨false, 1, 8, [.v (.nilFunc)], .other⟩),
  (35, ⟨false, 1, 8, [.v (.nilFunc)], .other⟩),
  (36, ⟨false, 1, 8, [.v (.nilFunc)], .other⟩),
  (37, ⟨false, 1, 8, [.v (.nilFunc)], .other⟩),
  (38, ⟨false, 1, 8, [.v (.nilFunc)], .other⟩),
  (39, ⟨false, 1, 24, [.v (.slice none 0 0)], .sl 22⟩),
  (41, ⟨false, 1, 8, [.v (.nilFunc)], .other⟩),
  (43, ⟨false, 1, 8, [.v (.nilFunc)], .other⟩),
  (44, ⟨false, 1, 8, [.v (.nilFunc)], .other⟩),
  (45, ⟨false, 1, 8, [.v (.nilFunc)], .other⟩),
  (46, ⟨false, 1, 8, [.v (.nilFunc)], .other⟩),
  (47, ⟨false, 1, 8, [.v (.nilFunc)], .other⟩),
  (48, ⟨false, 1, 8, [.v (.nilFunc)], .other⟩),
  (49, ⟨false, 1, 8, [.v (.nilFunc)], .other⟩),
  (50, ⟨false, 1, 8, [.v (.nilFunc)], .other⟩),
  (51, ⟨false, 1, 8, [.v (.nilFunc)], .other⟩),
  (52, ⟨false, 1, 8, [.v (.nilFunc)], .other⟩),
  (53, ⟨false, 1, 8, [.v (.nilFunc)], .other⟩),
  (54, ⟨false, 1, 8, [.v (.nilFunc)], .other⟩),
  (56, ⟨false, 1, 8, [.v (.nilFunc)], .other⟩),
  (57, ⟨false, 1, 8, [.v (.nilFunc)], .other⟩),
  (58, ⟨false, 1, 8, [.v (.nilFunc)], .other⟩),
  (59, ⟨true, 4, 80, [.v (.slice none 0 0), .v (.slice none 0 0), .v (.slice none 0 0), .v (.int .i64 0)], .st [(0, 1), (1, 1), (2, 1), (3, 1)] false⟩),
  (60, ⟨true, 4, 80, [.v (.slice none 0 0), .v (.slice none 0 0), .v (.slice none 0 0), .v (.int .i64 0)], .st [(0, 1), (1, 1), (2, 1), (3, 1)] false⟩),
  (61, ⟨false, 1, 8, [.v (.nilFunc)], .other⟩),
  (62, ⟨false, 1, 8, [.v (.nilFunc)], .other⟩),
  (63, ⟨false, 1, 8, [.v (.nilFunc)], .other⟩),
  (64, ⟨false, 1, 8, [.v (.nilFunc)], .other⟩),
  (66, ⟨false, 1, 8, [.v (.nilFunc)], .other⟩),
  (67, ⟨false, 1, 8, [.v (.nilFunc)], .other⟩),
  (68, ⟨false, 1, 8, [.v (.nilFunc)], .other⟩),
  (69, ⟨false, 1, 8, [.v (.nilFunc)], .other⟩),
  (70, ⟨false, 1, 8, [.v (.nilFunc)], .other⟩),
  (71, ⟨false, 1, 8, [.v (.nilFunc)], .other⟩),
  (72, ⟨false, 1, 8, [.v (.nilFunc)], .other⟩),
  (73, ⟨false, 1, 8, [.v (.nilFunc)], .other⟩),
  (74, ⟨false, 1, 8, [.v (.nilFunc)], .other⟩),
  (75, ⟨false, 1, 24, [.v (.slice none 0 0)], .sl 4⟩),
  (76, ⟨false, 1, 8, [.v (.nilFunc)], .other⟩),
  (77, ⟨false, 1, 8, [.v (.nilFunc)], .other⟩),
  (78, ⟨false, 1, 8, [.v (.nilFunc)], .other⟩),
  (79, ⟨false, 1, 8, [.v (.nilFunc)], .other⟩),
  (80, ⟨false, 1, 8, [.v (.nilFunc)], .other⟩),
  (81, ⟨false, 1, 8, [.v (.nilFunc)], .other⟩),
  (82, ⟨false, 1, 8, [.v (.nilFunc)], .other⟩),
  (83, ⟨false, 1, 8, [.v (.nilFunc)], .other⟩),
  (84, ⟨false, 1, 8, [.v (.nilFunc)], .other⟩),
  (85, ⟨false, 1, 8, [.v (.nilFunc)], .other⟩),
  (86, ⟨false, 1, 8, [.v (.nilFunc)], .other⟩),
  (87, ⟨false, 1, 8, [.v (.int .u64 0)], .int .u64⟩),
  (88, ⟨false, 1, 8, [.v (.nilFunc)], .other⟩),
  (89, ⟨false, 1, 8, [.v (.nilFunc)], .other⟩),
  (91, ⟨false, 1, 8, [.v (.nilFunc)], .other⟩),
  (92, ⟨false, 1, 8, [.v (.nilFunc)], .other⟩),
  (93, ⟨false, 1, 8, [.v (.nilFunc)], .other⟩),
  (94, ⟨false, 1, 8, [.v (.nilFunc)], .other⟩),
  (95, ⟨false, 1, 8, [.v (.int .i64 0)], .int .i64⟩),
  (97, ⟨false, 1, 8, [.v (.nilFunc)], .other⟩),
  (98, ⟨false, 1, 8, [.v (.nilFunc)], .other⟩),
  (99, ⟨false, 1, 8, [.v (.nilFunc)], .other⟩),
  (100, ⟨false, 1, 8, [.v (.nilFunc)], .other⟩),
  (101, ⟨false, 1, 8, [.v (.nilFunc)], .other⟩),
  (102, ⟨false, 1, 8, [.v (.nilFunc)], .other⟩),
  (103, ⟨false, 1, 4, [.v (.int .u32 0)], .int .u32⟩),
  (104, ⟨false, 1, 8, [.v (.nilFunc)], .other⟩),
  (105, ⟨false, 1, 8, [.v (.int .u64 0)], .int .u64⟩),
  (106, ⟨false, 1, 8, [.v (.nilFunc)], .other⟩),
  (107, ⟨false, 1, 8, [.v (.int .u64 0)], .int .u64⟩),
  (108, ⟨false, 1, 8, [.v (.nilFunc)], .other⟩),
  (109, ⟨false, 1, 8, [.v (.nilFunc)], .other⟩),
  (110, ⟨false, 1, 8, [.v (.nilFunc)], .other⟩),
  (111, ⟨false, 1, 8, [.v (.pointer none)], .other⟩),
  (112, ⟨false, 1, 8, [.v (.nilFunc)], .other⟩),
  (113, ⟨false, 1, 8, [.v (.pointer none)], .other⟩),
  (115, ⟨false, 1, 8, [.v (.nilFunc)], .other⟩),
  (116, ⟨false, 1, 8, [.v (.nilFunc)], .other⟩),
  (122, ⟨false, 1, 8, [.v (.nilFunc)], .other⟩),
  (126, ⟨false, 1, 8, [.v (.pointer none)], .other⟩)]
def tab (t : Nat) : Option TI := lkp tabL t
theorem tab_ok : AllOk Try.prog tabL := ⟨tiok inferInstance inferInstance rfl rfl (trivial),
  tiok inferInstance inferInstance rfl rfl (rfl),
  tiok inferInstance inferInstance rfl rfl (rfl),
  tiok inferInstance inferInstance rfl rfl (rfl),
  tiok inferInstance inferInstance rfl rfl (rfl),
  tiok inferInstance inferInstance rfl rfl (trivial),
  tiok inferInstance inferInstance rfl rfl (rfl),
  tiok inferInstance inferInstance rfl rfl (kok_st inferInstance),
  tiok inferInstance inferInstance rfl rfl (rfl),
  tiok inferInstance inferInstance rfl rfl (rfl),
  tiok inferInstance inferInstance rfl rfl (rfl),
  tiok inferInstance inferInstance rfl rfl (kok_st inferInstance),
  tiok inferInstance inferInstance rfl rfl (kok_st inferInstance),
  tiok inferInstance inferInstance rfl rfl (kok_st2 inferInstance inferInstance inferInstance (by kernel_rfl)),
  tiok inferInstance inferInstance rfl rfl (kok_st2 inferInstance inferInstance inferInstance (by kernel_rfl)),
  tiok inferInstance inferInstance rfl rfl (trivial),
  tiok inferInstance inferInstance rfl rfl (trivial),
  tiok inferInstance inferInstance rfl rfl (trivial),
  tiok inferInstance inferInstance rfl rfl (trivial),
  tiok inferInstance inferInstance rfl rfl (trivial),
  tiok inferInstance inferInstance rfl rfl (trivial),
  tiok inferInstance inferInstance rfl rfl (trivial),
  tiok inferInstance inferInstance rfl rfl (trivial),
  tiok inferInstance inferInstance rfl rfl (trivial),
  tiok inferInstance inferInstance rfl rfl (rfl),
  tiok inferInstance inferInstance rfl rfl (trivial),
  tiok inferInstance inferInstance rfl rfl (trivial),
  tiok inferInstance inferInstance rfl rfl (trivial),
  tiok inferInstance inferInstance rfl rfl (trivial),
  tiok inferInstance inferInstance rfl rfl (trivial),
  tiok inferInstance inferInstance rfl rfl (trivial),
  tiok inferInstance inferInstance rfl rfl (trivial),
  tiok inferInstance inferInstance rfl rfl (trivial),
  tiok inferInstance inferInstance rfl rfl (trivial),
  tiok inferInstance inferInstance rfl rfl (trivial),
  tiok inferInstance inferInstance rfl rfl (trivial),
  tiok inferInstance inferInstance rfl rfl (trivial),
  tiok inferInstance inferInstance rfl rfl (trivial),
  tiok inferInstance inferInstance rfl rfl (trivial),
  tiok inferInstance inferInstance rfl rfl (trivial),
  tiok inferInstance inferInstance rfl rfl (trivial),
  tiok inferInstance inferInstance rfl rfl (kok_st inferInstance),
  tiok inferInstance inferInstance rfl rfl (kok_st inferInstance),
  tiok inferInstance inferInstance rfl rfl (trivial),
  tiok inferInstance inferInstance rfl rfl (trivial),
  tiok inferInstance inferInstance rfl rfl (trivial),
  tiok inferInstance inferInstance rfl rfl (trivial),
  tiok inferInstance inferInstance rfl rfl (trivial),
  tiok inferInstance inferInstance rfl rfl (trivial),
  tiok inferInstance inferInstance rfl rfl (trivial),
  tiok inferInstance inferInstance rfl rfl (trivial),
  tiok inferInstance inferInstance rfl rfl (trivial),
  tiok inferInstance inferInstance rfl rfl (trivial),
  tiok inferInstance inferInstance rfl rfl (trivial),
  tiok inferInstance inferInstance rfl rfl (trivial),
  tiok inferInstance inferInstance rfl rfl (trivial),
  tiok inferInstance inferInstance rfl rfl (rfl),
  tiok inferInstance inferInstance rfl rfl (trivial),
  tiok inferInstance inferInstance rfl rfl (trivial),
  tiok inferInstance inferInstance rfl rfl (trivial),
  tiok inferInstance inferInstance rfl rfl (trivial),
  tiok inferInstance inferInstance rfl rfl (trivial),
  tiok inferInstance inferInstance rfl rfl (trivial),
  tiok inferInstance inferInstance rfl rfl (trivial),
  tiok inferInstance inferInstance rfl rfl (trivial),
  tiok inferInstance inferInstance rfl rfl (trivial),
  tiok inferInstance inferInstance rfl rfl (trivial),
  tiok inferInstance inferInstance rfl rfl (trivial),
  tiok inferInstance inferInstance rfl rfl (rfl),
  tiok inferInstance inferInstance rfl rfl (trivial),
  tiok inferInstance inferInstance rfl rfl (trivial),
  tiok inferInstance inferInstance rfl rfl (trivial),
  tiok inferInstance inferInstance rfl rfl (trivial),
  tiok inferInstance inferInstance rfl rfl (trivial),
  tiok inferInstance inferInstance rfl rfl (trivial),
  tiok inferInstance inferInstance rfl rfl (rfl),
  tiok inferInstance inferInstance rfl rfl (trivial),
  tiok inferInstance inferInstance rfl rfl (trivial),
  tiok inferInstance inferInstance rfl rfl (trivial),
  tiok inferInstance inferInstance rfl rfl (trivial),
  tiok inferInstance inferInstance rfl rfl (trivial),
  tiok inferInstance inferInstance rfl rfl (trivial),
  tiok inferInstance inferInstance rfl rfl (rfl),
  tiok inferInstance inferInstance rfl rfl (trivial),
  tiok inferInstance inferInstance rfl rfl (rfl),
  tiok inferInstance inferInstance rfl rfl (trivial),
  tiok inferInstance inferInstance rfl rfl (rfl),
  tiok inferInstance inferInstance rfl rfl (trivial),
  tiok inferInstance inferInstance rfl rfl (trivial),
  tiok inferInstance inferInstance rfl rfl (trivial),
  tiok inferInstance inferInstance rfl rfl (trivial),
  tiok inferInstance inferInstance rfl rfl (trivial),
  tiok inferInstance inferInstance rfl rfl (trivial),
  tiok inferInstance inferInstance rfl rfl (trivial),
  tiok inferInstance inferInstance rfl rfl (trivial),
  tiok inferInstance inferInstance rfl rfl (trivial),
  tiok inferInstance inferInstance rfl rfl (trivial), trivial⟩
instance : Tb Try.prog tab := ⟨fun _ _ h => lkp_ok tab_ok h⟩
@[go_sem] theorem tt : tab 1 = some ⟨false, 1, 8, [.v (.nilFunc)], .other⟩ ∧
  tab 2 = some ⟨false, 1, 8, [.v (.int .i64 0)], .int .i64⟩ ∧
  tab 3 = some ⟨false, 1, 8, [.v (.int .i64 0)], .int .i64⟩ ∧
  tab 4 = some ⟨false, 1, 1, [.v (.bool false)], .bool⟩ ∧
  tab 5 = some ⟨false, 1, 1, [.v (.int .u8 0)], .int .u8⟩ ∧
  tab 9 = some ⟨false, 1, 16, [.v (.string ⟨#[]⟩)], .other⟩ ∧
  tab 12 = some ⟨false, 1, 8, [.v (.int .u64 0)], .int .u64⟩ ∧
  tab 13 = some ⟨true, 2, 24, [.v (.string ⟨#[]⟩), .v (.int .u64 0)], .st [(0, 1), (1, 1)] false⟩ ∧
  tab 21 = some ⟨false, 1, 4, [.v (.int .i32 0)], .int .i32⟩ ∧
  tab 22 = some ⟨false, 1, 24, [.v (.slice none 0 0)], .sl 3⟩ ∧
  tab 23 = some ⟨false, 1, 24, [.v (.slice none 0 0)], .sl 60⟩ ∧
  tab 24 = some ⟨true, 4, 80, [.v (.int .i64 0), .v (.slice none 0 0), .v (.slice none 0 0), .v (.slice none 0 0)], .st [(0, 1), (1, 1), (2, 1), (3, 1)] false⟩ ∧
  tab 25 = some ⟨true, 4, 80, [.v (.int .i64 0), .v (.slice none 0 0), .v (.slice none 0 0), .v (.slice none 0 0)], .st [(0, 1), (1, 1), (2, 1), (3, 1)] false⟩ ∧
  tab 26 = some ⟨true, 2, 16, [.v (.int .i64 0), .v (.int .i64 0)], .st [(0, 1), (1, 1)] true⟩ ∧
  tab 27 = some ⟨true, 2, 16, [.v (.int .i64 0), .v (.int .i64 0)], .st [(0, 1), (1, 1)] true⟩ ∧
  tab 28 = some ⟨false, 1, 8, [.v (.nilFunc)], .other⟩ ∧
  tab 29 = some ⟨false, 1, 8, [.v (.nilFunc)], .other⟩ ∧
  tab 30 = some ⟨false, 1, 8, [.v (.nilFunc)], .other⟩ ∧
  tab 32 = some ⟨false, 1, 8, [.v (.nilFunc)], .other⟩ ∧
  tab 34 = some ⟨false, 1, 8, [.v (.nilFunc)], .other⟩ ∧
  tab 35 = some ⟨false, 1, 8, [.v (.nilFunc)], .other⟩ ∧
  tab 36 = some ⟨false, 1, 8, [.v (.nilFunc)], .other⟩ ∧
  tab 37 = some ⟨false, 1, 8, [.v (.nilFunc)], .other⟩ ∧
  tab 38 = some ⟨false, 1, 8, [.v (.nilFunc)], .other⟩ ∧
  tab 39 = some ⟨false, 1, 24, [.v (.slice none 0 0)], .sl 22⟩ ∧
  tab 41 = some ⟨false, 1, 8, [.v (.nilFunc)], .other⟩ ∧
  tab 43 = some ⟨false, 1, 8, [.v (.nilFunc)], .other⟩ ∧
  tab 44 = some ⟨false, 1, 8, [.v (.nilFunc)], .other⟩ ∧
  tab 45 = some ⟨false, 1, 8, [.v (.nilFunc)], .other⟩ ∧
  tab 46 = some ⟨false, 1, 8, [.v (.nilFunc)], .other⟩ ∧
  tab 47 = some ⟨false, 1, 8, [.v (.nilFunc)], .other⟩ ∧
  tab 48 = some ⟨false, 1, 8, [.v (.nilFunc)], .other⟩ ∧
  tab 49 = some ⟨false, 1, 8, [.v (.nilFunc)], .other⟩ ∧
  tab 50 = some ⟨false, 1, 8, [.v (.nilFunc)], .other⟩ ∧
  tab 51 = some ⟨false, 1, 8, [.v (.nilFunc)], .other⟩ ∧
  tab 52 = some ⟨false, 1, 8, [.v (.nilFunc)], .other⟩ ∧
  tab 53 = some ⟨false, 1, 8, [.v (.nilFunc)], .other⟩ ∧
  tab 54 = some ⟨false, 1, 8, [.v (.nilFunc)], .other⟩ ∧
  tab 56 = some ⟨false, 1, 8, [.v (.nilFunc)], .other⟩ ∧
  tab 57 = some ⟨false, 1, 8, [.v (.nilFunc)], .other⟩ ∧
  tab 58 = some ⟨false, 1, 8, [.v (.nilFunc)], .other⟩ ∧
  tab 59 = some ⟨true, 4, 80, [.v (.slice none 0 0), .v (.slice none 0 0), .v (.slice none 0 0), .v (.int .i64 0)], .st [(0, 1), (1, 1), (2, 1), (3, 1)] false⟩ ∧
  tab 60 = some ⟨true, 4, 80, [.v (.slice none 0 0), .v (.slice none 0 0), .v (.slice none 0 0), .v (.int .i64 0)], .st [(0, 1), (1, 1), (2, 1), (3, 1)] false⟩ ∧
  tab 61 = some ⟨false, 1, 8, [.v (.nilFunc)], .other⟩ ∧
  tab 62 = some ⟨false, 1, 8, [.v (.nilFunc)], .other⟩ ∧
  tab 63 = some ⟨false, 1, 8, [.v (.nilFunc)], .other⟩ ∧
  tab 64 = some ⟨false, 1, 8, [.v (.nilFunc)], .other⟩ ∧
  tab 66 = some ⟨false, 1, 8, [.v (.nilFunc)], .other⟩ ∧
  tab 67 = some ⟨false, 1, 8, [.v (.nilFunc)], .other⟩ ∧
  tab 68 = some ⟨false, 1, 8, [.v (.nilFunc)], .other⟩ ∧
  tab 69 = some ⟨false, 1, 8, [.v (.nilFunc)], .other⟩ ∧
  tab 70 = some ⟨false, 1, 8, [.v (.nilFunc)], .other⟩ ∧
  tab 71 = some ⟨false, 1, 8, [.v (.nilFunc)], .other⟩ ∧
  tab 72 = some ⟨false, 1, 8, [.v (.nilFunc)], .other⟩ ∧
  tab 73 = some ⟨false, 1, 8, [.v (.nilFunc)], .other⟩ ∧
  tab 74 = some ⟨false, 1, 8, [.v (.nilFunc)], .other⟩ ∧
  tab 75 = some ⟨false, 1, 24, [.v (.slice none 0 0)], .sl 4⟩ ∧
  tab 76 = some ⟨false, 1, 8, [.v (.nilFunc)], .other⟩ ∧
  tab 77 = some ⟨false, 1, 8, [.v (.nilFunc)], .other⟩ ∧
  tab 78 = some ⟨false, 1, 8, [.v (.nilFunc)], .other⟩ ∧
  tab 79 = some ⟨false, 1, 8, [.v (.nilFunc)], .other⟩ ∧
  tab 80 = some ⟨false, 1, 8, [.v (.nilFunc)], .other⟩ ∧
  tab 81 = some ⟨false, 1, 8, [.v (.nilFunc)], .other⟩ ∧
  tab 82 = some ⟨false, 1, 8, [.v (.nilFunc)], .other⟩ ∧
  tab 83 = some ⟨false, 1, 8, [.v (.nilFunc)], .other⟩ ∧
  tab 84 = some ⟨false, 1, 8, [.v (.nilFunc)], .other⟩ ∧
  tab 85 = some ⟨false, 1, 8, [.v (.nilFunc)], .other⟩ ∧
  tab 86 = some ⟨false, 1, 8, [.v (.nilFunc)], .other⟩ ∧
  tab 87 = some ⟨false, 1, 8, [.v (.int .u64 0)], .int .u64⟩ ∧
  tab 88 = some ⟨false, 1, 8, [.v (.nilFunc)], .other⟩ ∧
  tab 89 = some ⟨false, 1, 8, [.v (.nilFunc)], .other⟩ ∧
  tab 91 = some ⟨false, 1, 8, [.v (.nilFunc)], .other⟩ ∧
  tab 92 = some ⟨false, 1, 8, [.v (.nilFunc)], .other⟩ ∧
  tab 93 = some ⟨false, 1, 8, [.v (.nilFunc)], .other⟩ ∧
  tab 94 = some ⟨false, 1, 8, [.v (.nilFunc)], .other⟩ ∧
  tab 95 = some ⟨false, 1, 8, [.v (.int .i64 0)], .int .i64⟩ ∧
  tab 97 = some ⟨false, 1, 8, [.v (.nilFunc)], .other⟩ ∧
  tab 98 = some ⟨false, 1, 8, [.v (.nilFunc)], .other⟩ ∧
  tab 99 = some ⟨false, 1, 8, [.v (.nilFunc)], .other⟩ ∧
  tab 100 = some ⟨false, 1, 8, [.v (.nilFunc)], .other⟩ ∧
  tab 101 = some ⟨false, 1, 8, [.v (.nilFunc)], .other⟩ ∧
  tab 102 = some ⟨false, 1, 8, [.v (.nilFunc)], .other⟩ ∧
  tab 103 = some ⟨false, 1, 4, [.v (.int .u32 0)], .int .u32⟩ ∧
  tab 104 = some ⟨false, 1, 8, [.v (.nilFunc)], .other⟩ ∧
  tab 105 = some ⟨false, 1, 8, [.v (.int .u64 0)], .int .u64⟩ ∧
  tab 106 = some ⟨false, 1, 8, [.v (.nilFunc)], .other⟩ ∧
  tab 107 = some ⟨false, 1, 8, [.v (.int .u64 0)], .int .u64⟩ ∧
  tab 108 = some ⟨false, 1, 8, [.v (.nilFunc)], .other⟩ ∧
  tab 109 = some ⟨false, 1, 8, [.v (.nilFunc)], .other⟩ ∧
  tab 110 = some ⟨false, 1, 8, [.v (.nilFunc)], .other⟩ := by
  refine ⟨?_, ?_, ?_, ?_, ?_, ?_, ?_, ?_, ?_, ?_, ?_, ?_, ?_, ?_, ?_, ?_, ?_, ?_, ?_, ?_, ?_, ?_, ?_, ?_, ?_, ?_, ?_, ?_, ?_, ?_, ?_, ?_, ?_, ?_, ?_, ?_, ?_, ?_, ?_, ?_, ?_, ?_, ?_, ?_, ?_, ?_, ?_, ?_, ?_, ?_, ?_, ?_, ?_, ?_, ?_, ?_, ?_, ?_, ?_, ?_, ?_, ?_, ?_, ?_, ?_, ?_, ?_, ?_, ?_, ?_, ?_, ?_, ?_, ?_, ?_, ?_, ?_, ?_, ?_, ?_, ?_, ?_, ?_, ?_, ?_, ?_, ?_, ?_, ?_, ?_⟩ <;> rfl
@[go_sem] theorem tt2 : tab 111 = some ⟨false, 1, 8, [.v (.pointer none)], .other⟩ ∧
  tab 112 = some ⟨false, 1, 8, [.v (.nilFunc)], .other⟩ ∧
  tab 113 = some ⟨false, 1, 8, [.v (.pointer none)], .other⟩ ∧
  tab 115 = some ⟨false, 1, 8, [.v (.nilFunc)], .other⟩ ∧
  tab 116 = some ⟨false, 1, 8, [.v (.nilFunc)], .other⟩ ∧
  tab 122 = some ⟨false, 1, 8, [.v (.nilFunc)], .other⟩ ∧
  tab 126 = some ⟨false, 1, 8, [.v (.pointer none)], .other⟩ := by
  refine ⟨?_, ?_, ?_, ?_, ?_, ?_, ?_⟩ <;> rfl
instance : TyC Try.prog 3 := tyC_of Try.func3 (by kernel_rfl) (by kernel_rfl)
instance : TyC Try.prog 4 := tyC_of Try.func4 (by kernel_rfl) (by kernel_rfl)
instance : TyC Try.prog 5 := tyC_of Try.func5 (by kernel_rfl) (by kernel_rfl)
instance : TyC Try.prog 6 := tyC_of Try.func6 (by kernel_rfl) (by kernel_rfl)
instance : TyC Try.prog 7 := tyC_of Try.func7 (by kernel_rfl) (by kernel_rfl)
instance : TyC Try.prog 8 := tyC_of Try.func8 (by kernel_rfl) (by kernel_rfl)
instance : TyC Try.prog 9 := tyC_of Try.func9 (by kernel_rfl) (by kernel_rfl)
instance : TyC Try.prog 10 := tyC_of Try.func10 (by kernel_rfl) (by kernel_rfl)
instance : TyC Try.prog 11 := tyC_of Try.func11 (by kernel_rfl) (by kernel_rfl)
instance : TyC Try.prog 12 := tyC_of Try.func12 (by kernel_rfl) (by kernel_rfl)
instance : TyC Try.prog 13 := tyC_of Try.func13 (by kernel_rfl) (by kernel_rfl)
instance : TyC Try.prog 14 := tyC_of Try.func14 (by kernel_rfl) (by kernel_rfl)
instance : TyC Try.prog 15 := tyC_of Try.func15 (by kernel_rfl) (by kernel_rfl)
instance : TyC Try.prog 16 := tyC_of Try.func16 (by kernel_rfl) (by kernel_rfl)
instance : TyC Try.prog 17 := tyC_of Try.func17 (by kernel_rfl) (by kernel_rfl)
instance : TyC Try.prog 18 := tyC_of Try.func18 (by kernel_rfl) (by kernel_rfl)
instance : TyC Try.prog 19 := tyC_of Try.func19 (by kernel_rfl) (by kernel_rfl)
instance : TyC Try.prog 20 := tyC_of Try.func20 (by kernel_rfl) (by kernel_rfl)
instance : TyC Try.prog 21 := tyC_of Try.func21 (by kernel_rfl) (by kernel_rfl)
instance : TyC Try.prog 22 := tyC_of Try.func22 (by kernel_rfl) (by kernel_rfl)
instance : TyC Try.prog 23 := tyC_of Try.func23 (by kernel_rfl) (by kernel_rfl)
instance : TyC Try.prog 24 := tyC_of Try.func24 (by kernel_rfl) (by kernel_rfl)
instance : TyC Try.prog 25 := tyC_of Try.func25 (by kernel_rfl) (by kernel_rfl)
instance : TyC Try.prog 26 := tyC_of Try.func26 (by kernel_rfl) (by kernel_rfl)
instance : TyC Try.prog 27 := tyC_of Try.func27 (by kernel_rfl) (by kernel_rfl)
instance : TyC Try.prog 28 := tyC_of Try.func28 (by kernel_rfl) (by kernel_rfl)
instance : TyC Try.prog 29 := tyC_of Try.func29 (by kernel_rfl) (by kernel_rfl)
instance : TyC Try.prog 30 := tyC_of Try.func30 (by kernel_rfl) (by kernel_rfl)
instance : TyC Try.prog 31 := tyC_of Try.func31 (by kernel_rfl) (by kernel_rfl)
instance : TyC Try.prog 32 := tyC_of Try.func32 (by kernel_rfl) (by kernel_rfl)
instance : TyC Try.prog 33 := tyC_of Try.func33 (by kernel_rfl) (by kernel_rfl)
instance : TyC Try.prog 34 := tyC_of Try.func34 (by kernel_rfl) (by kernel_rfl)
instance : TyC Try.prog 35 := tyC_of Try.func35 (by kernel_rfl) (by kernel_rfl)
instance : TyC Try.prog 36 := tyC_of Try.func36 (by kernel_rfl) (by kernel_rfl)
instance : TyC Try.prog 37 := tyC_of Try.func37 (by kernel_rfl) (by kernel_rfl)
instance : TyC Try.prog 38 := tyC_of Try.func38 (by kernel_rfl) (by kernel_rfl)
instance : TyC Try.prog 39 := tyC_of Try.func39 (by kernel_rfl) (by kernel_rfl)
instance : TyC Try.prog 40 := tyC_of Try.func40 (by kernel_rfl) (by kernel_rfl)
instance : TyC Try.prog 41 := tyC_of Try.func41 (by kernel_rfl) (by kernel_rfl)
instance : TyC Try.prog 42 := tyC_of Try.func42 (by kernel_rfl) (by kernel_rfl)
instance : TyC Try.prog 43 := tyC_of Try.func43 (by kernel_rfl) (by kernel_rfl)
instance : TyC Try.prog 44 := tyC_of Try.func44 (by kernel_rfl) (by kernel_rfl)
instance : TyC Try.prog 45 := tyC_of Try.func45 (by kernel_rfl) (by kernel_rfl)
instance : TyC Try.prog 46 := tyC_of Try.func46 (by kernel_rfl) (by kernel_rfl)
instance : TyC Try.prog 47 := tyC_of Try.func47 (by kernel_rfl) (by kernel_rfl)
instance : TyC Try.prog 48 := tyC_of Try.func48 (by kernel_rfl) (by kernel_rfl)
instance : TyC Try.prog 49 := tyC_of Try.func49 (by kernel_rfl) (by kernel_rfl)
instance : TyC Try.prog 50 := tyC_of Try.func50 (by kernel_rfl) (by kernel_rfl)
instance : TyC Try.prog 51 := tyC_of Try.func51 (by kernel_rfl) (by kernel_rfl)
instance : TyC Try.prog 52 := tyC_of Try.func52 (by kernel_rfl) (by kernel_rfl)
instance : TyC Try.prog 53 := tyC_of Try.func53 (by kernel_rfl) (by kernel_rfl)
instance : TyC Try.prog 54 := tyC_of Try.func54 (by kernel_rfl) (by kernel_rfl)
instance : TyC Try.prog 55 := tyC_of Try.func55 (by kernel_rfl) (by kernel_rfl)
instance : TyC Try.prog 56 := tyC_of Try.func56 (by kernel_rfl) (by kernel_rfl)
instance : TyC Try.prog 57 := tyC_of Try.func57 (by kernel_rfl) (by kernel_rfl)
instance : TyC Try.prog 58 := tyC_of Try.func58 (by kernel_rfl) (by kernel_rfl)
instance : TyC Try.prog 59 := tyC_of Try.func59 (by kernel_rfl) (by kernel_rfl)
instance : TyC Try.prog 60 := tyC_of Try.func60 (by kernel_rfl) (by kernel_rfl)
instance : TyC Try.prog 61 := tyC_of Try.func61 (by kernel_rfl) (by kernel_rfl)
instance : TyC Try.prog 62 := tyC_of Try.func62 (by kernel_rfl) (by kernel_rfl)
instance : TyC Try.prog 63 := tyC_of Try.func63 (by kernel_rfl) (by kernel_rfl)
instance : TyC Try.prog 64 := tyC_of Try.func64 (by kernel_rfl) (by kernel_rfl)
instance : TyC Try.prog 65 := tyC_of Try.func65 (by kernel_rfl) (by kernel_rfl)
instance : TyC Try.prog 66 := tyC_of Try.func66 (by kernel_rfl) (by kernel_rfl)
instance : TyC Try.prog 67 := tyC_of Try.func67 (by kernel_rfl) (by kernel_rfl)
instance : TyC Try.prog 68 := tyC_of Try.func68 (by kernel_rfl) (by kernel_rfl)
instance : TyC Try.prog 69 := tyC_of Try.func69 (by kernel_rfl) (by kernel_rfl)
instance : TyC Try.prog 70 := tyC_of Try.func70 (by kernel_rfl) (by kernel_rfl)
instance : TyC Try.prog 71 := tyC_of Try.func71 (by kernel_rfl) (by kernel_rfl)
instance : TyC Try.prog 72 := tyC_of Try.func72 (by kernel_rfl) (by kernel_rfl)
instance : TyC Try.prog 73 := tyC_of Try.func73 (by kernel_rfl) (by kernel_rfl)
instance : TyC Try.prog 74 := tyC_of Try.func74 (by kernel_rfl) (by kernel_rfl)
instance : TyC Try.prog 75 := tyC_of Try.func75 (by kernel_rfl) (by kernel_rfl)
instance : TyC Try.prog 76 := tyC_of Try.func76 (by kernel_rfl) (by kernel_rfl)
instance : TyC Try.prog 77 := tyC_of Try.func77 (by kernel_rfl) (by kernel_rfl)
instance : TyC Try.prog 78 := tyC_of Try.func78 (by kernel_rfl) (by kernel_rfl)
instance : TyC Try.prog 79 := tyC_of Try.func79 (by kernel_rfl) (by kernel_rfl)
instance : TyC Try.prog 80 := tyC_of Try.func80 (by kernel_rfl) (by kernel_rfl)
instance : TyC Try.prog 81 := tyC_of Try.func81 (by kernel_rfl) (by kernel_rfl)
instance : TyC Try.prog 82 := tyC_of Try.func82 (by kernel_rfl) (by kernel_rfl)
instance : TyC Try.prog 83 := tyC_of Try.func83 (by kernel_rfl) (by kernel_rfl)
instance : TyC Try.prog 84 := tyC_of Try.func84 (by kernel_rfl) (by kernel_rfl)
instance : TyC Try.prog 85 := tyC_of Try.func85 (by kernel_rfl) (by kernel_rfl)
instance : TyC Try.prog 86 := tyC_of Try.func86 (by kernel_rfl) (by kernel_rfl)
instance : TyC Try.prog 87 := tyC_of Try.func87 (by kernel_rfl) (by kernel_rfl)
instance : TyC Try.prog 88 := tyC_of Try.func88 (by kernel_rfl) (by kernel_rfl)
instance : TyC Try.prog 89 := tyC_of Try.func89 (by kernel_rfl) (by kernel_rfl)
instance : TyC Try.prog 90 := tyC_of Try.func90 (by kernel_rfl) (by kernel_rfl)
instance : TyC Try.prog 91 := tyC_of Try.func91 (by kernel_rfl) (by kernel_rfl)
instance : TyC Try.prog 92 := tyC_of Try.func92 (by kernel_rfl) (by kernel_rfl)
instance : TyC Try.prog 93 := tyC_of Try.func93 (by kernel_rfl) (by kernel_rfl)
instance : TyC Try.prog 94 := tyC_of Try.func94 (by kernel_rfl) (by kernel_rfl)
instance : TyC Try.prog 95 := tyC_of Try.func95 (by kernel_rfl) (by kernel_rfl)
instance : TyC Try.prog 96 := tyC_of Try.func96 (by kernel_rfl) (by kernel_rfl)
instance : TyC Try.prog 97 := tyC_of Try.func97 (by kernel_rfl) (by kernel_rfl)
instance : TyC Try.prog 98 := tyC_of Try.func98 (by kernel_rfl) (by kernel_rfl)
instance : TyC Try.prog 99 := tyC_of Try.func99 (by kernel_rfl) (by kernel_rfl)
instance : TyC Try.prog 100 := tyC_of Try.func100 (by kernel_rfl) (by kernel_rfl)

end Go.Proofs.Ytbeceabheahpnaa
