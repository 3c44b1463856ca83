/- The tables of one seat as instances for the abstract layer. By program (gentab.py). -/
import Derived.Test.YthdlckclpmfidaaRows
import Derived.Test.YthdlckclpmfidaaAb
import Derived.KernelRfl
set_option maxRecDepth 20000
namespace Go.Proofs.Ythdlckclpmfidaa
open Go.Ab

-- 1: func()
instance : TyU Try.prog 1 (.func #[] #[] false) := ⟨Try.underlying1⟩
instance : TyI Try.prog 1 (.nilFunc) 1 8 := tyI_of (by kernel_rfl)
-- 2: int64
instance : TyU Try.prog 2 (.int .i64) := ⟨Try.underlying2⟩
instance : TyI Try.prog 2 (.int .i64 0) 1 8 := tyI_of (by kernel_rfl)
-- 3: int
instance : TyU Try.prog 3 (.int .i64) := ⟨Try.underlying3⟩
instance : TyI Try.prog 3 (.int .i64 0) 1 8 := tyI_of (by kernel_rfl)
-- 4: bool
instance : TyU Try.prog 4 (.bool) := ⟨Try.underlying4⟩
instance : TyI Try.prog 4 (.bool false) 1 1 := tyI_of (by kernel_rfl)
-- 5: uint8
instance : TyU Try.prog 5 (.int .u8) := ⟨Try.underlying5⟩
instance : TyI Try.prog 5 (.int .u8 0) 1 1 := tyI_of (by kernel_rfl)
-- 9: string
instance : TyU Try.prog 9 (.string) := ⟨Try.underlying9⟩
instance : TyI Try.prog 9 (.string ⟨#[]⟩) 1 16 := tyI_of (by kernel_rfl)
-- 12: uintptr
instance : TyU Try.prog 12 (.int .u64) := ⟨Try.underlying12⟩
instance : TyI Try.prog 12 (.int .u64 0) 1 8 := tyI_of (by kernel_rfl)
-- 13: struct ( msg string; addr uintptr )
instance : TyU Try.prog 13 (.struct #[{ name := "msg", type := 9, offset := 0, embedded := false, tag := "", pkgPath := "runtime", byteOffset := 0 }, { name := "addr", type := 12, offset := 1, embedded := false, tag := "", pkgPath := "runtime", byteOffset := 16 }]) := ⟨Try.underlying13⟩
instance : TyI Try.prog 13 (.agg #[.string ⟨#[]⟩, .int .u64 0]) 2 24 := tyI_of (by kernel_rfl)
instance : TyF Try.prog 13 [(0, 1), (1, 1)] := ⟨_, Try.underlying13, by kernel_rfl⟩
-- 21: int32
instance : TyU Try.prog 21 (.int .i32) := ⟨Try.underlying21⟩
instance : TyI Try.prog 21 (.int .i32 0) 1 4 := tyI_of (by kernel_rfl)
-- 22: []int
instance : TyU Try.prog 22 (.slice 3) := ⟨Try.underlying22⟩
instance : TyI Try.prog 22 (.slice none 0 0) 1 24 := tyI_of (by kernel_rfl)
-- 23: []api.Operator
instance : TyU Try.prog 23 (.slice 36) := ⟨Try.underlying23⟩
instance : TyI Try.prog 23 (.slice none 0 0) 1 24 := tyI_of (by kernel_rfl)
-- 24: struct ( Facts int; Init []int; Goal []int; Operators []api.Operator )
instance : TyU Try.prog 24 (.struct #[{ name := "Facts", type := 3, offset := 0, embedded := false, tag := "", pkgPath := "", byteOffset := 0 }, { name := "Init", type := 22, offset := 1, embedded := false, tag := "", pkgPath := "", byteOffset := 8 }, { name := "Goal", type := 22, offset := 2, embedded := false, tag := "", pkgPath := "", byteOffset := 32 }, { name := "Operators", type := 23, offset := 3, embedded := false, tag := "", pkgPath := "", byteOffset := 56 }]) := ⟨Try.underlying24⟩
instance : TyI Try.prog 24 (.agg #[.int .i64 0, .slice none 0 0, .slice none 0 0, .slice none 0 0]) 4 80 := tyI_of (by kernel_rfl)
instance : TyF Try.prog 24 [(0, 1), (1, 1), (2, 1), (3, 1)] := ⟨_, Try.underlying24, by kernel_rfl⟩
-- 25: api.Task
instance : TyU Try.prog 25 (.struct #[{ name := "Facts", type := 3, offset := 0, embedded := false, tag := "", pkgPath := "", byteOffset := 0 }, { name := "Init", type := 22, offset := 1, embedded := false, tag := "", pkgPath := "", byteOffset := 8 }, { name := "Goal", type := 22, offset := 2, embedded := false, tag := "", pkgPath := "", byteOffset := 32 }, { name := "Operators", type := 23, offset := 3, embedded := false, tag := "", pkgPath := "", byteOffset := 56 }]) := ⟨Try.underlying25⟩
instance : TyI Try.prog 25 (.agg #[.int .i64 0, .slice none 0 0, .slice none 0 0, .slice none 0 0]) 4 80 := tyI_of (by kernel_rfl)
instance : TyF Try.prog 25 [(0, 1), (1, 1), (2, 1), (3, 1)] := ⟨_, Try.underlying25, by kernel_rfl⟩
-- 26: struct ( Code int; Index int )
instance : TyU Try.prog 26 (.struct #[{ name := "Code", type := 3, offset := 0, embedded := false, tag := "", pkgPath := "", byteOffset := 0 }, { name := "Index", type := 3, offset := 1, embedded := false, tag := "", pkgPath := "", byteOffset := 8 }]) := ⟨Try.underlying26⟩
instance : TyI Try.prog 26 (.agg #[.int .i64 0, .int .i64 0]) 2 16 := tyI_of (by kernel_rfl)
instance : TyF Try.prog 26 [(0, 1), (1, 1)] := ⟨_, Try.underlying26, by kernel_rfl⟩
-- 27: api.Fault
instance : TyU Try.prog 27 (.struct #[{ name := "Code", type := 3, offset := 0, embedded := false, tag := "", pkgPath := "", byteOffset := 0 }, { name := "Index", type := 3, offset := 1, embedded := false, tag := "", pkgPath := "", byteOffset := 8 }]) := ⟨Try.underlying27⟩
instance : TyI Try.prog 27 (.agg #[.int .i64 0, .int .i64 0]) 2 16 := tyI_of (by kernel_rfl)
instance : TyF Try.prog 27 [(0, 1), (1, 1)] := ⟨_, Try.underlying27, by kernel_rfl⟩
-- 28: func(api.Task) api.Fault
instance : TyU Try.prog 28 (.func #[25] #[27] false) := ⟨Try.underlying28⟩
instance : TyI Try.prog 28 (.nilFunc) 1 8 := tyI_of (by kernel_rfl)
-- 29: func(int, int, int) bool
instance : TyU Try.prog 29 (.func #[3, 3, 3] #[4] false) := ⟨Try.underlying29⟩
instance : TyI Try.prog 29 (.nilFunc) 1 8 := tyI_of (by kernel_rfl)
-- 30: func(int, int) api.Fault
instance : TyU Try.prog 30 (.func #[3, 3] #[27] false) := ⟨Try.underlying30⟩
instance : TyI Try.prog 30 (.nilFunc) 1 8 := tyI_of (by kernel_rfl)
-- 32: func(api.Task, int, int) (bool, api.Fault)
instance : TyU Try.prog 32 (.func #[25, 3, 3] #[4, 27] false) := ⟨Try.underlying32⟩
instance : TyI Try.prog 32 (.nilFunc) 1 8 := tyI_of (by kernel_rfl)
-- 33: func() bool
instance : TyU Try.prog 33 (.func #[] #[4] false) := ⟨Try.underlying33⟩
instance : TyI Try.prog 33 (.nilFunc) 1 8 := tyI_of (by kernel_rfl)
-- 34: func(api.Operator, api.Operator) bool
instance : TyU Try.prog 34 (.func #[36, 36] #[4] false) := ⟨Try.underlying34⟩
instance : TyI Try.prog 34 (.nilFunc) 1 8 := tyI_of (by kernel_rfl)
-- 35: struct ( Pre []int; Add []int; Del []int; Cost int )
instance : TyU Try.prog 35 (.struct #[{ name := "Pre", type := 22, offset := 0, embedded := false, tag := "", pkgPath := "", byteOffset := 0 }, { name := "Add", type := 22, offset := 1, embedded := false, tag := "", pkgPath := "", byteOffset := 24 }, { name := "Del", type := 22, offset := 2, embedded := false, tag := "", pkgPath := "", byteOffset := 48 }, { name := "Cost", type := 3, offset := 3, embedded := false, tag := "", pkgPath := "", byteOffset := 72 }]) := ⟨Try.underlying35⟩
instance : TyI Try.prog 35 (.agg #[.slice none 0 0, .slice none 0 0, .slice none 0 0, .int .i64 0]) 4 80 := tyI_of (by kernel_rfl)
instance : TyF Try.prog 35 [(0, 1), (1, 1), (2, 1), (3, 1)] := ⟨_, Try.underlying35, by kernel_rfl⟩
-- 36: api.Operator
instance : TyU Try.prog 36 (.struct #[{ name := "Pre", type := 22, offset := 0, embedded := false, tag := "", pkgPath := "", byteOffset := 0 }, { name := "Add", type := 22, offset := 1, embedded := false, tag := "", pkgPath := "", byteOffset := 24 }, { name := "Del", type := 22, offset := 2, embedded := false, tag := "", pkgPath := "", byteOffset := 48 }, { name := "Cost", type := 3, offset := 3, embedded := false, tag := "", pkgPath := "", byteOffset := 72 }]) := ⟨Try.underlying36⟩
instance : TyI Try.prog 36 (.agg #[.slice none 0 0, .slice none 0 0, .slice none 0 0, .int .i64 0]) 4 80 := tyI_of (by kernel_rfl)
instance : TyF Try.prog 36 [(0, 1), (1, 1), (2, 1), (3, 1)] := ⟨_, Try.underlying36, by kernel_rfl⟩
-- 37: func(api.Task, []int) api.Fault
instance : TyU Try.prog 37 (.func #[25, 22] #[27] false) := ⟨Try.underlying37⟩
instance : TyI Try.prog 37 (.nilFunc) 1 8 := tyI_of (by kernel_rfl)
-- 38: func(api.Task, []int) []int
instance : TyU Try.prog 38 (.func #[25, 22] #[22] false) := ⟨Try.underlying38⟩
instance : TyI Try.prog 38 (.nilFunc) 1 8 := tyI_of (by kernel_rfl)
-- 40: func(api.Task, []int) ([]int, api.Fault)
instance : TyU Try.prog 40 (.func #[25, 22] #[22, 27] false) := ⟨Try.underlying40⟩
instance : TyI Try.prog 40 (.nilFunc) 1 8 := tyI_of (by kernel_rfl)
-- 41: func([]int, []int) bool
instance : TyU Try.prog 41 (.func #[22, 22] #[4] false) := ⟨Try.underlying41⟩
instance : TyI Try.prog 41 (.nilFunc) 1 8 := tyI_of (by kernel_rfl)
-- 42: func(api.Task, []int, int, int) bool
instance : TyU Try.prog 42 (.func #[25, 22, 3, 3] #[4] false) := ⟨Try.underlying42⟩
instance : TyI Try.prog 42 (.nilFunc) 1 8 := tyI_of (by kernel_rfl)
-- 43: struct ( Found bool; Plan []int; Cost int; Expanded int )
instance : TyU Try.prog 43 (.struct #[{ name := "Found", type := 4, offset := 0, embedded := false, tag := "", pkgPath := "", byteOffset := 0 }, { name := "Plan", type := 22, offset := 1, embedded := false, tag := "", pkgPath := "", byteOffset := 8 }, { name := "Cost", type := 3, offset := 2, embedded := false, tag := "", pkgPath := "", byteOffset := 32 }, { name := "Expanded", type := 3, offset := 3, embedded := false, tag := "", pkgPath := "", byteOffset := 40 }]) := ⟨Try.underlying43⟩
instance : TyI Try.prog 43 (.agg #[.bool false, .slice none 0 0, .int .i64 0, .int .i64 0]) 4 48 := tyI_of (by kernel_rfl)
instance : TyF Try.prog 43 [(0, 1), (1, 1), (2, 1), (3, 1)] := ⟨_, Try.underlying43, by kernel_rfl⟩
-- 44: api.SearchResult
instance : TyU Try.prog 44 (.struct #[{ name := "Found", type := 4, offset := 0, embedded := false, tag := "", pkgPath := "", byteOffset := 0 }, { name := "Plan", type := 22, offset := 1, embedded := false, tag := "", pkgPath := "", byteOffset := 8 }, { name := "Cost", type := 3, offset := 2, embedded := false, tag := "", pkgPath := "", byteOffset := 32 }, { name := "Expanded", type := 3, offset := 3, embedded := false, tag := "", pkgPath := "", byteOffset := 40 }]) := ⟨Try.underlying44⟩
instance : TyI Try.prog 44 (.agg #[.bool false, .slice none 0 0, .int .i64 0, .int .i64 0]) 4 48 := tyI_of (by kernel_rfl)
instance : TyF Try.prog 44 [(0, 1), (1, 1), (2, 1), (3, 1)] := ⟨_, Try.underlying44, by kernel_rfl⟩
-- 46: func(api.Task) (api.SearchResult, api.Fault)
instance : TyU Try.prog 46 (.func #[25] #[44, 27] false) := ⟨Try.underlying46⟩
instance : TyI Try.prog 46 (.nilFunc) 1 8 := tyI_of (by kernel_rfl)
-- 47: [][]int
instance : TyU Try.prog 47 (.slice 22) := ⟨Try.underlying47⟩
instance : TyI Try.prog 47 (.slice none 0 0) 1 24 := tyI_of (by kernel_rfl)
-- 49: func(api.Task) ([][]int, bool)
instance : TyU Try.prog 49 (.func #[25] #[47, 4] false) := ⟨Try.underlying49⟩
instance : TyI Try.prog 49 (.nilFunc) 1 8 := tyI_of (by kernel_rfl)
-- 50: func(api.Task, [][]int) []int
instance : TyU Try.prog 50 (.func #[25, 47] #[22] false) := ⟨Try.underlying50⟩
instance : TyI Try.prog 50 (.nilFunc) 1 8 := tyI_of (by kernel_rfl)
-- 51: func(api.Task, []int) int
instance : TyU Try.prog 51 (.func #[25, 22] #[3] false) := ⟨Try.underlying51⟩
instance : TyI Try.prog 51 (.nilFunc) 1 8 := tyI_of (by kernel_rfl)
-- 52: func(api.Task, []int) bool
instance : TyU Try.prog 52 (.func #[25, 22] #[4] false) := ⟨Try.underlying52⟩
instance : TyI Try.prog 52 (.nilFunc) 1 8 := tyI_of (by kernel_rfl)
-- 53: func(api.Task) bool
instance : TyU Try.prog 53 (.func #[25] #[4] false) := ⟨Try.underlying53⟩
instance : TyI Try.prog 53 (.nilFunc) 1 8 := tyI_of (by kernel_rfl)
-- 54: func([]int) []int
instance : TyU Try.prog 54 (.func #[22] #[22] false) := ⟨Try.underlying54⟩
instance : TyI Try.prog 54 (.nilFunc) 1 8 := tyI_of (by kernel_rfl)
-- 55: func(api.Task, int, int) bool
instance : TyU Try.prog 55 (.func #[25, 3, 3] #[4] false) := ⟨Try.underlying55⟩
instance : TyI Try.prog 55 (.nilFunc) 1 8 := tyI_of (by kernel_rfl)
-- 56: func(api.Task, []int, int) []int
instance : TyU Try.prog 56 (.func #[25, 22, 3] #[22] false) := ⟨Try.underlying56⟩
instance : TyI Try.prog 56 (.nilFunc) 1 8 := tyI_of (by kernel_rfl)
-- 57: func(api.Task, []int, int) ([]int, api.Fault)
instance : TyU Try.prog 57 (.func #[25, 22, 3] #[22, 27] false) := ⟨Try.underlying57⟩
instance : TyI Try.prog 57 (.nilFunc) 1 8 := tyI_of (by kernel_rfl)
-- 59: func(api.Task, []int, []int) ([][]int, api.Fault)
instance : TyU Try.prog 59 (.func #[25, 22, 22] #[47, 27] false) := ⟨Try.underlying59⟩
instance : TyI Try.prog 59 (.nilFunc) 1 8 := tyI_of (by kernel_rfl)
-- 60: func([]int, int) bool
instance : TyU Try.prog 60 (.func #[22, 3] #[4] false) := ⟨Try.underlying60⟩
instance : TyI Try.prog 60 (.nilFunc) 1 8 := tyI_of (by kernel_rfl)
-- 61: [2]int
instance : TyU Try.prog 61 (.array 2 3) := ⟨Try.underlying61⟩
instance : TyI Try.prog 61 (.agg #[.int .i64 0, .int .i64 0]) 2 16 := tyI_of (by kernel_rfl)
-- 62: func() api.Task
instance : TyU Try.prog 62 (.func #[] #[25] false) := ⟨Try.underlying62⟩
instance : TyI Try.prog 62 (.nilFunc) 1 8 := tyI_of (by kernel_rfl)
-- 63: func([]int, []int) int
instance : TyU Try.prog 63 (.func #[22, 22] #[3] false) := ⟨Try.underlying63⟩
instance : TyI Try.prog 63 (.nilFunc) 1 8 := tyI_of (by kernel_rfl)
-- 64: []bool
instance : TyU Try.prog 64 (.slice 4) := ⟨Try.underlying64⟩
instance : TyI Try.prog 64 (.slice none 0 0) 1 24 := tyI_of (by kernel_rfl)
-- 65: func(api.Task, []int, int) bool
instance : TyU Try.prog 65 (.func #[25, 22, 3] #[4] false) := ⟨Try.underlying65⟩
instance : TyI Try.prog 65 (.nilFunc) 1 8 := tyI_of (by kernel_rfl)
-- 66: func(api.Task) int
instance : TyU Try.prog 66 (.func #[25] #[3] false) := ⟨Try.underlying66⟩
instance : TyI Try.prog 66 (.nilFunc) 1 8 := tyI_of (by kernel_rfl)
-- 67: func(api.Task) api.SearchResult
instance : TyU Try.prog 67 (.func #[25] #[44] false) := ⟨Try.underlying67⟩
instance : TyI Try.prog 67 (.nilFunc) 1 8 := tyI_of (by kernel_rfl)
-- 68: func(api.Task, []int) ([][]int, bool)
instance : TyU Try.prog 68 (.func #[25, 22] #[47, 4] false) := ⟨Try.underlying68⟩
instance : TyI Try.prog 68 (.nilFunc) 1 8 := tyI_of (by kernel_rfl)
-- 69: func([]int) int
instance : TyU Try.prog 69 (.func #[22] #[3] false) := ⟨Try.underlying69⟩
instance : TyI Try.prog 69 (.nilFunc) 1 8 := tyI_of (by kernel_rfl)
-- 70: func(api.Task, []int, []int) bool
instance : TyU Try.prog 70 (.func #[25, 22, 22] #[4] false) := ⟨Try.underlying70⟩
instance : TyI Try.prog 70 (.nilFunc) 1 8 := tyI_of (by kernel_rfl)
-- 71: func(func(int, []int) bool)
instance : TyU Try.prog 71 (.func #[95] #[] false) := ⟨Try.underlying71⟩
instance : TyI Try.prog 71 (.nilFunc) 1 8 := tyI_of (by kernel_rfl)
-- 72: func(api.Task, []int) func(func(int, []int) bool)
instance : TyU Try.prog 72 (.func #[25, 22] #[71] false) := ⟨Try.underlying72⟩
instance : TyI Try.prog 72 (.nilFunc) 1 8 := tyI_of (by kernel_rfl)
-- 73: func(int, []int) api.Fault
instance : TyU Try.prog 73 (.func #[3, 22] #[27] false) := ⟨Try.underlying73⟩
instance : TyI Try.prog 73 (.nilFunc) 1 8 := tyI_of (by kernel_rfl)
-- 74: func(api.Task, []int, []int) [][]int
instance : TyU Try.prog 74 (.func #[25, 22, 22] #[47] false) := ⟨Try.underlying74⟩
instance : TyI Try.prog 74 (.nilFunc) 1 8 := tyI_of (by kernel_rfl)
-- 75: func(api.Operator, int) int
instance : TyU Try.prog 75 (.func #[36, 3] #[3] false) := ⟨Try.underlying75⟩
instance : TyI Try.prog 75 (.nilFunc) 1 8 := tyI_of (by kernel_rfl)
-- 76: func(int) bool
instance : TyU Try.prog 76 (.func #[3] #[4] false) := ⟨Try.underlying76⟩
instance : TyI Try.prog 76 (.nilFunc) 1 8 := tyI_of (by kernel_rfl)
-- 77: func(func(int) bool)
instance : TyU Try.prog 77 (.func #[76] #[] false) := ⟨Try.underlying77⟩
instance : TyI Try.prog 77 (.nilFunc) 1 8 := tyI_of (by kernel_rfl)
-- 78: func(int) func(int) bool
instance : TyU Try.prog 78 (.func #[3] #[76] false) := ⟨Try.underlying78⟩
instance : TyI Try.prog 78 (.nilFunc) 1 8 := tyI_of (by kernel_rfl)
-- 79: map[int]int
instance : TyU Try.prog 79 (.map 3 3) := ⟨Try.underlying79⟩
instance : TyI Try.prog 79 (.map none) 1 8 := tyI_of (by kernel_rfl)
-- 81: struct ( state []int; cost int; parent int; op int )
instance : TyU Try.prog 81 (.struct #[{ name := "state", type := 22, offset := 0, embedded := false, tag := "", pkgPath := "helmsman/commuting", byteOffset := 0 }, { name := "cost", type := 3, offset := 1, embedded := false, tag := "", pkgPath := "helmsman/commuting", byteOffset := 24 }, { name := "parent", type := 3, offset := 2, embedded := false, tag := "", pkgPath := "helmsman/commuting", byteOffset := 32 }, { name := "op", type := 3, offset := 3, embedded := false, tag := "", pkgPath := "helmsman/commuting", byteOffset := 40 }]) := ⟨Try.underlying81⟩
instance : TyI Try.prog 81 (.agg #[.slice none 0 0, .int .i64 0, .int .i64 0, .int .i64 0]) 4 48 := tyI_of (by kernel_rfl)
instance : TyF Try.prog 81 [(0, 1), (1, 1), (2, 1), (3, 1)] := ⟨_, Try.underlying81, by kernel_rfl⟩
-- 82: commuting.node
instance : TyU Try.prog 82 (.struct #[{ name := "state", type := 22, offset := 0, embedded := false, tag := "", pkgPath := "helmsman/commuting", byteOffset := 0 }, { name := "cost", type := 3, offset := 1, embedded := false, tag := "", pkgPath := "helmsman/commuting", byteOffset := 24 }, { name := "parent", type := 3, offset := 2, embedded := false, tag := "", pkgPath := "helmsman/commuting", byteOffset := 32 }, { name := "op", type := 3, offset := 3, embedded := false, tag := "", pkgPath := "helmsman/commuting", byteOffset := 40 }]) := ⟨Try.underlying82⟩
instance : TyI Try.prog 82 (.agg #[.slice none 0 0, .int .i64 0, .int .i64 0, .int .i64 0]) 4 48 := tyI_of (by kernel_rfl)
instance : TyF Try.prog 82 [(0, 1), (1, 1), (2, 1), (3, 1)] := ⟨_, Try.underlying82, by kernel_rfl⟩
-- 83: []commuting.node
instance : TyU Try.prog 83 (.slice 82) := ⟨Try.underlying83⟩
instance : TyI Try.prog 83 (.slice none 0 0) 1 24 := tyI_of (by kernel_rfl)
-- 84: *commuting.open
instance : TyU Try.prog 84 (.pointer 87) := ⟨Try.underlying84⟩
instance : TyI Try.prog 84 (.pointer none) 1 8 := tyI_of (by kernel_rfl)
-- 85: *[]commuting.node
instance : TyU Try.prog 85 (.pointer 83) := ⟨Try.underlying85⟩
instance : TyI Try.prog 85 (.pointer none) 1 8 := tyI_of (by kernel_rfl)
-- 86: struct ( nodes *[]commuting.node; list []int )
instance : TyU Try.prog 86 (.struct #[{ name := "nodes", type := 85, offset := 0, embedded := false, tag := "", pkgPath := "helmsman/commuting", byteOffset := 0 }, { name := "list", type := 22, offset := 1, embedded := false, tag := "", pkgPath := "helmsman/commuting", byteOffset := 8 }]) := ⟨Try.underlying86⟩
instance : TyI Try.prog 86 (.agg #[.pointer none, .slice none 0 0]) 2 32 := tyI_of (by kernel_rfl)
instance : TyF Try.prog 86 [(0, 1), (1, 1)] := ⟨_, Try.underlying86, by kernel_rfl⟩
-- 87: commuting.open
instance : TyU Try.prog 87 (.struct #[{ name := "nodes", type := 85, offset := 0, embedded := false, tag := "", pkgPath := "helmsman/commuting", byteOffset := 0 }, { name := "list", type := 22, offset := 1, embedded := false, tag := "", pkgPath := "helmsman/commuting", byteOffset := 8 }]) := ⟨Try.underlying87⟩
instance : TyI Try.prog 87 (.agg #[.pointer none, .slice none 0 0]) 2 32 := tyI_of (by kernel_rfl)
instance : TyF Try.prog 87 [(0, 1), (1, 1)] := ⟨_, Try.underlying87, by kernel_rfl⟩
-- 88: func() int
instance : TyU Try.prog 88 (.func #[] #[3] false) := ⟨Try.underlying88⟩
instance : TyI Try.prog 88 (.nilFunc) 1 8 := tyI_of (by kernel_rfl)
-- 89: func(heap.Interface) interface ()
instance : TyU Try.prog 89 (.func #[101] #[20] false) := ⟨Try.underlying89⟩
instance : TyI Try.prog 89 (.nilFunc) 1 8 := tyI_of (by kernel_rfl)
-- 90: func([]commuting.node, int) []int
instance : TyU Try.prog 90 (.func #[83, 3] #[22] false) := ⟨Try.underlying90⟩
instance : TyI Try.prog 90 (.nilFunc) 1 8 := tyI_of (by kernel_rfl)
-- 91: func(heap.Interface, interface ())
instance : TyU Try.prog 91 (.func #[101, 20] #[] false) := ⟨Try.underlying91⟩
instance : TyI Try.prog 91 (.nilFunc) 1 8 := tyI_of (by kernel_rfl)
-- 92: uint
instance : TyU Try.prog 92 (.int .u64) := ⟨Try.underlying92⟩
instance : TyI Try.prog 92 (.int .u64 0) 1 8 := tyI_of (by kernel_rfl)
-- 94: func(api.Task, []int, []int) ([]int, bool)
instance : TyU Try.prog 94 (.func #[25, 22, 22] #[22, 4] false) := ⟨Try.underlying94⟩
instance : TyI Try.prog 94 (.nilFunc) 1 8 := tyI_of (by kernel_rfl)
-- 95: func(int, []int) bool
instance : TyU Try.prog 95 (.func #[3, 22] #[4] false) := ⟨Try.underlying95⟩
instance : TyI Try.prog 95 (.nilFunc) 1 8 := tyI_of (by kernel_rfl)
-- 96: func([]int, []int, []int) []int
instance : TyU Try.prog 96 (.func #[22, 22, 22] #[22] false) := ⟨Try.underlying96⟩
instance : TyI Try.prog 96 (.nilFunc) 1 8 := tyI_of (by kernel_rfl)
-- 97: func([]int, func(int) bool) bool
instance : TyU Try.prog 97 (.func #[22, 76] #[4] false) := ⟨Try.underlying97⟩
instance : TyI Try.prog 97 (.nilFunc) 1 8 := tyI_of (by kernel_rfl)
-- 98: func([]int, int) (int, bool)
instance : TyU Try.prog 98 (.func #[22, 3] #[3, 4] false) := ⟨Try.underlying98⟩
instance : TyI Try.prog 98 (.nilFunc) 1 8 := tyI_of (by kernel_rfl)
-- 99: func([]int, int) int
instance : TyU Try.prog 99 (.func #[22, 3] #[3] false) := ⟨Try.underlying99⟩
instance : TyI Try.prog 99 (.nilFunc) 1 8 := tyI_of (by kernel_rfl)
-- 102: func(int, int)
instance : TyU Try.prog 102 (.func #[3, 3] #[] false) := ⟨Try.underlying102⟩
instance : TyI Try.prog 102 (.nilFunc) 1 8 := tyI_of (by kernel_rfl)
-- 103: func(heap.Interface, int, int) bool
instance : TyU Try.prog 103 (.func #[101, 3, 3] #[4] false) := ⟨Try.underlying103⟩
instance : TyI Try.prog 103 (.nilFunc) 1 8 := tyI_of (by kernel_rfl)
-- 104: func() interface ()
instance : TyU Try.prog 104 (.func #[] #[20] false) := ⟨Try.underlying104⟩
instance : TyI Try.prog 104 (.nilFunc) 1 8 := tyI_of (by kernel_rfl)
-- 105: func([]int)
instance : TyU Try.prog 105 (.func #[22] #[] false) := ⟨Try.underlying105⟩
instance : TyI Try.prog 105 (.nilFunc) 1 8 := tyI_of (by kernel_rfl)
-- 106: func(interface ())
instance : TyU Try.prog 106 (.func #[20] #[] false) := ⟨Try.underlying106⟩
instance : TyI Try.prog 106 (.nilFunc) 1 8 := tyI_of (by kernel_rfl)
-- 107: func(heap.Interface, int)
instance : TyU Try.prog 107 (.func #[101, 3] #[] false) := ⟨Try.underlying107⟩
instance : TyI Try.prog 107 (.nilFunc) 1 8 := tyI_of (by kernel_rfl)
-- 108: func([]int, func(int) bool) int
instance : TyU Try.prog 108 (.func #[22, 76] #[3] false) := ⟨Try.underlying108⟩
instance : TyI Try.prog 108 (.nilFunc) 1 8 := tyI_of (by kernel_rfl)
-- 109: func(int, int) bool
instance : TyU Try.prog 109 (.func #[3, 3] #[4] false) := ⟨Try.underlying109⟩
instance : TyI Try.prog 109 (.nilFunc) 1 8 := tyI_of (by kernel_rfl)
-- 110: func([]int, int, int, int)
instance : TyU Try.prog 110 (.func #[22, 3, 3, 3] #[] false) := ⟨Try.underlying110⟩
instance : TyI Try.prog 110 (.nilFunc) 1 8 := tyI_of (by kernel_rfl)
-- 111: func(uint) int
instance : TyU Try.prog 111 (.func #[92] #[3] false) := ⟨Try.underlying111⟩
instance : TyI Try.prog 111 (.nilFunc) 1 8 := tyI_of (by kernel_rfl)
-- 112: func([]int, int, int)
instance : TyU Try.prog 112 (.func #[22, 3, 3] #[] false) := ⟨Try.underlying112⟩
instance : TyI Try.prog 112 (.nilFunc) 1 8 := tyI_of (by kernel_rfl)
-- 113: slices.sortedHint
instance : TyU Try.prog 113 (.int .i64) := ⟨Try.underlying113⟩
instance : TyI Try.prog 113 (.int .i64 0) 1 8 := tyI_of (by kernel_rfl)
-- 115: func([]int, int, int) (int, slices.sortedHint)
instance : TyU Try.prog 115 (.func #[22, 3, 3] #[3, 113] false) := ⟨Try.underlying115⟩
instance : TyI Try.prog 115 (.nilFunc) 1 8 := tyI_of (by kernel_rfl)
-- 116: func([]int, int, int) bool
instance : TyU Try.prog 116 (.func #[22, 3, 3] #[4] false) := ⟨Try.underlying116⟩
instance : TyI Try.prog 116 (.nilFunc) 1 8 := tyI_of (by kernel_rfl)
-- 117: func([]int, int, int, int) int
instance : TyU Try.prog 117 (.func #[22, 3, 3, 3] #[3] false) := ⟨Try.underlying117⟩
instance : TyI Try.prog 117 (.nilFunc) 1 8 := tyI_of (by kernel_rfl)
-- 118: func([]int, int, int, int) (int, bool)
instance : TyU Try.prog 118 (.func #[22, 3, 3, 3] #[3, 4] false) := ⟨Try.underlying118⟩
instance : TyI Try.prog 118 (.nilFunc) 1 8 := tyI_of (by kernel_rfl)
-- 119: func(uint32) int
instance : TyU Try.prog 119 (.func #[120] #[3] false) := ⟨Try.underlying119⟩
instance : TyI Try.prog 119 (.nilFunc) 1 8 := tyI_of (by kernel_rfl)
-- 120: uint32
instance : TyU Try.prog 120 (.int .u32) := ⟨Try.underlying120⟩
instance : TyI Try.prog 120 (.int .u32 0) 1 4 := tyI_of (by kernel_rfl)
-- 121: func(uint64) int
instance : TyU Try.prog 121 (.func #[122] #[3] false) := ⟨Try.underlying121⟩
instance : TyI Try.prog 121 (.nilFunc) 1 8 := tyI_of (by kernel_rfl)
-- 122: uint64
instance : TyU Try.prog 122 (.int .u64) := ⟨Try.underlying122⟩
instance : TyI Try.prog 122 (.int .u64 0) 1 8 := tyI_of (by kernel_rfl)
-- 123: slices.xorshift
instance : TyU Try.prog 123 (.int .u64) := ⟨Try.underlying123⟩
instance : TyI Try.prog 123 (.int .u64 0) 1 8 := tyI_of (by kernel_rfl)
-- 124: func(int) uint
instance : TyU Try.prog 124 (.func #[3] #[92] false) := ⟨Try.underlying124⟩
instance : TyI Try.prog 124 (.nilFunc) 1 8 := tyI_of (by kernel_rfl)
-- 125: func() uint64
instance : TyU Try.prog 125 (.func #[] #[122] false) := ⟨Try.underlying125⟩
instance : TyI Try.prog 125 (.nilFunc) 1 8 := tyI_of (by kernel_rfl)
-- 126: func([]int, int, *int) int
instance : TyU Try.prog 126 (.func #[22, 3, 127] #[3] false) := ⟨Try.underlying126⟩
instance : TyI Try.prog 126 (.nilFunc) 1 8 := tyI_of (by kernel_rfl)
-- 127: *int
instance : TyU Try.prog 127 (.pointer 3) := ⟨Try.underlying127⟩
instance : TyI Try.prog 127 (.pointer none) 1 8 := tyI_of (by kernel_rfl)
-- 128: func([]int, int, int, int, *int) int
instance : TyU Try.prog 128 (.func #[22, 3, 3, 3, 127] #[3] false) := ⟨Try.underlying128⟩
instance : TyI Try.prog 128 (.nilFunc) 1 8 := tyI_of (by kernel_rfl)
-- 129: *slices.xorshift
instance : TyU Try.prog 129 (.pointer 123) := ⟨Try.underlying129⟩
instance : TyI Try.prog 129 (.pointer none) 1 8 := tyI_of (by kernel_rfl)
-- 131: func([]int, int, int, *int) (int, int)
instance : TyU Try.prog 131 (.func #[22, 3, 3, 127] #[3, 3] false) := ⟨Try.underlying131⟩
instance : TyI Try.prog 131 (.nilFunc) 1 8 := tyI_of (by kernel_rfl)
-- 132: func() string
instance : TyU Try.prog 132 (.func #[] #[9] false) := ⟨Try.underlying132⟩
instance : TyI Try.prog 132 (.nilFunc) 1 8 := tyI_of (by kernel_rfl)
-- 141: *uint8
instance : TyU Try.prog 141 (.pointer 5) := ⟨Try.underlying141⟩
instance : TyI Try.prog 141 (.pointer none) 1 8 := tyI_of (by kernel_rfl)
def tabL : List (Nat × TI) := [(1, ⟨false, 1, 8, [.v (.nilFunc)], .other⟩),
  (2, ⟨false, 1, 8, [.v (.int .i64 0)], .int .i64⟩),
  (3, ⟨false, 1, 8, [.v (.int .i64 0)], .int .i64⟩),
  (4, ⟨false, 1, 1, [.v (.bool false)], .bool⟩),
  (5, ⟨false, 1, 1, [.v (.int .u8 0)], .int .u8⟩),
  (9, ⟨false, 1, 16, [.v (.string ⟨#[]⟩)], .other⟩),
  (12, ⟨false, 1, 8, [.v (.int .u64 0)], .int .u64⟩),
  (13, ⟨true, 2, 24, [.v (.string ⟨#[]⟩), .v (.int .u64 0)], .st [(0, 1), (1, 1)] false⟩),
  (21, ⟨false, 1, 4, [.v (.int .i32 0)], .int .i32⟩),
  (22, ⟨false, 1, 24, [.v (.slice none 0 0)], .sl 3⟩),
  (23, ⟨false, 1, 24, [.v (.slice none 0 0)], .sl 36⟩),
  (24, ⟨true, 4, 80, [.v (.int .i64 0), .v (.slice none 0 0), .v (.slice none 0 0), .v (.slice none 0 0)], .st [(0, 1), (1, 1), (2, 1), (3, 1)] false⟩),
  (25, ⟨true, 4, 80, [.v (.int .i64 0), .v (.slice none 0 0), .v (.slice none 0 0), .v (.slice none 0 0)], .st [(0, 1), (1, 1), (2, 1), (3, 1)] false⟩),
  (26, ⟨true, 2, 16, [.v (.int .i64 0), .v (.int .i64 0)], .st [(0, 1), (1, 1)] true⟩),
  (27, ⟨true, 2, 16, [.v (.int .i64 0), .v (.int .i64 0)], .st [(0, 1), (1, 1)] true⟩),
  (28, ⟨false, 1, 8, [.v (.nilFunc)], .other⟩),
  (29, ⟨false, 1, 8, [.v (.nilFunc)], .other⟩),
  (30, ⟨false, 1, 8, [.v (.nilFunc)], .other⟩),
  (32, ⟨false, 1, 8, [.v (.nilFunc)], .other⟩),
  (33, ⟨false, 1, 8, [.v (.nilFunc)], .other⟩),
  (34, ⟨false, 1, 8, [.v (.nilFunc)], .other⟩),
  (35, ⟨true, 4, 80, [.v (.slice none 0 0), .v (.slice none 0 0), .v (.slice none 0 0), .v (.int .i64 0)], .st [(0, 1), (1, 1), (2, 1), (3, 1)] false⟩),
  (36, ⟨true, 4, 80, [.v (.slice none 0 0), .v (.slice none 0 0), .v (.slice none 0 0), .v (.int .i64 0)], .st [(0, 1), (1, 1), (2, 1), (3, 1)] false⟩),
  (37, ⟨false, 1, 8, [.v (.nilFunc)], .other⟩),
  (38, ⟨false, 1, 8, [.v (.nilFunc)], .other⟩),
  (40, ⟨false, 1, 8, [.v (.nilFunc)], .other⟩),
  (41, ⟨false, 1, 8, [.v (.nilFunc)], .other⟩),
  (42, ⟨false, 1, 8, [.v (.nilFunc)], .other⟩),
  (43, ⟨true, 4, 48, [.v (.bool false), .v (.slice none 0 0), .v (.int .i64 0), .v (.int .i64 0)], .st [(0, 1), (1, 1), (2, 1), (3, 1)] false⟩),
  (44, ⟨true, 4, 48, [.v (.bool false), .v (.slice none 0 0), .v (.int .i64 0), .v (.int .i64 0)], .st [(0, 1), (1, 1), (2, 1), (3, 1)] false⟩),
  (46, ⟨false, 1, 8, [.v (.nilFunc)], .other⟩),
  (47, ⟨false, 1, 24, [.v (.slice none 0 0)], .sl 22⟩),
  (49, ⟨false, 1, 8, [.v (.nilFunc)], .other⟩),
  (50, ⟨false, 1, 8, [.v (.nilFunc)], .other⟩),
  (51, ⟨false, 1, 8, [.v (.nilFunc)], .other⟩),
  (52, ⟨false, 1, 8, [.v (.nilFunc)], .other⟩),
  (53, ⟨false, 1, 8, [.v (.nilFunc)], .other⟩),
  (54, ⟨false, 1, 8, [.v (.nilFunc)], .other⟩),
  (55, ⟨false, 1, 8, [.v (.nilFunc)], .other⟩),
  (56, ⟨false, 1, 8, [.v (.nilFunc)], .other⟩),
  (57, ⟨false, 1, 8, [.v (.nilFunc)], .other⟩),
  (59, ⟨false, 1, 8, [.v (.nilFunc)], .other⟩),
  (60, ⟨false, 1, 8, [.v (.nilFunc)], .other⟩),
  (61, ⟨true, 2, 16, [.v (.int .i64 0), .v (.int .i64 0)], .ar 2 3 true⟩),
  (62, ⟨false, 1, 8, [.v (.nilFunc)], .other⟩),
  (63, ⟨false, 1, 8, [.v (.nilFunc)], .other⟩),
  (64, ⟨false, 1, 24, [.v (.slice none 0 0)], .sl 4⟩),
  (65, ⟨false, 1, 8, [.v (.nilFunc)], .other⟩),
  (66, ⟨false, 1, 8, [.v (.nilFunc)], .other⟩),
  (67, ⟨false, 1, 8, [.v (.nilFunc)], .other⟩),
  (68, ⟨false, 1, 8, [.v (.nilFunc)], .other⟩),
  (69, ⟨false, 1, 8, [.v (.nilFunc)], .other⟩),
  (70, ⟨false, 1, 8, [.v (.nilFunc)], .other⟩),
  (71, ⟨false, 1, 8, [.v (.nilFunc)], .other⟩),
  (72, ⟨false, 1, 8, [.v (.nilFunc)], .other⟩),
  (73, ⟨false, 1, 8, [.v (.nilFunc)], .other⟩),
  (74, ⟨false, 1, 8, [.v (.nilFunc)], .other⟩),
  (75, ⟨false, 1, 8, [.v (.nilFunc)], .other⟩),
  (76, ⟨false, 1, 8, [.v (.nilFunc)], .other⟩),
  (77, ⟨false, 1, 8, [.v (.nilFunc)], .other⟩),
  (78, ⟨false, 1, 8, [.v (.nilFunc)], .other⟩),
  (79, ⟨false, 1, 8, [.v (.map none)], .other⟩),
  (81, ⟨true, 4, 48, [.v (.slice none 0 0), .v (.int .i64 0), .v (.int .i64 0), .v (.int .i64 0)], .st [(0, 1), (1, 1), (2, 1), (3, 1)] false⟩),
  (82, ⟨true, 4, 48, [.v (.slice none 0 0), .v (.int .i64 0), .v (.int .i64 0), .v (.int .i64 0)], .st [(0, 1), (1, 1), (2, 1), (3, 1)] false⟩),
  (83, ⟨false, 1, 24, [.v (.slice none 0 0)], .sl 82⟩),
  (84, ⟨false, 1, 8, [.v (.pointer none)], .other⟩),
  (85, ⟨false, 1, 8, [.v (.pointer none)], .other⟩),
  (86, ⟨true, 2, 32, [.v (.pointer none), .v (.slice none 0 0)], .st [(0, 1), (1, 1)] false⟩),
  (87, ⟨true, 2, 32, [.v (.pointer none), .v (.slice none 0 0)], .st [(0, 1), (1, 1)] false⟩),
  (88, ⟨false, 1, 8, [.v (.nilFunc)], .other⟩),
  (89, ⟨false, 1, 8, [.v (.nilFunc)], .other⟩),
  (90, ⟨false, 1, 8, [.v (.nilFunc)], .other⟩),
  (91, ⟨false, 1, 8, [.v (.nilFunc)], .other⟩),
  (92, ⟨false, 1, 8, [.v (.int .u64 0)], .int .u64⟩),
  (94, ⟨false, 1, 8, [.v (.nilFunc)], .other⟩),
  (95, ⟨false, 1, 8, [.v (.nilFunc)], .other⟩),
  (96, ⟨false, 1, 8, [.v (.nilFunc)], .other⟩),
  (97, ⟨false, 1, 8, [.v (.nilFunc)], .other⟩),
  (98, ⟨false, 1, 8, [.v (.nilFunc)], .other⟩),
  (99, ⟨false, 1, 8, [.v (.nilFunc)], .other⟩),
  (102, ⟨false, 1, 8, [.v (.nilFunc)], .other⟩),
  (103, ⟨false, 1, 8, [.v (.nilFunc)], .other⟩),
  (104, ⟨false, 1, 8, [.v (.nilFunc)], .other⟩),
  (105, ⟨false, 1, 8, [.v (.nilFunc)], .other⟩),
  (106, ⟨false, 1, 8, [.v (.nilFunc)], .other⟩),
  (107, ⟨false, 1, 8, [.v (.nilFunc)], .other⟩),
  (108, ⟨false, 1, 8, [.v (.nilFunc)], .other⟩),
  (109, ⟨false, 1, 8, [.v (.nilFunc)], .other⟩),
  (110, ⟨false, 1, 8, [.v (.nilFunc)], .other⟩),
  (111, ⟨false, 1, 8, [.v (.nilFunc)], .other⟩),
  (112, ⟨false, 1, 8, [.v (.nilFunc)], .other⟩),
  (113, ⟨false, 1, 8, [.v (.int .i64 0)], .int .i64⟩),
  (115, ⟨false, 1, 8, [.v (.nilFunc)], .other⟩),
  (116, ⟨false, 1, 8, [.v (.nilFunc)], .other⟩),
  (117, ⟨false, 1, 8, [.v (.nilFunc)], .other⟩),
  (118, ⟨false, 1, 8, [.v (.nilFunc)], .other⟩),
  (119, ⟨false, 1, 8, [.v (.nilFunc)], .other⟩),
  (120, ⟨false, 1, 4, [.v (.int .u32 0)], .int .u32⟩),
  (121, ⟨false, 1, 8, [.v (.nilFunc)], .other⟩),
  (122, ⟨false, 1, 8, [.v (.int .u64 0)], .int .u64⟩),
  (123, ⟨false, 1, 8, [.v (.int .u64 0)], .int .u64⟩),
  (124, ⟨false, 1, 8, [.v (.nilFunc)], .other⟩),
  (125, ⟨false, 1, 8, [.v (.nilFunc)], .other⟩),
  (126, ⟨false, 1, 8, [.v (.nilFunc)], .other⟩),
  (127, ⟨false, 1, 8, [.v (.pointer none)], .other⟩),
  (128, ⟨false, 1, 8, [.v (.nilFunc)], .other⟩),
  (129, ⟨false, 1, 8, [.v (.pointer none)], .other⟩),
  (131, ⟨false, 1, 8, [.v (.nilFunc)], .other⟩),
  (132, ⟨false, 1, 8, [.v (.nilFunc)], .other⟩),
  (141, ⟨false, 1, 8, [.v (.pointer none)], .other⟩)]
def tab (t : Nat) : Option TI := lkp tabL t
theorem tab_ok : AllOk Try.prog tabL := ⟨tiok inferInstance inferInstance rfl rfl (trivial),
  tiok inferInstance inferInstance rfl rfl (rfl),
  tiok inferInstance inferInstance rfl rfl (rfl),
  tiok inferInstance inferInstance rfl rfl (rfl),
  tiok inferInstance inferInstance rfl rfl (rfl),
  tiok inferInstance inferInstance rfl rfl (trivial),
  tiok inferInstance inferInstance rfl rfl (rfl),
  tiok inferInstance inferInstance rfl rfl (kok_st inferInstance),
  tiok inferInstance inferInstance rfl rfl (rfl),
  tiok inferInstance inferInstance rfl rfl (rfl),
  tiok inferInstance inferInstance rfl rfl (rfl),
  tiok inferInstance inferInstance rfl rfl (kok_st inferInstance),
  tiok inferInstance inferInstance rfl rfl (kok_st inferInstance),
  tiok inferInstance inferInstance rfl rfl (kok_st2 inferInstance inferInstance inferInstance (by kernel_rfl)),
  tiok inferInstance inferInstance rfl rfl (kok_st2 inferInstance inferInstance inferInstance (by kernel_rfl)),
  tiok inferInstance inferInstance rfl rfl (trivial),
  tiok inferInstance inferInstance rfl rfl (trivial),
  tiok inferInstance inferInstance rfl rfl (trivial),
  tiok inferInstance inferInstance rfl rfl (trivial),
  tiok inferInstance inferInstance rfl rfl (trivial),
  tiok inferInstance inferInstance rfl rfl (trivial),
  tiok inferInstance inferInstance rfl rfl (kok_st inferInstance),
  tiok inferInstance inferInstance rfl rfl (kok_st inferInstance),
  tiok inferInstance inferInstance rfl rfl (trivial),
  tiok inferInstance inferInstance rfl rfl (trivial),
  tiok inferInstance inferInstance rfl rfl (trivial),
  tiok inferInstance inferInstance rfl rfl (trivial),
  tiok inferInstance inferInstance rfl rfl (trivial),
  tiok inferInstance inferInstance rfl rfl (kok_st inferInstance),
  tiok inferInstance inferInstance rfl rfl (kok_st inferInstance),
  tiok inferInstance inferInstance rfl rfl (trivial),
  tiok inferInstance inferInstance rfl rfl (rfl),
  tiok inferInstance inferInstance rfl rfl (trivial),
  tiok inferInstance inferInstance rfl rfl (trivial),
  tiok inferInstance inferInstance rfl rfl (trivial),
  tiok inferInstance inferInstance rfl rfl (trivial),
  tiok inferInstance inferInstance rfl rfl (trivial),
  tiok inferInstance inferInstance rfl rfl (trivial),
  tiok inferInstance inferInstance rfl rfl (trivial),
  tiok inferInstance inferInstance rfl rfl (trivial),
  tiok inferInstance inferInstance rfl rfl (trivial),
  tiok inferInstance inferInstance rfl rfl (trivial),
  tiok inferInstance inferInstance rfl rfl (trivial),
  tiok inferInstance inferInstance rfl rfl (⟨rfl, fun _ => ⟨rfl, ⟨_, inferInstance⟩, by kernel_rfl, by kernel_rfl, by kernel_rfl⟩⟩),
  tiok inferInstance inferInstance rfl rfl (trivial),
  tiok inferInstance inferInstance rfl rfl (trivial),
  tiok inferInstance inferInstance rfl rfl (rfl),
  tiok inferInstance inferInstance rfl rfl (trivial),
  tiok inferInstance inferInstance rfl rfl (trivial),
  tiok inferInstance inferInstance rfl rfl (trivial),
  tiok inferInstance inferInstance rfl rfl (trivial),
  tiok inferInstance inferInstance rfl rfl (trivial),
  tiok inferInstance inferInstance rfl rfl (trivial),
  tiok inferInstance inferInstance rfl rfl (trivial),
  tiok inferInstance inferInstance rfl rfl (trivial),
  tiok inferInstance inferInstance rfl rfl (trivial),
  tiok inferInstance inferInstance rfl rfl (trivial),
  tiok inferInstance inferInstance rfl rfl (trivial),
  tiok inferInstance inferInstance rfl rfl (trivial),
  tiok inferInstance inferInstance rfl rfl (trivial),
  tiok inferInstance inferInstance rfl rfl (trivial),
  tiok inferInstance inferInstance rfl rfl (trivial),
  tiok inferInstance inferInstance rfl rfl (kok_st inferInstance),
  tiok inferInstance inferInstance rfl rfl (kok_st inferInstance),
  tiok inferInstance inferInstance rfl rfl (rfl),
  tiok inferInstance inferInstance rfl rfl (trivial),
  tiok inferInstance inferInstance rfl rfl (trivial),
  tiok inferInstance inferInstance rfl rfl (kok_st inferInstance),
  tiok inferInstance inferInstance rfl rfl (kok_st inferInstance),
  tiok inferInstance inferInstance rfl rfl (trivial),
  tiok inferInstance inferInstance rfl rfl (trivial),
  tiok inferInstance inferInstance rfl rfl (trivial),
  tiok inferInstance inferInstance rfl rfl (trivial),
  tiok inferInstance inferInstance rfl rfl (rfl),
  tiok inferInstance inferInstance rfl rfl (trivial),
  tiok inferInstance inferInstance rfl rfl (trivial),
  tiok inferInstance inferInstance rfl rfl (trivial),
  tiok inferInstance inferInstance rfl rfl (trivial),
  tiok inferInstance inferInstance rfl rfl (trivial),
  tiok inferInstance inferInstance rfl rfl (trivial),
  tiok inferInstance inferInstance rfl rfl (trivial),
  tiok inferInstance inferInstance rfl rfl (trivial),
  tiok inferInstance inferInstance rfl rfl (trivial),
  tiok inferInstance inferInstance rfl rfl (trivial),
  tiok inferInstance inferInstance rfl rfl (trivial),
  tiok inferInstance inferInstance rfl rfl (trivial),
  tiok inferInstance inferInstance rfl rfl (trivial),
  tiok inferInstance inferInstance rfl rfl (trivial),
  tiok inferInstance inferInstance rfl rfl (trivial),
  tiok inferInstance inferInstance rfl rfl (trivial),
  tiok inferInstance inferInstance rfl rfl (trivial),
  tiok inferInstance inferInstance rfl rfl (rfl),
  tiok inferInstance inferInstance rfl rfl (trivial),
  tiok inferInstance inferInstance rfl rfl (trivial),
  tiok inferInstance inferInstance rfl rfl (trivial),
  tiok inferInstance inferInstance rfl rfl (trivial),
  tiok inferInstance inferInstance rfl rfl (trivial),
  tiok inferInstance inferInstance rfl rfl (rfl),
  tiok inferInstance inferInstance rfl rfl (trivial),
  tiok inferInstance inferInstance rfl rfl (rfl),
  tiok inferInstance inferInstance rfl rfl (rfl),
  tiok inferInstance inferInstance rfl rfl (trivial),
  tiok inferInstance inferInstance rfl rfl (trivial),
  tiok inferInstance inferInstance rfl rfl (trivial),
  tiok inferInstance inferInstance rfl rfl (trivial),
  tiok inferInstance inferInstance rfl rfl (trivial),
  tiok inferInstance inferInstance rfl rfl (trivial),
  tiok inferInstance inferInstance rfl rfl (trivial),
  tiok inferInstance inferInstance rfl rfl (trivial),
  tiok inferInstance inferInstance rfl rfl (trivial), trivial⟩
instance : Tb Try.prog tab := ⟨fun _ _ h => lkp_ok tab_ok h⟩
@[go_sem] theorem tt : tab 1 = some ⟨false, 1, 8, [.v (.nilFunc)], .other⟩ ∧
  tab 2 = some ⟨false, 1, 8, [.v (.int .i64 0)], .int .i64⟩ ∧
  tab 3 = some ⟨false, 1, 8, [.v (.int .i64 0)], .int .i64⟩ ∧
  tab 4 = some ⟨false, 1, 1, [.v (.bool false)], .bool⟩ ∧
  tab 5 = some ⟨false, 1, 1, [.v (.int .u8 0)], .int .u8⟩ ∧
  tab 9 = some ⟨false, 1, 16, [.v (.string ⟨#[]⟩)], .other⟩ ∧
  tab 12 = some ⟨false, 1, 8, [.v (.int .u64 0)], .int .u64⟩ ∧
  tab 13 = some ⟨true, 2, 24, [.v (.string ⟨#[]⟩), .v (.int .u64 0)], .st [(0, 1), (1, 1)] false⟩ ∧
  tab 21 = some ⟨false, 1, 4, [.v (.int .i32 0)], .int .i32⟩ ∧
  tab 22 = some ⟨false, 1, 24, [.v (.slice none 0 0)], .sl 3⟩ ∧
  tab 23 = some ⟨false, 1, 24, [.v (.slice none 0 0)], .sl 36⟩ ∧
  tab 24 = some ⟨true, 4, 80, [.v (.int .i64 0), .v (.slice none 0 0), .v (.slice none 0 0), .v (.slice none 0 0)], .st [(0, 1), (1, 1), (2, 1), (3, 1)] false⟩ ∧
  tab 25 = some ⟨true, 4, 80, [.v (.int .i64 0), .v (.slice none 0 0), .v (.slice none 0 0), .v (.slice none 0 0)], .st [(0, 1), (1, 1), (2, 1), (3, 1)] false⟩ ∧
  tab 26 = some ⟨true, 2, 16, [.v (.int .i64 0), .v (.int .i64 0)], .st [(0, 1), (1, 1)] true⟩ ∧
  tab 27 = some ⟨true, 2, 16, [.v (.int .i64 0), .v (.int .i64 0)], .st [(0, 1), (1, 1)] true⟩ ∧
  tab 28 = some ⟨false, 1, 8, [.v (.nilFunc)], .other⟩ ∧
  tab 29 = some ⟨false, 1, 8, [.v (.nilFunc)], .other⟩ ∧
  tab 30 = some ⟨false, 1, 8, [.v (.nilFunc)], .other⟩ ∧
  tab 32 = some ⟨false, 1, 8, [.v (.nilFunc)], .other⟩ ∧
  tab 33 = some ⟨false, 1, 8, [.v (.nilFunc)], .other⟩ ∧
  tab 34 = some ⟨false, 1, 8, [.v (.nilFunc)], .other⟩ ∧
  tab 35 = some ⟨true, 4, 80, [.v (.slice none 0 0), .v (.slice none 0 0), .v (.slice none 0 0), .v (.int .i64 0)], .st [(0, 1), (1, 1), (2, 1), (3, 1)] false⟩ ∧
  tab 36 = some ⟨true, 4, 80, [.v (.slice none 0 0), .v (.slice none 0 0), .v (.slice none 0 0), .v (.int .i64 0)], .st [(0, 1), (1, 1), (2, 1), (3, 1)] false⟩ ∧
  tab 37 = some ⟨false, 1, 8, [.v (.nilFunc)], .other⟩ ∧
  tab 38 = some ⟨false, 1, 8, [.v (.nilFunc)], .other⟩ ∧
  tab 40 = some ⟨false, 1, 8, [.v (.nilFunc)], .other⟩ ∧
  tab 41 = some ⟨false, 1, 8, [.v (.nilFunc)], .other⟩ ∧
  tab 42 = some ⟨false, 1, 8, [.v (.nilFunc)], .other⟩ ∧
  tab 43 = some ⟨true, 4, 48, [.v (.bool false), .v (.slice none 0 0), .v (.int .i64 0), .v (.int .i64 0)], .st [(0, 1), (1, 1), (2, 1), (3, 1)] false⟩ ∧
  tab 44 = some ⟨true, 4, 48, [.v (.bool false), .v (.slice none 0 0), .v (.int .i64 0), .v (.int .i64 0)], .st [(0, 1), (1, 1), (2, 1), (3, 1)] false⟩ ∧
  tab 46 = some ⟨false, 1, 8, [.v (.nilFunc)], .other⟩ ∧
  tab 47 = some ⟨false, 1, 24, [.v (.slice none 0 0)], .sl 22⟩ ∧
  tab 49 = some ⟨false, 1, 8, [.v (.nilFunc)], .other⟩ ∧
  tab 50 = some ⟨false, 1, 8, [.v (.nilFunc)], .other⟩ ∧
  tab 51 = some ⟨false, 1, 8, [.v (.nilFunc)], .other⟩ ∧
  tab 52 = some ⟨false, 1, 8, [.v (.nilFunc)], .other⟩ ∧
  tab 53 = some ⟨false, 1, 8, [.v (.nilFunc)], .other⟩ ∧
  tab 54 = some ⟨false, 1, 8, [.v (.nilFunc)], .other⟩ ∧
  tab 55 = some ⟨false, 1, 8, [.v (.nilFunc)], .other⟩ ∧
  tab 56 = some ⟨false, 1, 8, [.v (.nilFunc)], .other⟩ ∧
  tab 57 = some ⟨false, 1, 8, [.v (.nilFunc)], .other⟩ ∧
  tab 59 = some ⟨false, 1, 8, [.v (.nilFunc)], .other⟩ ∧
  tab 60 = some ⟨false, 1, 8, [.v (.nilFunc)], .other⟩ ∧
  tab 61 = some ⟨true, 2, 16, [.v (.int .i64 0), .v (.int .i64 0)], .ar 2 3 true⟩ ∧
  tab 62 = some ⟨false, 1, 8, [.v (.nilFunc)], .other⟩ ∧
  tab 63 = some ⟨false, 1, 8, [.v (.nilFunc)], .other⟩ ∧
  tab 64 = some ⟨false, 1, 24, [.v (.slice none 0 0)], .sl 4⟩ ∧
  tab 65 = some ⟨false, 1, 8, [.v (.nilFunc)], .other⟩ ∧
  tab 66 = some ⟨false, 1, 8, [.v (.nilFunc)], .other⟩ ∧
  tab 67 = some ⟨false, 1, 8, [.v (.nilFunc)], .other⟩ ∧
  tab 68 = some ⟨false, 1, 8, [.v (.nilFunc)], .other⟩ ∧
  tab 69 = some ⟨false, 1, 8, [.v (.nilFunc)], .other⟩ ∧
  tab 70 = some ⟨false, 1, 8, [.v (.nilFunc)], .other⟩ ∧
  tab 71 = some ⟨false, 1, 8, [.v (.nilFunc)], .other⟩ ∧
  tab 72 = some ⟨false, 1, 8, [.v (.nilFunc)], .other⟩ ∧
  tab 73 = some ⟨false, 1, 8, [.v (.nilFunc)], .other⟩ ∧
  tab 74 = some ⟨false, 1, 8, [.v (.nilFunc)], .other⟩ ∧
  tab 75 = some ⟨false, 1, 8, [.v (.nilFunc)], .other⟩ ∧
  tab 76 = some ⟨false, 1, 8, [.v (.nilFunc)], .other⟩ ∧
  tab 77 = some ⟨false, 1, 8, [.v (.nilFunc)], .other⟩ ∧
  tab 78 = some ⟨false, 1, 8, [.v (.nilFunc)], .other⟩ ∧
  tab 79 = some ⟨false, 1, 8, [.v (.map none)], .other⟩ ∧
  tab 81 = some ⟨true, 4, 48, [.v (.slice none 0 0), .v (.int .i64 0), .v (.int .i64 0), .v (.int .i64 0)], .st [(0, 1), (1, 1), (2, 1), (3, 1)] false⟩ ∧
  tab 82 = some ⟨true, 4, 48, [.v (.slice none 0 0), .v (.int .i64 0), .v (.int .i64 0), .v (.int .i64 0)], .st [(0, 1), (1, 1), (2, 1), (3, 1)] false⟩ ∧
  tab 83 = some ⟨false, 1, 24, [.v (.slice none 0 0)], .sl 82⟩ ∧
  tab 84 = some ⟨false, 1, 8, [.v (.pointer none)], .other⟩ ∧
  tab 85 = some ⟨false, 1, 8, [.v (.pointer none)], .other⟩ ∧
  tab 86 = some ⟨true, 2, 32, [.v (.pointer none), .v (.slice none 0 0)], .st [(0, 1), (1, 1)] false⟩ ∧
  tab 87 = some ⟨true, 2, 32, [.v (.pointer none), .v (.slice none 0 0)], .st [(0, 1), (1, 1)] false⟩ ∧
  tab 88 = some ⟨false, 1, 8, [.v (.nilFunc)], .other⟩ ∧
  tab 89 = some ⟨false, 1, 8, [.v (.nilFunc)], .other⟩ ∧
  tab 90 = some ⟨false, 1, 8, [.v (.nilFunc)], .other⟩ ∧
  tab 91 = some ⟨false, 1, 8, [.v (.nilFunc)], .other⟩ ∧
  tab 92 = some ⟨false, 1, 8, [.v (.int .u64 0)], .int .u64⟩ ∧
  tab 94 = some ⟨false, 1, 8, [.v (.nilFunc)], .other⟩ ∧
  tab 95 = some ⟨false, 1, 8, [.v (.nilFunc)], .other⟩ ∧
  tab 96 = some ⟨false, 1, 8, [.v (.nilFunc)], .other⟩ ∧
  tab 97 = some ⟨false, 1, 8, [.v (.nilFunc)], .other⟩ ∧
  tab 98 = some ⟨false, 1, 8, [.v (.nilFunc)], .other⟩ ∧
  tab 99 = some ⟨false, 1, 8, [.v (.nilFunc)], .other⟩ ∧
  tab 102 = some ⟨false, 1, 8, [.v (.nilFunc)], .other⟩ ∧
  tab 103 = some ⟨false, 1, 8, [.v (.nilFunc)], .other⟩ ∧
  tab 104 = some ⟨false, 1, 8, [.v (.nilFunc)], .other⟩ ∧
  tab 105 = some ⟨false, 1, 8, [.v (.nilFunc)], .other⟩ ∧
  tab 106 = some ⟨false, 1, 8, [.v (.nilFunc)], .other⟩ ∧
  tab 107 = some ⟨false, 1, 8, [.v (.nilFunc)], .other⟩ ∧
  tab 108 = some ⟨false, 1, 8, [.v (.nilFunc)], .other⟩ ∧
  tab 109 = some ⟨false, 1, 8, [.v (.nilFunc)], .other⟩ ∧
  tab 110 = some ⟨false, 1, 8, [.v (.nilFunc)], .other⟩ ∧
  tab 111 = some ⟨false, 1, 8, [.v (.nilFunc)], .other⟩ := by
  refine ⟨?_, ?_, ?_, ?_, ?_, ?_, ?_, ?_, ?_, ?_, ?_, ?_, ?_, ?_, ?_, ?_, ?_, ?_, ?_, ?_, ?_, ?_, ?_, ?_, ?_, ?_, ?_, ?_, ?_, ?_, ?_, ?_, ?_, ?_, ?_, ?_, ?_, ?_, ?_, ?_, ?_, ?_, ?_, ?_, ?_, ?_, ?_, ?_, ?_, ?_, ?_, ?_, ?_, ?_, ?_, ?_, ?_, ?_, ?_, ?_, ?_, ?_, ?_, ?_, ?_, ?_, ?_, ?_, ?_, ?_, ?_, ?_, ?_, ?_, ?_, ?_, ?_, ?_, ?_, ?_, ?_, ?_, ?_, ?_, ?_, ?_, ?_, ?_, ?_, ?_⟩ <;> rfl
@[go_sem] theorem tt2 : tab 112 = some ⟨false, 1, 8, [.v (.nilFunc)], .other⟩ ∧
  tab 113 = some ⟨false, 1, 8, [.v (.int .i64 0)], .int .i64⟩ ∧
  tab 115 = some ⟨false, 1, 8, [.v (.nilFunc)], .other⟩ ∧
  tab 116 = some ⟨false, 1, 8, [.v (.nilFunc)], .other⟩ ∧
  tab 117 = some ⟨false, 1, 8, [.v (.nilFunc)], .other⟩ ∧
  tab 118 = some ⟨false, 1, 8, [.v (.nilFunc)], .other⟩ ∧
  tab 119 = some ⟨false, 1, 8, [.v (.nilFunc)], .other⟩ ∧
  tab 120 = some ⟨false, 1, 4, [.v (.int .u32 0)], .int .u32⟩ ∧
  tab 121 = some ⟨false, 1, 8, [.v (.nilFunc)], .other⟩ ∧
  tab 122 = some ⟨false, 1, 8, [.v (.int .u64 0)], .int .u64⟩ ∧
  tab 123 = some ⟨false, 1, 8, [.v (.int .u64 0)], .int .u64⟩ ∧
  tab 124 = some ⟨false, 1, 8, [.v (.nilFunc)], .other⟩ ∧
  tab 125 = some ⟨false, 1, 8, [.v (.nilFunc)], .other⟩ ∧
  tab 126 = some ⟨false, 1, 8, [.v (.nilFunc)], .other⟩ ∧
  tab 127 = some ⟨false, 1, 8, [.v (.pointer none)], .other⟩ ∧
  tab 128 = some ⟨false, 1, 8, [.v (.nilFunc)], .other⟩ ∧
  tab 129 = some ⟨false, 1, 8, [.v (.pointer none)], .other⟩ ∧
  tab 131 = some ⟨false, 1, 8, [.v (.nilFunc)], .other⟩ ∧
  tab 132 = some ⟨false, 1, 8, [.v (.nilFunc)], .other⟩ ∧
  tab 141 = some ⟨false, 1, 8, [.v (.pointer none)], .other⟩ := by
  refine ⟨?_, ?_, ?_, ?_, ?_, ?_, ?_, ?_, ?_, ?_, ?_, ?_, ?_, ?_, ?_, ?_, ?_, ?_, ?_, ?_⟩ <;> rfl
instance : TyC Try.prog 3 := tyC_of Try.func3 (by kernel_rfl) (by kernel_rfl)
instance : TyC Try.prog 4 := tyC_of Try.func4 (by kernel_rfl) (by kernel_rfl)
instance : TyC Try.prog 5 := tyC_of Try.func5 (by kernel_rfl) (by kernel_rfl)
instance : TyC Try.prog 6 := tyC_of Try.func6 (by kernel_rfl) (by kernel_rfl)
instance : TyC Try.prog 7 := tyC_of Try.func7 (by kernel_rfl) (by kernel_rfl)
instance : TyC Try.prog 8 := tyC_of Try.func8 (by kernel_rfl) (by kernel_rfl)
instance : TyC Try.prog 9 := tyC_of Try.func9 (by kernel_rfl) (by kernel_rfl)
instance : TyC Try.prog 10 := tyC_of Try.func10 (by kernel_rfl) (by kernel_rfl)
instance : TyC Try.prog 11 := tyC_of Try.func11 (by kernel_rfl) (by kernel_rfl)
instance : TyC Try.prog 12 := tyC_of Try.func12 (by kernel_rfl) (by kernel_rfl)
instance : TyC Try.prog 13 := tyC_of Try.func13 (by kernel_rfl) (by kernel_rfl)
instance : TyC Try.prog 14 := tyC_of Try.func14 (by kernel_rfl) (by kernel_rfl)
instance : TyC Try.prog 15 := tyC_of Try.func15 (by kernel_rfl) (by kernel_rfl)
instance : TyC Try.prog 16 := tyC_of Try.func16 (by kernel_rfl) (by kernel_rfl)
instance : TyC Try.prog 17 := tyC_of Try.func17 (by kernel_rfl) (by kernel_rfl)
instance : TyC Try.prog 18 := tyC_of Try.func18 (by kernel_rfl) (by kernel_rfl)
instance : TyC Try.prog 19 := tyC_of Try.func19 (by kernel_rfl) (by kernel_rfl)
instance : TyC Try.prog 20 := tyC_of Try.func20 (by kernel_rfl) (by kernel_rfl)
instance : TyC Try.prog 21 := tyC_of Try.func21 (by kernel_rfl) (by kernel_rfl)
instance : TyC Try.prog 22 := tyC_of Try.func22 (by kernel_rfl) (by kernel_rfl)
instance : TyC Try.prog 23 := tyC_of Try.func23 (by kernel_rfl) (by kernel_rfl)
instance : TyC Try.prog 24 := tyC_of Try.func24 (by kernel_rfl) (by kernel_rfl)
instance : TyC Try.prog 25 := tyC_of Try.func25 (by kernel_rfl) (by kernel_rfl)
instance : TyC Try.prog 26 := tyC_of Try.func26 (by kernel_rfl) (by kernel_rfl)
instance : TyC Try.prog 27 := tyC_of Try.func27 (by kernel_rfl) (by kernel_rfl)
instance : TyC Try.prog 28 := tyC_of Try.func28 (by kernel_rfl) (by kernel_rfl)
instance : TyC Try.prog 29 := tyC_of Try.func29 (by kernel_rfl) (by kernel_rfl)
instance : TyC Try.prog 30 := tyC_of Try.func30 (by kernel_rfl) (by kernel_rfl)
instance : TyC Try.prog 31 := tyC_of Try.func31 (by kernel_rfl) (by kernel_rfl)
instance : TyC Try.prog 32 := tyC_of Try.func32 (by kernel_rfl) (by kernel_rfl)
instance : TyC Try.prog 33 := tyC_of Try.func33 (by kernel_rfl) (by kernel_rfl)
instance : TyC Try.prog 34 := tyC_of Try.func34 (by kernel_rfl) (by kernel_rfl)
instance : TyC Try.prog 35 := tyC_of Try.func35 (by kernel_rfl) (by kernel_rfl)
instance : TyC Try.prog 36 := tyC_of Try.func36 (by kernel_rfl) (by kernel_rfl)
instance : TyC Try.prog 37 := tyC_of Try.func37 (by kernel_rfl) (by kernel_rfl)
instance : TyC Try.prog 38 := tyC_of Try.func38 (by kernel_rfl) (by kernel_rfl)
instance : TyC Try.prog 39 := tyC_of Try.func39 (by kernel_rfl) (by kernel_rfl)
instance : TyC Try.prog 40 := tyC_of Try.func40 (by kernel_rfl) (by kernel_rfl)
instance : TyC Try.prog 41 := tyC_of Try.func41 (by kernel_rfl) (by kernel_rfl)
instance : TyC Try.prog 42 := tyC_of Try.func42 (by kernel_rfl) (by kernel_rfl)
instance : TyC Try.prog 43 := tyC_of Try.func43 (by kernel_rfl) (by kernel_rfl)
instance : TyC Try.prog 44 := tyC_of Try.func44 (by kernel_rfl) (by kernel_rfl)
instance : TyC Try.prog 45 := tyC_of Try.func45 (by kernel_rfl) (by kernel_rfl)
instance : TyC Try.prog 46 := tyC_of Try.func46 (by kernel_rfl) (by kernel_rfl)
instance : TyC Try.prog 47 := tyC_of Try.func47 (by kernel_rfl) (by kernel_rfl)
instance : TyC Try.prog 48 := tyC_of Try.func48 (by kernel_rfl) (by kernel_rfl)
instance : TyC Try.prog 49 := tyC_of Try.func49 (by kernel_rfl) (by kernel_rfl)
instance : TyC Try.prog 50 := tyC_of Try.func50 (by kernel_rfl) (by kernel_rfl)
instance : TyC Try.prog 51 := tyC_of Try.func51 (by kernel_rfl) (by kernel_rfl)
instance : TyC Try.prog 52 := tyC_of Try.func52 (by kernel_rfl) (by kernel_rfl)
instance : TyC Try.prog 53 := tyC_of Try.func53 (by kernel_rfl) (by kernel_rfl)
instance : TyC Try.prog 54 := tyC_of Try.func54 (by kernel_rfl) (by kernel_rfl)
instance : TyC Try.prog 55 := tyC_of Try.func55 (by kernel_rfl) (by kernel_rfl)
instance : TyC Try.prog 56 := tyC_of Try.func56 (by kernel_rfl) (by kernel_rfl)
instance : TyC Try.prog 57 := tyC_of Try.func57 (by kernel_rfl) (by kernel_rfl)
instance : TyC Try.prog 58 := tyC_of Try.func58 (by kernel_rfl) (by kernel_rfl)
instance : TyC Try.prog 59 := tyC_of Try.func59 (by kernel_rfl) (by kernel_rfl)
instance : TyC Try.prog 60 := tyC_of Try.func60 (by kernel_rfl) (by kernel_rfl)
instance : TyC Try.prog 61 := tyC_of Try.func61 (by kernel_rfl) (by kernel_rfl)
instance : TyC Try.prog 62 := tyC_of Try.func62 (by kernel_rfl) (by kernel_rfl)
instance : TyC Try.prog 63 := tyC_of Try.func63 (by kernel_rfl) (by kernel_rfl)
instance : TyC Try.prog 64 := tyC_of Try.func64 (by kernel_rfl) (by kernel_rfl)
instance : TyC Try.prog 65 := tyC_of Try.func65 (by kernel_rfl) (by kernel_rfl)
instance : TyC Try.prog 66 := tyC_of Try.func66 (by kernel_rfl) (by kernel_rfl)
instance : TyC Try.prog 67 := tyC_of Try.func67 (by kernel_rfl) (by kernel_rfl)
instance : TyC Try.prog 68 := tyC_of Try.func68 (by kernel_rfl) (by kernel_rfl)
instance : TyC Try.prog 69 := tyC_of Try.func69 (by kernel_rfl) (by kernel_rfl)
instance : TyC Try.prog 70 := tyC_of Try.func70 (by kernel_rfl) (by kernel_rfl)
instance : TyC Try.prog 71 := tyC_of Try.func71 (by kernel_rfl) (by kernel_rfl)
instance : TyC Try.prog 72 := tyC_of Try.func72 (by kernel_rfl) (by kernel_rfl)
instance : TyC Try.prog 73 := tyC_of Try.func73 (by kernel_rfl) (by kernel_rfl)
instance : TyC Try.prog 74 := tyC_of Try.func74 (by kernel_rfl) (by kernel_rfl)
instance : TyC Try.prog 75 := tyC_of Try.func75 (by kernel_rfl) (by kernel_rfl)
instance : TyC Try.prog 76 := tyC_of Try.func76 (by kernel_rfl) (by kernel_rfl)
instance : TyC Try.prog 77 := tyC_of Try.func77 (by kernel_rfl) (by kernel_rfl)
instance : TyC Try.prog 78 := tyC_of Try.func78 (by kernel_rfl) (by kernel_rfl)
instance : TyC Try.prog 79 := tyC_of Try.func79 (by kernel_rfl) (by kernel_rfl)
instance : TyC Try.prog 80 := tyC_of Try.func80 (by kernel_rfl) (by kernel_rfl)
instance : TyC Try.prog 81 := tyC_of Try.func81 (by kernel_rfl) (by kernel_rfl)
instance : TyC Try.prog 82 := tyC_of Try.func82 (by kernel_rfl) (by kernel_rfl)
instance : TyC Try.prog 83 := tyC_of Try.func83 (by kernel_rfl) (by kernel_rfl)
instance : TyC Try.prog 84 := tyC_of Try.func84 (by kernel_rfl) (by kernel_rfl)
instance : TyC Try.prog 85 := tyC_of Try.func85 (by kernel_rfl) (by kernel_rfl)
instance : TyC Try.prog 86 := tyC_of Try.func86 (by kernel_rfl) (by kernel_rfl)
instance : TyC Try.prog 87 := tyC_of Try.func87 (by kernel_rfl) (by kernel_rfl)
instance : TyC Try.prog 88 := tyC_of Try.func88 (by kernel_rfl) (by kernel_rfl)
instance : TyC Try.prog 89 := tyC_of Try.func89 (by kernel_rfl) (by kernel_rfl)
instance : TyC Try.prog 90 := tyC_of Try.func90 (by kernel_rfl) (by kernel_rfl)
instance : TyC Try.prog 91 := tyC_of Try.func91 (by kernel_rfl) (by kernel_rfl)
instance : TyC Try.prog 92 := tyC_of Try.func92 (by kernel_rfl) (by kernel_rfl)
instance : TyC Try.prog 93 := tyC_of Try.func93 (by kernel_rfl) (by kernel_rfl)
instance : TyC Try.prog 94 := tyC_of Try.func94 (by kernel_rfl) (by kernel_rfl)
instance : TyC Try.prog 95 := tyC_of Try.func95 (by kernel_rfl) (by kernel_rfl)
instance : TyC Try.prog 96 := tyC_of Try.func96 (by kernel_rfl) (by kernel_rfl)
instance : TyC Try.prog 97 := tyC_of Try.func97 (by kernel_rfl) (by kernel_rfl)
instance : TyC Try.prog 98 := tyC_of Try.func98 (by kernel_rfl) (by kernel_rfl)
instance : TyC Try.prog 99 := tyC_of Try.func99 (by kernel_rfl) (by kernel_rfl)
instance : TyC Try.prog 100 := tyC_of Try.func100 (by kernel_rfl) (by kernel_rfl)
instance : TyC Try.prog 101 := tyC_of Try.func101 (by kernel_rfl) (by kernel_rfl)
instance : TyC Try.prog 102 := tyC_of Try.func102 (by kernel_rfl) (by kernel_rfl)
instance : TyC Try.prog 119 := tyC_of Try.func119 (by kernel_rfl) (by kernel_rfl)
instance : TyC Try.prog 120 := tyC_of Try.func120 (by kernel_rfl) (by kernel_rfl)
instance : TyC Try.prog 121 := tyC_of Try.func121 (by kernel_rfl) (by kernel_rfl)
instance : TyC Try.prog 122 := tyC_of Try.func122 (by kernel_rfl) (by kernel_rfl)

end Go.Proofs.Ythdlckclpmfidaa
