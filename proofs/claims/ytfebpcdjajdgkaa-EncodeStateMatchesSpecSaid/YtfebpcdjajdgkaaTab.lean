/- The tables of one seat as instances for the abstract layer. By program (gentab.py). -/
import Derived.Test.YtfebpcdjajdgkaaRows
import Derived.Test.YtfebpcdjajdgkaaAb
import Derived.KernelRfl
set_option maxRecDepth 20000
namespace Go.Proofs.Ytfebpcdjajdgkaa
open Go.Ab

-- 1: func()
instance : TyU Try.prog 1 (.func #[] #[] false) := ⟨Try.underlying1⟩
instance : TyI Try.prog 1 (.nilFunc) 1 8 := tyI_of (by kernel_rfl)
-- 2: int64
instance : TyU Try.prog 2 (.int .i64) := ⟨Try.underlying2⟩
instance : TyI Try.prog 2 (.int .i64 0) 1 8 := tyI_of (by kernel_rfl)
-- 3: int
instance : TyU Try.prog 3 (.int .i64) := ⟨Try.underlying3⟩
instance : TyI Try.prog 3 (.int .i64 0) 1 8 := tyI_of (by kernel_rfl)
-- 4: bool
instance : TyU Try.prog 4 (.bool) := ⟨Try.underlying4⟩
instance : TyI Try.prog 4 (.bool false) 1 1 := tyI_of (by kernel_rfl)
-- 5: uint8
instance : TyU Try.prog 5 (.int .u8) := ⟨Try.underlying5⟩
instance : TyI Try.prog 5 (.int .u8 0) 1 1 := tyI_of (by kernel_rfl)
-- 9: string
instance : TyU Try.prog 9 (.string) := ⟨Try.underlying9⟩
instance : TyI Try.prog 9 (.string ⟨#[]⟩) 1 16 := tyI_of (by kernel_rfl)
-- 12: uintptr
instance : TyU Try.prog 12 (.int .u64) := ⟨Try.underlying12⟩
instance : TyI Try.prog 12 (.int .u64 0) 1 8 := tyI_of (by kernel_rfl)
-- 13: struct ( msg string; addr uintptr )
instance : TyU Try.prog 13 (.struct #[{ name := "msg", type := 9, offset := 0, embedded := false, tag := "", pkgPath := "runtime", byteOffset := 0 }, { name := "addr", type := 12, offset := 1, embedded := false, tag := "", pkgPath := "runtime", byteOffset := 16 }]) := ⟨Try.underlying13⟩
instance : TyI Try.prog 13 (.agg #[.string ⟨#[]⟩, .int .u64 0]) 2 24 := tyI_of (by kernel_rfl)
instance : TyF Try.prog 13 [(0, 1), (1, 1)] := ⟨_, Try.underlying13, by kernel_rfl⟩
-- 21: int32
instance : TyU Try.prog 21 (.int .i32) := ⟨Try.underlying21⟩
instance : TyI Try.prog 21 (.int .i32 0) 1 4 := tyI_of (by kernel_rfl)
-- 22: []int
instance : TyU Try.prog 22 (.slice 3) := ⟨Try.underlying22⟩
instance : TyI Try.prog 22 (.slice none 0 0) 1 24 := tyI_of (by kernel_rfl)
-- 23: []api.Operator
instance : TyU Try.prog 23 (.slice 59) := ⟨Try.underlying23⟩
instance : TyI Try.prog 23 (.slice none 0 0) 1 24 := tyI_of (by kernel_rfl)
-- 24: struct ( Facts int; Init []int; Goal []int; Operators []api.Operator )
instance : TyU Try.prog 24 (.struct #[{ name := "Facts", type := 3, offset := 0, embedded := false, tag := "", pkgPath := "", byteOffset := 0 }, { name := "Init", type := 22, offset := 1, embedded := false, tag := "", pkgPath := "", byteOffset := 8 }, { name := "Goal", type := 22, offset := 2, embedded := false, tag := "", pkgPath := "", byteOffset := 32 }, { name := "Operators", type := 23, offset := 3, embedded := false, tag := "", pkgPath := "", byteOffset := 56 }]) := ⟨Try.underlying24⟩
instance : TyI Try.prog 24 (.agg #[.int .i64 0, .slice none 0 0, .slice none 0 0, .slice none 0 0]) 4 80 := tyI_of (by kernel_rfl)
instance : TyF Try.prog 24 [(0, 1), (1, 1), (2, 1), (3, 1)] := ⟨_, Try.underlying24, by kernel_rfl⟩
-- 25: api.Task
instance : TyU Try.prog 25 (.struct #[{ name := "Facts", type := 3, offset := 0, embedded := false, tag := "", pkgPath := "", byteOffset := 0 }, { name := "Init", type := 22, offset := 1, embedded := false, tag := "", pkgPath := "", byteOffset := 8 }, { name := "Goal", type := 22, offset := 2, embedded := false, tag := "", pkgPath := "", byteOffset := 32 }, { name := "Operators", type := 23, offset := 3, embedded := false, tag := "", pkgPath := "", byteOffset := 56 }]) := ⟨Try.underlying25⟩
instance : TyI Try.prog 25 (.agg #[.int .i64 0, .slice none 0 0, .slice none 0 0, .slice none 0 0]) 4 80 := tyI_of (by kernel_rfl)
instance : TyF Try.prog 25 [(0, 1), (1, 1), (2, 1), (3, 1)] := ⟨_, Try.underlying25, by kernel_rfl⟩
-- 26: [][]int
instance : TyU Try.prog 26 (.slice 22) := ⟨Try.underlying26⟩
instance : TyI Try.prog 26 (.slice none 0 0) 1 24 := tyI_of (by kernel_rfl)
-- 27: struct ( Code int; Index int )
instance : TyU Try.prog 27 (.struct #[{ name := "Code", type := 3, offset := 0, embedded := false, tag := "", pkgPath := "", byteOffset := 0 }, { name := "Index", type := 3, offset := 1, embedded := false, tag := "", pkgPath := "", byteOffset := 8 }]) := ⟨Try.underlying27⟩
instance : TyI Try.prog 27 (.agg #[.int .i64 0, .int .i64 0]) 2 16 := tyI_of (by kernel_rfl)
instance : TyF Try.prog 27 [(0, 1), (1, 1)] := ⟨_, Try.underlying27, by kernel_rfl⟩
-- 28: api.Fault
instance : TyU Try.prog 28 (.struct #[{ name := "Code", type := 3, offset := 0, embedded := false, tag := "", pkgPath := "", byteOffset := 0 }, { name := "Index", type := 3, offset := 1, embedded := false, tag := "", pkgPath := "", byteOffset := 8 }]) := ⟨Try.underlying28⟩
instance : TyI Try.prog 28 (.agg #[.int .i64 0, .int .i64 0]) 2 16 := tyI_of (by kernel_rfl)
instance : TyF Try.prog 28 [(0, 1), (1, 1)] := ⟨_, Try.underlying28, by kernel_rfl⟩
-- 29: func(api.Task, [][]int) api.Fault
instance : TyU Try.prog 29 (.func #[25, 26] #[28] false) := ⟨Try.underlying29⟩
instance : TyI Try.prog 29 (.nilFunc) 1 8 := tyI_of (by kernel_rfl)
-- 31: func(api.Task, [][]int) ([][]int, api.Fault)
instance : TyU Try.prog 31 (.func #[25, 26] #[26, 28] false) := ⟨Try.underlying31⟩
instance : TyI Try.prog 31 (.nilFunc) 1 8 := tyI_of (by kernel_rfl)
-- 32: func() bool
instance : TyU Try.prog 32 (.func #[] #[4] false) := ⟨Try.underlying32⟩
instance : TyI Try.prog 32 (.nilFunc) 1 8 := tyI_of (by kernel_rfl)
-- 33: func([][]int, [][]int) bool
instance : TyU Try.prog 33 (.func #[26, 26] #[4] false) := ⟨Try.underlying33⟩
instance : TyI Try.prog 33 (.nilFunc) 1 8 := tyI_of (by kernel_rfl)
-- 34: func(api.Task, [][]int) [][]int
instance : TyU Try.prog 34 (.func #[25, 26] #[26] false) := ⟨Try.underlying34⟩
instance : TyI Try.prog 34 (.nilFunc) 1 8 := tyI_of (by kernel_rfl)
-- 35: []api.Assign
instance : TyU Try.prog 35 (.slice 95) := ⟨Try.underlying35⟩
instance : TyI Try.prog 35 (.slice none 0 0) 1 24 := tyI_of (by kernel_rfl)
-- 36: []api.MultiOperator
instance : TyU Try.prog 36 (.slice 97) := ⟨Try.underlying36⟩
instance : TyI Try.prog 36 (.slice none 0 0) 1 24 := tyI_of (by kernel_rfl)
-- 37: struct ( Sizes []int; Init []int; Goal []api.Assign; Operators []api.MultiOperator )
instance : TyU Try.prog 37 (.struct #[{ name := "Sizes", type := 22, offset := 0, embedded := false, tag := "", pkgPath := "", byteOffset := 0 }, { name := "Init", type := 22, offset := 1, embedded := false, tag := "", pkgPath := "", byteOffset := 24 }, { name := "Goal", type := 35, offset := 2, embedded := false, tag := "", pkgPath := "", byteOffset := 48 }, { name := "Operators", type := 36, offset := 3, embedded := false, tag := "", pkgPath := "", byteOffset := 72 }]) := ⟨Try.underlying37⟩
instance : TyI Try.prog 37 (.agg #[.slice none 0 0, .slice none 0 0, .slice none 0 0, .slice none 0 0]) 4 96 := tyI_of (by kernel_rfl)
instance : TyF Try.prog 37 [(0, 1), (1, 1), (2, 1), (3, 1)] := ⟨_, Try.underlying37, by kernel_rfl⟩
-- 38: api.MultiTask
instance : TyU Try.prog 38 (.struct #[{ name := "Sizes", type := 22, offset := 0, embedded := false, tag := "", pkgPath := "", byteOffset := 0 }, { name := "Init", type := 22, offset := 1, embedded := false, tag := "", pkgPath := "", byteOffset := 24 }, { name := "Goal", type := 35, offset := 2, embedded := false, tag := "", pkgPath := "", byteOffset := 48 }, { name := "Operators", type := 36, offset := 3, embedded := false, tag := "", pkgPath := "", byteOffset := 72 }]) := ⟨Try.underlying38⟩
instance : TyI Try.prog 38 (.agg #[.slice none 0 0, .slice none 0 0, .slice none 0 0, .slice none 0 0]) 4 96 := tyI_of (by kernel_rfl)
instance : TyF Try.prog 38 [(0, 1), (1, 1), (2, 1), (3, 1)] := ⟨_, Try.underlying38, by kernel_rfl⟩
-- 40: func(api.Task, [][]int) (api.MultiTask, []int, api.Fault)
instance : TyU Try.prog 40 (.func #[25, 26] #[38, 22, 28] false) := ⟨Try.underlying40⟩
instance : TyI Try.prog 40 (.nilFunc) 1 8 := tyI_of (by kernel_rfl)
-- 41: func(api.MultiTask, api.MultiTask) bool
instance : TyU Try.prog 41 (.func #[38, 38] #[4] false) := ⟨Try.underlying41⟩
instance : TyI Try.prog 41 (.nilFunc) 1 8 := tyI_of (by kernel_rfl)
-- 42: func([]int, []int) bool
instance : TyU Try.prog 42 (.func #[22, 22] #[4] false) := ⟨Try.underlying42⟩
instance : TyI Try.prog 42 (.nilFunc) 1 8 := tyI_of (by kernel_rfl)
-- 43: func(api.Task, [][]int) bool
instance : TyU Try.prog 43 (.func #[25, 26] #[4] false) := ⟨Try.underlying43⟩
instance : TyI Try.prog 43 (.nilFunc) 1 8 := tyI_of (by kernel_rfl)
-- 44: func(api.Task, []int) bool
instance : TyU Try.prog 44 (.func #[25, 22] #[4] false) := ⟨Try.underlying44⟩
instance : TyI Try.prog 44 (.nilFunc) 1 8 := tyI_of (by kernel_rfl)
-- 45: func(int, int) api.Fault
instance : TyU Try.prog 45 (.func #[3, 3] #[28] false) := ⟨Try.underlying45⟩
instance : TyI Try.prog 45 (.nilFunc) 1 8 := tyI_of (by kernel_rfl)
-- 47: func([][]int, []int) ([]int, bool)
instance : TyU Try.prog 47 (.func #[26, 22] #[22, 4] false) := ⟨Try.underlying47⟩
instance : TyI Try.prog 47 (.nilFunc) 1 8 := tyI_of (by kernel_rfl)
-- 49: func(api.Task, [][]int, []int) ([]int, api.Fault)
instance : TyU Try.prog 49 (.func #[25, 26, 22] #[22, 28] false) := ⟨Try.underlying49⟩
instance : TyI Try.prog 49 (.nilFunc) 1 8 := tyI_of (by kernel_rfl)
-- 50: func(api.Task, [][]int, []int) bool
instance : TyU Try.prog 50 (.func #[25, 26, 22] #[4] false) := ⟨Try.underlying50⟩
instance : TyI Try.prog 50 (.nilFunc) 1 8 := tyI_of (by kernel_rfl)
-- 52: func(api.Task, []int) (bool, api.Fault)
instance : TyU Try.prog 52 (.func #[25, 22] #[4, 28] false) := ⟨Try.underlying52⟩
instance : TyI Try.prog 52 (.nilFunc) 1 8 := tyI_of (by kernel_rfl)
-- 53: func(int, []int) bool
instance : TyU Try.prog 53 (.func #[3, 22] #[4] false) := ⟨Try.underlying53⟩
instance : TyI Try.prog 53 (.nilFunc) 1 8 := tyI_of (by kernel_rfl)
-- 54: func(api.Task) api.Fault
instance : TyU Try.prog 54 (.func #[25] #[28] false) := ⟨Try.underlying54⟩
instance : TyI Try.prog 54 (.nilFunc) 1 8 := tyI_of (by kernel_rfl)
-- 55: func(int, int, int) bool
instance : TyU Try.prog 55 (.func #[3, 3, 3] #[4] false) := ⟨Try.underlying55⟩
instance : TyI Try.prog 55 (.nilFunc) 1 8 := tyI_of (by kernel_rfl)
-- 56: func(api.Task, int, int) (bool, api.Fault)
instance : TyU Try.prog 56 (.func #[25, 3, 3] #[4, 28] false) := ⟨Try.underlying56⟩
instance : TyI Try.prog 56 (.nilFunc) 1 8 := tyI_of (by kernel_rfl)
-- 57: func(api.Operator, api.Operator) bool
instance : TyU Try.prog 57 (.func #[59, 59] #[4] false) := ⟨Try.underlying57⟩
instance : TyI Try.prog 57 (.nilFunc) 1 8 := tyI_of (by kernel_rfl)
-- 58: struct ( Pre []int; Add []int; Del []int; Cost int )
instance : TyU Try.prog 58 (.struct #[{ name := "Pre", type := 22, offset := 0, embedded := false, tag := "", pkgPath := "", byteOffset := 0 }, { name := "Add", type := 22, offset := 1, embedded := false, tag := "", pkgPath := "", byteOffset := 24 }, { name := "Del", type := 22, offset := 2, embedded := false, tag := "", pkgPath := "", byteOffset := 48 }, { name := "Cost", type := 3, offset := 3, embedded := false, tag := "", pkgPath := "", byteOffset := 72 }]) := ⟨Try.underlying58⟩
instance : TyI Try.prog 58 (.agg #[.slice none 0 0, .slice none 0 0, .slice none 0 0, .int .i64 0]) 4 80 := tyI_of (by kernel_rfl)
instance : TyF Try.prog 58 [(0, 1), (1, 1), (2, 1), (3, 1)] := ⟨_, Try.underlying58, by kernel_rfl⟩
-- 59: api.Operator
instance : TyU Try.prog 59 (.struct #[{ name := "Pre", type := 22, offset := 0, embedded := false, tag := "", pkgPath := "", byteOffset := 0 }, { name := "Add", type := 22, offset := 1, embedded := false, tag := "", pkgPath := "", byteOffset := 24 }, { name := "Del", type := 22, offset := 2, embedded := false, tag := "", pkgPath := "", byteOffset := 48 }, { name := "Cost", type := 3, offset := 3, embedded := false, tag := "", pkgPath := "", byteOffset := 72 }]) := ⟨Try.underlying59⟩
instance : TyI Try.prog 59 (.agg #[.slice none 0 0, .slice none 0 0, .slice none 0 0, .int .i64 0]) 4 80 := tyI_of (by kernel_rfl)
instance : TyF Try.prog 59 [(0, 1), (1, 1), (2, 1), (3, 1)] := ⟨_, Try.underlying59, by kernel_rfl⟩
-- 60: func(api.Task, []int) api.Fault
instance : TyU Try.prog 60 (.func #[25, 22] #[28] false) := ⟨Try.underlying60⟩
instance : TyI Try.prog 60 (.nilFunc) 1 8 := tyI_of (by kernel_rfl)
-- 61: func(api.Task, []int) []int
instance : TyU Try.prog 61 (.func #[25, 22] #[22] false) := ⟨Try.underlying61⟩
instance : TyI Try.prog 61 (.nilFunc) 1 8 := tyI_of (by kernel_rfl)
-- 62: func(api.Task, []int) ([]int, api.Fault)
instance : TyU Try.prog 62 (.func #[25, 22] #[22, 28] false) := ⟨Try.underlying62⟩
instance : TyI Try.prog 62 (.nilFunc) 1 8 := tyI_of (by kernel_rfl)
-- 63: func(api.Task, []int, int, int) bool
instance : TyU Try.prog 63 (.func #[25, 22, 3, 3] #[4] false) := ⟨Try.underlying63⟩
instance : TyI Try.prog 63 (.nilFunc) 1 8 := tyI_of (by kernel_rfl)
-- 64: struct ( Found bool; Plan []int; Cost int; Expanded int )
instance : TyU Try.prog 64 (.struct #[{ name := "Found", type := 4, offset := 0, embedded := false, tag := "", pkgPath := "", byteOffset := 0 }, { name := "Plan", type := 22, offset := 1, embedded := false, tag := "", pkgPath := "", byteOffset := 8 }, { name := "Cost", type := 3, offset := 2, embedded := false, tag := "", pkgPath := "", byteOffset := 32 }, { name := "Expanded", type := 3, offset := 3, embedded := false, tag := "", pkgPath := "", byteOffset := 40 }]) := ⟨Try.underlying64⟩
instance : TyI Try.prog 64 (.agg #[.bool false, .slice none 0 0, .int .i64 0, .int .i64 0]) 4 48 := tyI_of (by kernel_rfl)
instance : TyF Try.prog 64 [(0, 1), (1, 1), (2, 1), (3, 1)] := ⟨_, Try.underlying64, by kernel_rfl⟩
-- 65: api.SearchResult
instance : TyU Try.prog 65 (.struct #[{ name := "Found", type := 4, offset := 0, embedded := false, tag := "", pkgPath := "", byteOffset := 0 }, { name := "Plan", type := 22, offset := 1, embedded := false, tag := "", pkgPath := "", byteOffset := 8 }, { name := "Cost", type := 3, offset := 2, embedded := false, tag := "", pkgPath := "", byteOffset := 32 }, { name := "Expanded", type := 3, offset := 3, embedded := false, tag := "", pkgPath := "", byteOffset := 40 }]) := ⟨Try.underlying65⟩
instance : TyI Try.prog 65 (.agg #[.bool false, .slice none 0 0, .int .i64 0, .int .i64 0]) 4 48 := tyI_of (by kernel_rfl)
instance : TyF Try.prog 65 [(0, 1), (1, 1), (2, 1), (3, 1)] := ⟨_, Try.underlying65, by kernel_rfl⟩
-- 67: func(api.Task) (api.SearchResult, api.Fault)
instance : TyU Try.prog 67 (.func #[25] #[65, 28] false) := ⟨Try.underlying67⟩
instance : TyI Try.prog 67 (.nilFunc) 1 8 := tyI_of (by kernel_rfl)
-- 69: func(api.Task) ([][]int, bool)
instance : TyU Try.prog 69 (.func #[25] #[26, 4] false) := ⟨Try.underlying69⟩
instance : TyI Try.prog 69 (.nilFunc) 1 8 := tyI_of (by kernel_rfl)
-- 70: func(api.Task, [][]int) []int
instance : TyU Try.prog 70 (.func #[25, 26] #[22] false) := ⟨Try.underlying70⟩
instance : TyI Try.prog 70 (.nilFunc) 1 8 := tyI_of (by kernel_rfl)
-- 71: func(api.Task, []int) int
instance : TyU Try.prog 71 (.func #[25, 22] #[3] false) := ⟨Try.underlying71⟩
instance : TyI Try.prog 71 (.nilFunc) 1 8 := tyI_of (by kernel_rfl)
-- 72: func(api.Task) bool
instance : TyU Try.prog 72 (.func #[25] #[4] false) := ⟨Try.underlying72⟩
instance : TyI Try.prog 72 (.nilFunc) 1 8 := tyI_of (by kernel_rfl)
-- 73: func([]int) []int
instance : TyU Try.prog 73 (.func #[22] #[22] false) := ⟨Try.underlying73⟩
instance : TyI Try.prog 73 (.nilFunc) 1 8 := tyI_of (by kernel_rfl)
-- 74: func(api.Task, int, int) bool
instance : TyU Try.prog 74 (.func #[25, 3, 3] #[4] false) := ⟨Try.underlying74⟩
instance : TyI Try.prog 74 (.nilFunc) 1 8 := tyI_of (by kernel_rfl)
-- 75: func(api.Task, []int, int) []int
instance : TyU Try.prog 75 (.func #[25, 22, 3] #[22] false) := ⟨Try.underlying75⟩
instance : TyI Try.prog 75 (.nilFunc) 1 8 := tyI_of (by kernel_rfl)
-- 76: func(api.Task, []int, []int) ([][]int, api.Fault)
instance : TyU Try.prog 76 (.func #[25, 22, 22] #[26, 28] false) := ⟨Try.underlying76⟩
instance : TyI Try.prog 76 (.nilFunc) 1 8 := tyI_of (by kernel_rfl)
-- 77: struct ( Kind int; Children []int; Fact int )
instance : TyU Try.prog 77 (.struct #[{ name := "Kind", type := 3, offset := 0, embedded := false, tag := "", pkgPath := "", byteOffset := 0 }, { name := "Children", type := 22, offset := 1, embedded := false, tag := "", pkgPath := "", byteOffset := 8 }, { name := "Fact", type := 3, offset := 2, embedded := false, tag := "", pkgPath := "", byteOffset := 32 }]) := ⟨Try.underlying77⟩
instance : TyI Try.prog 77 (.agg #[.int .i64 0, .slice none 0 0, .int .i64 0]) 3 40 := tyI_of (by kernel_rfl)
instance : TyF Try.prog 77 [(0, 1), (1, 1), (2, 1)] := ⟨_, Try.underlying77, by kernel_rfl⟩
-- 78: api.FormulaNode
instance : TyU Try.prog 78 (.struct #[{ name := "Kind", type := 3, offset := 0, embedded := false, tag := "", pkgPath := "", byteOffset := 0 }, { name := "Children", type := 22, offset := 1, embedded := false, tag := "", pkgPath := "", byteOffset := 8 }, { name := "Fact", type := 3, offset := 2, embedded := false, tag := "", pkgPath := "", byteOffset := 32 }]) := ⟨Try.underlying78⟩
instance : TyI Try.prog 78 (.agg #[.int .i64 0, .slice none 0 0, .int .i64 0]) 3 40 := tyI_of (by kernel_rfl)
instance : TyF Try.prog 78 [(0, 1), (1, 1), (2, 1)] := ⟨_, Try.underlying78, by kernel_rfl⟩
-- 79: []api.FormulaNode
instance : TyU Try.prog 79 (.slice 78) := ⟨Try.underlying79⟩
instance : TyI Try.prog 79 (.slice none 0 0) 1 24 := tyI_of (by kernel_rfl)
-- 80: func(api.Formula, int, [][]int) (bool, api.Fault)
instance : TyU Try.prog 80 (.func #[82, 3, 26] #[4, 28] false) := ⟨Try.underlying80⟩
instance : TyI Try.prog 80 (.nilFunc) 1 8 := tyI_of (by kernel_rfl)
-- 81: struct ( Nodes []api.FormulaNode )
instance : TyU Try.prog 81 (.struct #[{ name := "Nodes", type := 79, offset := 0, embedded := false, tag := "", pkgPath := "", byteOffset := 0 }]) := ⟨Try.underlying81⟩
instance : TyI Try.prog 81 (.agg #[.slice none 0 0]) 1 24 := tyI_of (by kernel_rfl)
instance : TyF Try.prog 81 [(0, 1)] := ⟨_, Try.underlying81, by kernel_rfl⟩
-- 82: api.Formula
instance : TyU Try.prog 82 (.struct #[{ name := "Nodes", type := 79, offset := 0, embedded := false, tag := "", pkgPath := "", byteOffset := 0 }]) := ⟨Try.underlying82⟩
instance : TyI Try.prog 82 (.agg #[.slice none 0 0]) 1 24 := tyI_of (by kernel_rfl)
instance : TyF Try.prog 82 [(0, 1)] := ⟨_, Try.underlying82, by kernel_rfl⟩
-- 83: func(api.Task, []int, int) ([]int, api.Fault)
instance : TyU Try.prog 83 (.func #[25, 22, 3] #[22, 28] false) := ⟨Try.underlying83⟩
instance : TyI Try.prog 83 (.nilFunc) 1 8 := tyI_of (by kernel_rfl)
-- 84: func(api.MultiTask) api.Fault
instance : TyU Try.prog 84 (.func #[38] #[28] false) := ⟨Try.underlying84⟩
instance : TyI Try.prog 84 (.nilFunc) 1 8 := tyI_of (by kernel_rfl)
-- 85: func(api.MultiTask, []int) (bool, api.Fault)
instance : TyU Try.prog 85 (.func #[38, 22] #[4, 28] false) := ⟨Try.underlying85⟩
instance : TyI Try.prog 85 (.nilFunc) 1 8 := tyI_of (by kernel_rfl)
-- 87: func(api.MultiTask, []int) (int, api.Fault)
instance : TyU Try.prog 87 (.func #[38, 22] #[3, 28] false) := ⟨Try.underlying87⟩
instance : TyI Try.prog 87 (.nilFunc) 1 8 := tyI_of (by kernel_rfl)
-- 88: func([]int, []int) ([]int, bool)
instance : TyU Try.prog 88 (.func #[22, 22] #[22, 4] false) := ⟨Try.underlying88⟩
instance : TyI Try.prog 88 (.nilFunc) 1 8 := tyI_of (by kernel_rfl)
-- 89: func(api.Task, []int) (int, api.Fault)
instance : TyU Try.prog 89 (.func #[25, 22] #[3, 28] false) := ⟨Try.underlying89⟩
instance : TyI Try.prog 89 (.nilFunc) 1 8 := tyI_of (by kernel_rfl)
-- 90: func(api.MultiTask, []int) ([]int, api.Fault)
instance : TyU Try.prog 90 (.func #[38, 22] #[22, 28] false) := ⟨Try.underlying90⟩
instance : TyI Try.prog 90 (.nilFunc) 1 8 := tyI_of (by kernel_rfl)
-- 91: func(api.MultiTask, []int, int) ([]int, api.Fault)
instance : TyU Try.prog 91 (.func #[38, 22, 3] #[22, 28] false) := ⟨Try.underlying91⟩
instance : TyI Try.prog 91 (.nilFunc) 1 8 := tyI_of (by kernel_rfl)
-- 92: func([]int, int) bool
instance : TyU Try.prog 92 (.func #[22, 3] #[4] false) := ⟨Try.underlying92⟩
instance : TyI Try.prog 92 (.nilFunc) 1 8 := tyI_of (by kernel_rfl)
-- 93: func() api.Task
instance : TyU Try.prog 93 (.func #[] #[25] false) := ⟨Try.underlying93⟩
instance : TyI Try.prog 93 (.nilFunc) 1 8 := tyI_of (by kernel_rfl)
-- 94: struct ( Var int; Value int )
instance : TyU Try.prog 94 (.struct #[{ name := "Var", type := 3, offset := 0, embedded := false, tag := "", pkgPath := "", byteOffset := 0 }, { name := "Value", type := 3, offset := 1, embedded := false, tag := "", pkgPath := "", byteOffset := 8 }]) := ⟨Try.underlying94⟩
instance : TyI Try.prog 94 (.agg #[.int .i64 0, .int .i64 0]) 2 16 := tyI_of (by kernel_rfl)
instance : TyF Try.prog 94 [(0, 1), (1, 1)] := ⟨_, Try.underlying94, by kernel_rfl⟩
-- 95: api.Assign
instance : TyU Try.prog 95 (.struct #[{ name := "Var", type := 3, offset := 0, embedded := false, tag := "", pkgPath := "", byteOffset := 0 }, { name := "Value", type := 3, offset := 1, embedded := false, tag := "", pkgPath := "", byteOffset := 8 }]) := ⟨Try.underlying95⟩
instance : TyI Try.prog 95 (.agg #[.int .i64 0, .int .i64 0]) 2 16 := tyI_of (by kernel_rfl)
instance : TyF Try.prog 95 [(0, 1), (1, 1)] := ⟨_, Try.underlying95, by kernel_rfl⟩
-- 96: struct ( Pre []api.Assign; Post []api.Assign; Cost int )
instance : TyU Try.prog 96 (.struct #[{ name := "Pre", type := 35, offset := 0, embedded := false, tag := "", pkgPath := "", byteOffset := 0 }, { name := "Post", type := 35, offset := 1, embedded := false, tag := "", pkgPath := "", byteOffset := 24 }, { name := "Cost", type := 3, offset := 2, embedded := false, tag := "", pkgPath := "", byteOffset := 48 }]) := ⟨Try.underlying96⟩
instance : TyI Try.prog 96 (.agg #[.slice none 0 0, .slice none 0 0, .int .i64 0]) 3 56 := tyI_of (by kernel_rfl)
instance : TyF Try.prog 96 [(0, 1), (1, 1), (2, 1)] := ⟨_, Try.underlying96, by kernel_rfl⟩
-- 97: api.MultiOperator
instance : TyU Try.prog 97 (.struct #[{ name := "Pre", type := 35, offset := 0, embedded := false, tag := "", pkgPath := "", byteOffset := 0 }, { name := "Post", type := 35, offset := 1, embedded := false, tag := "", pkgPath := "", byteOffset := 24 }, { name := "Cost", type := 3, offset := 2, embedded := false, tag := "", pkgPath := "", byteOffset := 48 }]) := ⟨Try.underlying97⟩
instance : TyI Try.prog 97 (.agg #[.slice none 0 0, .slice none 0 0, .int .i64 0]) 3 56 := tyI_of (by kernel_rfl)
instance : TyF Try.prog 97 [(0, 1), (1, 1), (2, 1)] := ⟨_, Try.underlying97, by kernel_rfl⟩
-- 98: func([]int, []int) int
instance : TyU Try.prog 98 (.func #[22, 22] #[3] false) := ⟨Try.underlying98⟩
instance : TyI Try.prog 98 (.nilFunc) 1 8 := tyI_of (by kernel_rfl)
-- 99: func([][]int, []int) bool
instance : TyU Try.prog 99 (.func #[26, 22] #[4] false) := ⟨Try.underlying99⟩
instance : TyI Try.prog 99 (.nilFunc) 1 8 := tyI_of (by kernel_rfl)
-- 100: func(api.Operator, [][]int) []api.MultiOperator
instance : TyU Try.prog 100 (.func #[59, 26] #[36] false) := ⟨Try.underlying100⟩
instance : TyI Try.prog 100 (.nilFunc) 1 8 := tyI_of (by kernel_rfl)
-- 101: func([]int) bool
instance : TyU Try.prog 101 (.func #[22] #[4] false) := ⟨Try.underlying101⟩
instance : TyI Try.prog 101 (.nilFunc) 1 8 := tyI_of (by kernel_rfl)
-- 102: func([][]int, func([]int) bool) bool
instance : TyU Try.prog 102 (.func #[26, 101] #[4] false) := ⟨Try.underlying102⟩
instance : TyI Try.prog 102 (.nilFunc) 1 8 := tyI_of (by kernel_rfl)
-- 103: func() (api.MultiTask, []int, api.Fault)
instance : TyU Try.prog 103 (.func #[] #[38, 22, 28] false) := ⟨Try.underlying103⟩
instance : TyI Try.prog 103 (.nilFunc) 1 8 := tyI_of (by kernel_rfl)
-- 105: func([]int, []int) (int, int)
instance : TyU Try.prog 105 (.func #[22, 22] #[3, 3] false) := ⟨Try.underlying105⟩
instance : TyI Try.prog 105 (.nilFunc) 1 8 := tyI_of (by kernel_rfl)
-- 107: func([][]int, []int) ([]api.Assign, bool)
instance : TyU Try.prog 107 (.func #[26, 22] #[35, 4] false) := ⟨Try.underlying107⟩
instance : TyI Try.prog 107 (.nilFunc) 1 8 := tyI_of (by kernel_rfl)
-- 108: func([]api.Assign, []api.Assign) bool
instance : TyU Try.prog 108 (.func #[35, 35] #[4] false) := ⟨Try.underlying108⟩
instance : TyI Try.prog 108 (.nilFunc) 1 8 := tyI_of (by kernel_rfl)
-- 109: [2]int
instance : TyU Try.prog 109 (.array 2 3) := ⟨Try.underlying109⟩
instance : TyI Try.prog 109 (.agg #[.int .i64 0, .int .i64 0]) 2 16 := tyI_of (by kernel_rfl)
-- 110: []bool
instance : TyU Try.prog 110 (.slice 4) := ⟨Try.underlying110⟩
instance : TyI Try.prog 110 (.slice none 0 0) 1 24 := tyI_of (by kernel_rfl)
-- 111: func(api.Task, []int, int) bool
instance : TyU Try.prog 111 (.func #[25, 22, 3] #[4] false) := ⟨Try.underlying111⟩
instance : TyI Try.prog 111 (.nilFunc) 1 8 := tyI_of (by kernel_rfl)
-- 112: func(api.Task) int
instance : TyU Try.prog 112 (.func #[25] #[3] false) := ⟨Try.underlying112⟩
instance : TyI Try.prog 112 (.nilFunc) 1 8 := tyI_of (by kernel_rfl)
-- 113: func(api.Task) api.SearchResult
instance : TyU Try.prog 113 (.func #[25] #[65] false) := ⟨Try.underlying113⟩
instance : TyI Try.prog 113 (.nilFunc) 1 8 := tyI_of (by kernel_rfl)
-- 114: func(api.Task, []int) ([][]int, bool)
instance : TyU Try.prog 114 (.func #[25, 22] #[26, 4] false) := ⟨Try.underlying114⟩
instance : TyI Try.prog 114 (.nilFunc) 1 8 := tyI_of (by kernel_rfl)
-- 115: func([]int) int
instance : TyU Try.prog 115 (.func #[22] #[3] false) := ⟨Try.underlying115⟩
instance : TyI Try.prog 115 (.nilFunc) 1 8 := tyI_of (by kernel_rfl)
-- 116: func(api.Task, []int, []int) bool
instance : TyU Try.prog 116 (.func #[25, 22, 22] #[4] false) := ⟨Try.underlying116⟩
instance : TyI Try.prog 116 (.nilFunc) 1 8 := tyI_of (by kernel_rfl)
-- 117: func(func(int, []int) bool)
instance : TyU Try.prog 117 (.func #[53] #[] false) := ⟨Try.underlying117⟩
instance : TyI Try.prog 117 (.nilFunc) 1 8 := tyI_of (by kernel_rfl)
-- 118: func(api.Task, []int) func(func(int, []int) bool)
instance : TyU Try.prog 118 (.func #[25, 22] #[117] false) := ⟨Try.underlying118⟩
instance : TyI Try.prog 118 (.nilFunc) 1 8 := tyI_of (by kernel_rfl)
-- 119: func(int, []int) api.Fault
instance : TyU Try.prog 119 (.func #[3, 22] #[28] false) := ⟨Try.underlying119⟩
instance : TyI Try.prog 119 (.nilFunc) 1 8 := tyI_of (by kernel_rfl)
-- 120: func(api.Task, []int, []int) [][]int
instance : TyU Try.prog 120 (.func #[25, 22, 22] #[26] false) := ⟨Try.underlying120⟩
instance : TyI Try.prog 120 (.nilFunc) 1 8 := tyI_of (by kernel_rfl)
-- 121: func() api.Formula
instance : TyU Try.prog 121 (.func #[] #[82] false) := ⟨Try.underlying121⟩
instance : TyI Try.prog 121 (.nilFunc) 1 8 := tyI_of (by kernel_rfl)
-- 123: func(api.Formula, int, []int) (api.Formula, api.Fault)
instance : TyU Try.prog 123 (.func #[82, 3, 22] #[82, 28] false) := ⟨Try.underlying123⟩
instance : TyI Try.prog 123 (.nilFunc) 1 8 := tyI_of (by kernel_rfl)
-- 124: func(api.Formula, int) api.Fault
instance : TyU Try.prog 124 (.func #[82, 3] #[28] false) := ⟨Try.underlying124⟩
instance : TyI Try.prog 124 (.nilFunc) 1 8 := tyI_of (by kernel_rfl)
-- 125: func(api.Formula, [][]int) []bool
instance : TyU Try.prog 125 (.func #[82, 26] #[110] false) := ⟨Try.underlying125⟩
instance : TyI Try.prog 125 (.nilFunc) 1 8 := tyI_of (by kernel_rfl)
-- 126: func(int) bool
instance : TyU Try.prog 126 (.func #[3] #[4] false) := ⟨Try.underlying126⟩
instance : TyI Try.prog 126 (.nilFunc) 1 8 := tyI_of (by kernel_rfl)
-- 127: func([]int, func(int) bool) bool
instance : TyU Try.prog 127 (.func #[22, 126] #[4] false) := ⟨Try.underlying127⟩
instance : TyI Try.prog 127 (.nilFunc) 1 8 := tyI_of (by kernel_rfl)
-- 128: func(api.MultiTask, []int) bool
instance : TyU Try.prog 128 (.func #[38, 22] #[4] false) := ⟨Try.underlying128⟩
instance : TyI Try.prog 128 (.nilFunc) 1 8 := tyI_of (by kernel_rfl)
-- 129: func(api.MultiTask, []api.Assign) bool
instance : TyU Try.prog 129 (.func #[38, 35] #[4] false) := ⟨Try.underlying129⟩
instance : TyI Try.prog 129 (.nilFunc) 1 8 := tyI_of (by kernel_rfl)
-- 130: func(api.MultiTask, []int) api.Fault
instance : TyU Try.prog 130 (.func #[38, 22] #[28] false) := ⟨Try.underlying130⟩
instance : TyI Try.prog 130 (.nilFunc) 1 8 := tyI_of (by kernel_rfl)
-- 131: func([]int, []api.Assign) bool
instance : TyU Try.prog 131 (.func #[22, 35] #[4] false) := ⟨Try.underlying131⟩
instance : TyI Try.prog 131 (.nilFunc) 1 8 := tyI_of (by kernel_rfl)
-- 132: func(api.MultiTask, []int, int) []int
instance : TyU Try.prog 132 (.func #[38, 22, 3] #[22] false) := ⟨Try.underlying132⟩
instance : TyI Try.prog 132 (.nilFunc) 1 8 := tyI_of (by kernel_rfl)
-- 133: func(api.Operator, []int) bool
instance : TyU Try.prog 133 (.func #[59, 22] #[4] false) := ⟨Try.underlying133⟩
instance : TyI Try.prog 133 (.nilFunc) 1 8 := tyI_of (by kernel_rfl)
-- 134: func([]int)
instance : TyU Try.prog 134 (.func #[22] #[] false) := ⟨Try.underlying134⟩
instance : TyI Try.prog 134 (.nilFunc) 1 8 := tyI_of (by kernel_rfl)
-- 135: func(api.Operator, []int) []int
instance : TyU Try.prog 135 (.func #[59, 22] #[22] false) := ⟨Try.underlying135⟩
instance : TyI Try.prog 135 (.nilFunc) 1 8 := tyI_of (by kernel_rfl)
-- 136: func(api.MultiOperator, api.Operator, []int, int, int) api.MultiOperator
instance : TyU Try.prog 136 (.func #[97, 59, 22, 3, 3] #[97] false) := ⟨Try.underlying136⟩
instance : TyI Try.prog 136 (.nilFunc) 1 8 := tyI_of (by kernel_rfl)
-- 137: func([][]int, func([]int) bool) int
instance : TyU Try.prog 137 (.func #[26, 101] #[3] false) := ⟨Try.underlying137⟩
instance : TyI Try.prog 137 (.nilFunc) 1 8 := tyI_of (by kernel_rfl)
-- 139: func([]int, int) (int, bool)
instance : TyU Try.prog 139 (.func #[22, 3] #[3, 4] false) := ⟨Try.underlying139⟩
instance : TyI Try.prog 139 (.nilFunc) 1 8 := tyI_of (by kernel_rfl)
-- 140: func(int) int
instance : TyU Try.prog 140 (.func #[3] #[3] false) := ⟨Try.underlying140⟩
instance : TyI Try.prog 140 (.nilFunc) 1 8 := tyI_of (by kernel_rfl)
-- 141: struct ( open bool; pre int; post func(int) int )
instance : TyU Try.prog 141 (.struct #[{ name := "open", type := 4, offset := 0, embedded := false, tag := "", pkgPath := "helmsman/encode", byteOffset := 0 }, { name := "pre", type := 3, offset := 1, embedded := false, tag := "", pkgPath := "helmsman/encode", byteOffset := 8 }, { name := "post", type := 140, offset := 2, embedded := false, tag := "", pkgPath := "helmsman/encode", byteOffset := 16 }]) := ⟨Try.underlying141⟩
instance : TyI Try.prog 141 (.agg #[.bool false, .int .i64 0, .nilFunc]) 3 24 := tyI_of (by kernel_rfl)
instance : TyF Try.prog 141 [(0, 1), (1, 1), (2, 1)] := ⟨_, Try.underlying141, by kernel_rfl⟩
-- 142: encode.effect
instance : TyU Try.prog 142 (.struct #[{ name := "open", type := 4, offset := 0, embedded := false, tag := "", pkgPath := "helmsman/encode", byteOffset := 0 }, { name := "pre", type := 3, offset := 1, embedded := false, tag := "", pkgPath := "helmsman/encode", byteOffset := 8 }, { name := "post", type := 140, offset := 2, embedded := false, tag := "", pkgPath := "helmsman/encode", byteOffset := 16 }]) := ⟨Try.underlying142⟩
instance : TyI Try.prog 142 (.agg #[.bool false, .int .i64 0, .nilFunc]) 3 24 := tyI_of (by kernel_rfl)
instance : TyF Try.prog 142 [(0, 1), (1, 1), (2, 1)] := ⟨_, Try.underlying142, by kernel_rfl⟩
-- 143: func(api.Operator, []int) encode.effect
instance : TyU Try.prog 143 (.func #[59, 22] #[142] false) := ⟨Try.underlying143⟩
instance : TyI Try.prog 143 (.nilFunc) 1 8 := tyI_of (by kernel_rfl)
-- 144: func([]api.Assign) []api.Assign
instance : TyU Try.prog 144 (.func #[35] #[35] false) := ⟨Try.underlying144⟩
instance : TyI Try.prog 144 (.nilFunc) 1 8 := tyI_of (by kernel_rfl)
-- 145: func(api.Operator, int) int
instance : TyU Try.prog 145 (.func #[59, 3] #[3] false) := ⟨Try.underlying145⟩
instance : TyI Try.prog 145 (.nilFunc) 1 8 := tyI_of (by kernel_rfl)
-- 146: func([]int, []int) []int
instance : TyU Try.prog 146 (.func #[22, 22] #[22] false) := ⟨Try.underlying146⟩
instance : TyI Try.prog 146 (.nilFunc) 1 8 := tyI_of (by kernel_rfl)
-- 147: func([]api.Operator, func(api.Operator) bool) bool
instance : TyU Try.prog 147 (.func #[23, 148] #[4] false) := ⟨Try.underlying147⟩
instance : TyI Try.prog 147 (.nilFunc) 1 8 := tyI_of (by kernel_rfl)
-- 148: func(api.Operator) bool
instance : TyU Try.prog 148 (.func #[59] #[4] false) := ⟨Try.underlying148⟩
instance : TyI Try.prog 148 (.nilFunc) 1 8 := tyI_of (by kernel_rfl)
-- 149: func(func(int) bool)
instance : TyU Try.prog 149 (.func #[126] #[] false) := ⟨Try.underlying149⟩
instance : TyI Try.prog 149 (.nilFunc) 1 8 := tyI_of (by kernel_rfl)
-- 150: func(int) func(int) bool
instance : TyU Try.prog 150 (.func #[3] #[126] false) := ⟨Try.underlying150⟩
instance : TyI Try.prog 150 (.nilFunc) 1 8 := tyI_of (by kernel_rfl)
-- 151: map[int]int
instance : TyU Try.prog 151 (.map 3 3) := ⟨Try.underlying151⟩
instance : TyI Try.prog 151 (.map none) 1 8 := tyI_of (by kernel_rfl)
-- 152: struct ( state []int; cost int; parent int; op int )
instance : TyU Try.prog 152 (.struct #[{ name := "state", type := 22, offset := 0, embedded := false, tag := "", pkgPath := "helmsman/commuting", byteOffset := 0 }, { name := "cost", type := 3, offset := 1, embedded := false, tag := "", pkgPath := "helmsman/commuting", byteOffset := 24 }, { name := "parent", type := 3, offset := 2, embedded := false, tag := "", pkgPath := "helmsman/commuting", byteOffset := 32 }, { name := "op", type := 3, offset := 3, embedded := false, tag := "", pkgPath := "helmsman/commuting", byteOffset := 40 }]) := ⟨Try.underlying152⟩
instance : TyI Try.prog 152 (.agg #[.slice none 0 0, .int .i64 0, .int .i64 0, .int .i64 0]) 4 48 := tyI_of (by kernel_rfl)
instance : TyF Try.prog 152 [(0, 1), (1, 1), (2, 1), (3, 1)] := ⟨_, Try.underlying152, by kernel_rfl⟩
-- 153: commuting.node
instance : TyU Try.prog 153 (.struct #[{ name := "state", type := 22, offset := 0, embedded := false, tag := "", pkgPath := "helmsman/commuting", byteOffset := 0 }, { name := "cost", type := 3, offset := 1, embedded := false, tag := "", pkgPath := "helmsman/commuting", byteOffset := 24 }, { name := "parent", type := 3, offset := 2, embedded := false, tag := "", pkgPath := "helmsman/commuting", byteOffset := 32 }, { name := "op", type := 3, offset := 3, embedded := false, tag := "", pkgPath := "helmsman/commuting", byteOffset := 40 }]) := ⟨Try.underlying153⟩
instance : TyI Try.prog 153 (.agg #[.slice none 0 0, .int .i64 0, .int .i64 0, .int .i64 0]) 4 48 := tyI_of (by kernel_rfl)
instance : TyF Try.prog 153 [(0, 1), (1, 1), (2, 1), (3, 1)] := ⟨_, Try.underlying153, by kernel_rfl⟩
-- 154: []commuting.node
instance : TyU Try.prog 154 (.slice 153) := ⟨Try.underlying154⟩
instance : TyI Try.prog 154 (.slice none 0 0) 1 24 := tyI_of (by kernel_rfl)
-- 155: *commuting.open
instance : TyU Try.prog 155 (.pointer 158) := ⟨Try.underlying155⟩
instance : TyI Try.prog 155 (.pointer none) 1 8 := tyI_of (by kernel_rfl)
-- 156: *[]commuting.node
instance : TyU Try.prog 156 (.pointer 154) := ⟨Try.underlying156⟩
instance : TyI Try.prog 156 (.pointer none) 1 8 := tyI_of (by kernel_rfl)
-- 157: struct ( nodes *[]commuting.node; list []int )
instance : TyU Try.prog 157 (.struct #[{ name := "nodes", type := 156, offset := 0, embedded := false, tag := "", pkgPath := "helmsman/commuting", byteOffset := 0 }, { name := "list", type := 22, offset := 1, embedded := false, tag := "", pkgPath := "helmsman/commuting", byteOffset := 8 }]) := ⟨Try.underlying157⟩
instance : TyI Try.prog 157 (.agg #[.pointer none, .slice none 0 0]) 2 32 := tyI_of (by kernel_rfl)
instance : TyF Try.prog 157 [(0, 1), (1, 1)] := ⟨_, Try.underlying157, by kernel_rfl⟩
-- 158: commuting.open
instance : TyU Try.prog 158 (.struct #[{ name := "nodes", type := 156, offset := 0, embedded := false, tag := "", pkgPath := "helmsman/commuting", byteOffset := 0 }, { name := "list", type := 22, offset := 1, embedded := false, tag := "", pkgPath := "helmsman/commuting", byteOffset := 8 }]) := ⟨Try.underlying158⟩
instance : TyI Try.prog 158 (.agg #[.pointer none, .slice none 0 0]) 2 32 := tyI_of (by kernel_rfl)
instance : TyF Try.prog 158 [(0, 1), (1, 1)] := ⟨_, Try.underlying158, by kernel_rfl⟩
-- 159: func() int
instance : TyU Try.prog 159 (.func #[] #[3] false) := ⟨Try.underlying159⟩
instance : TyI Try.prog 159 (.nilFunc) 1 8 := tyI_of (by kernel_rfl)
-- 160: func(heap.Interface) interface ()
instance : TyU Try.prog 160 (.func #[184] #[20] false) := ⟨Try.underlying160⟩
instance : TyI Try.prog 160 (.nilFunc) 1 8 := tyI_of (by kernel_rfl)
-- 161: func([]commuting.node, int) []int
instance : TyU Try.prog 161 (.func #[154, 3] #[22] false) := ⟨Try.underlying161⟩
instance : TyI Try.prog 161 (.nilFunc) 1 8 := tyI_of (by kernel_rfl)
-- 162: func(heap.Interface, interface ())
instance : TyU Try.prog 162 (.func #[184, 20] #[] false) := ⟨Try.underlying162⟩
instance : TyI Try.prog 162 (.nilFunc) 1 8 := tyI_of (by kernel_rfl)
-- 163: uint
instance : TyU Try.prog 163 (.int .u64) := ⟨Try.underlying163⟩
instance : TyI Try.prog 163 (.int .u64 0) 1 8 := tyI_of (by kernel_rfl)
-- 164: func(api.Task, []int, []int) ([]int, bool)
instance : TyU Try.prog 164 (.func #[25, 22, 22] #[22, 4] false) := ⟨Try.underlying164⟩
instance : TyI Try.prog 164 (.nilFunc) 1 8 := tyI_of (by kernel_rfl)
-- 165: *trajectory.progressor
instance : TyU Try.prog 165 (.pointer 167) := ⟨Try.underlying165⟩
instance : TyI Try.prog 165 (.pointer none) 1 8 := tyI_of (by kernel_rfl)
-- 166: struct ( l []api.FormulaNode; s []int )
instance : TyU Try.prog 166 (.struct #[{ name := "l", type := 79, offset := 0, embedded := false, tag := "", pkgPath := "helmsman/trajectory", byteOffset := 0 }, { name := "s", type := 22, offset := 1, embedded := false, tag := "", pkgPath := "helmsman/trajectory", byteOffset := 24 }]) := ⟨Try.underlying166⟩
instance : TyI Try.prog 166 (.agg #[.slice none 0 0, .slice none 0 0]) 2 48 := tyI_of (by kernel_rfl)
instance : TyF Try.prog 166 [(0, 1), (1, 1)] := ⟨_, Try.underlying166, by kernel_rfl⟩
-- 167: trajectory.progressor
instance : TyU Try.prog 167 (.struct #[{ name := "l", type := 79, offset := 0, embedded := false, tag := "", pkgPath := "helmsman/trajectory", byteOffset := 0 }, { name := "s", type := 22, offset := 1, embedded := false, tag := "", pkgPath := "helmsman/trajectory", byteOffset := 24 }]) := ⟨Try.underlying167⟩
instance : TyI Try.prog 167 (.agg #[.slice none 0 0, .slice none 0 0]) 2 48 := tyI_of (by kernel_rfl)
instance : TyF Try.prog 167 [(0, 1), (1, 1)] := ⟨_, Try.underlying167, by kernel_rfl⟩
-- 168: func([]api.FormulaNode, *trajectory.tree) []api.FormulaNode
instance : TyU Try.prog 168 (.func #[79, 169] #[79] false) := ⟨Try.underlying168⟩
instance : TyI Try.prog 168 (.nilFunc) 1 8 := tyI_of (by kernel_rfl)
-- 169: *trajectory.tree
instance : TyU Try.prog 169 (.pointer 192) := ⟨Try.underlying169⟩
instance : TyI Try.prog 169 (.pointer none) 1 8 := tyI_of (by kernel_rfl)
-- 170: func(int) *trajectory.tree
instance : TyU Try.prog 170 (.func #[3] #[169] false) := ⟨Try.underlying170⟩
instance : TyI Try.prog 170 (.nilFunc) 1 8 := tyI_of (by kernel_rfl)
-- 171: func(int) api.Fault
instance : TyU Try.prog 171 (.func #[3] #[28] false) := ⟨Try.underlying171⟩
instance : TyI Try.prog 171 (.nilFunc) 1 8 := tyI_of (by kernel_rfl)
-- 172: func(func(int, int) bool)
instance : TyU Try.prog 172 (.func #[176] #[] false) := ⟨Try.underlying172⟩
instance : TyI Try.prog 172 (.nilFunc) 1 8 := tyI_of (by kernel_rfl)
-- 173: iter.Seq2[int,int]
instance : TyU Try.prog 173 (.func #[176] #[] false) := ⟨Try.underlying173⟩
instance : TyI Try.prog 173 (.nilFunc) 1 8 := tyI_of (by kernel_rfl)
-- 174: func([]int) iter.Seq2[int,int]
instance : TyU Try.prog 174 (.func #[22] #[173] false) := ⟨Try.underlying174⟩
instance : TyI Try.prog 174 (.nilFunc) 1 8 := tyI_of (by kernel_rfl)
-- 175: [][]bool
instance : TyU Try.prog 175 (.slice 110) := ⟨Try.underlying175⟩
instance : TyI Try.prog 175 (.slice none 0 0) 1 24 := tyI_of (by kernel_rfl)
-- 176: func(int, int) bool
instance : TyU Try.prog 176 (.func #[3, 3] #[4] false) := ⟨Try.underlying176⟩
instance : TyI Try.prog 176 (.nilFunc) 1 8 := tyI_of (by kernel_rfl)
-- 177: func([]int, []int, []int) []int
instance : TyU Try.prog 177 (.func #[22, 22, 22] #[22] false) := ⟨Try.underlying177⟩
instance : TyI Try.prog 177 (.nilFunc) 1 8 := tyI_of (by kernel_rfl)
-- 178: func([]int, func(int) bool) int
instance : TyU Try.prog 178 (.func #[22, 126] #[3] false) := ⟨Try.underlying178⟩
instance : TyI Try.prog 178 (.nilFunc) 1 8 := tyI_of (by kernel_rfl)
-- 179: func([]api.Assign, func(api.Assign) bool) bool
instance : TyU Try.prog 179 (.func #[35, 180] #[4] false) := ⟨Try.underlying179⟩
instance : TyI Try.prog 179 (.nilFunc) 1 8 := tyI_of (by kernel_rfl)
-- 180: func(api.Assign) bool
instance : TyU Try.prog 180 (.func #[95] #[4] false) := ⟨Try.underlying180⟩
instance : TyI Try.prog 180 (.nilFunc) 1 8 := tyI_of (by kernel_rfl)
-- 181: func([]api.Operator, func(api.Operator) bool) int
instance : TyU Try.prog 181 (.func #[23, 148] #[3] false) := ⟨Try.underlying181⟩
instance : TyI Try.prog 181 (.nilFunc) 1 8 := tyI_of (by kernel_rfl)
-- 182: func([]int, int) int
instance : TyU Try.prog 182 (.func #[22, 3] #[3] false) := ⟨Try.underlying182⟩
instance : TyI Try.prog 182 (.nilFunc) 1 8 := tyI_of (by kernel_rfl)
-- 185: func(int, int)
instance : TyU Try.prog 185 (.func #[3, 3] #[] false) := ⟨Try.underlying185⟩
instance : TyI Try.prog 185 (.nilFunc) 1 8 := tyI_of (by kernel_rfl)
-- 186: func(heap.Interface, int, int) bool
instance : TyU Try.prog 186 (.func #[184, 3, 3] #[4] false) := ⟨Try.underlying186⟩
instance : TyI Try.prog 186 (.nilFunc) 1 8 := tyI_of (by kernel_rfl)
-- 187: func() interface ()
instance : TyU Try.prog 187 (.func #[] #[20] false) := ⟨Try.underlying187⟩
instance : TyI Try.prog 187 (.nilFunc) 1 8 := tyI_of (by kernel_rfl)
-- 188: func(interface ())
instance : TyU Try.prog 188 (.func #[20] #[] false) := ⟨Try.underlying188⟩
instance : TyI Try.prog 188 (.nilFunc) 1 8 := tyI_of (by kernel_rfl)
-- 189: func(heap.Interface, int)
instance : TyU Try.prog 189 (.func #[184, 3] #[] false) := ⟨Try.underlying189⟩
instance : TyI Try.prog 189 (.nilFunc) 1 8 := tyI_of (by kernel_rfl)
-- 190: []*trajectory.tree
instance : TyU Try.prog 190 (.slice 169) := ⟨Try.underlying190⟩
instance : TyI Try.prog 190 (.slice none 0 0) 1 24 := tyI_of (by kernel_rfl)
-- 191: struct ( kind int; fact int; children []*trajectory.tree )
instance : TyU Try.prog 191 (.struct #[{ name := "kind", type := 3, offset := 0, embedded := false, tag := "", pkgPath := "helmsman/trajectory", byteOffset := 0 }, { name := "fact", type := 3, offset := 1, embedded := false, tag := "", pkgPath := "helmsman/trajectory", byteOffset := 8 }, { name := "children", type := 190, offset := 2, embedded := false, tag := "", pkgPath := "helmsman/trajectory", byteOffset := 16 }]) := ⟨Try.underlying191⟩
instance : TyI Try.prog 191 (.agg #[.int .i64 0, .int .i64 0, .slice none 0 0]) 3 40 := tyI_of (by kernel_rfl)
instance : TyF Try.prog 191 [(0, 1), (1, 1), (2, 1)] := ⟨_, Try.underlying191, by kernel_rfl⟩
-- 192: trajectory.tree
instance : TyU Try.prog 192 (.struct #[{ name := "kind", type := 3, offset := 0, embedded := false, tag := "", pkgPath := "helmsman/trajectory", byteOffset := 0 }, { name := "fact", type := 3, offset := 1, embedded := false, tag := "", pkgPath := "helmsman/trajectory", byteOffset := 8 }, { name := "children", type := 190, offset := 2, embedded := false, tag := "", pkgPath := "helmsman/trajectory", byteOffset := 16 }]) := ⟨Try.underlying192⟩
instance : TyI Try.prog 192 (.agg #[.int .i64 0, .int .i64 0, .slice none 0 0]) 3 40 := tyI_of (by kernel_rfl)
instance : TyF Try.prog 192 [(0, 1), (1, 1), (2, 1)] := ⟨_, Try.underlying192, by kernel_rfl⟩
-- 193: func(bool) *trajectory.tree
instance : TyU Try.prog 193 (.func #[4] #[169] false) := ⟨Try.underlying193⟩
instance : TyI Try.prog 193 (.nilFunc) 1 8 := tyI_of (by kernel_rfl)
-- 194: func(*trajectory.tree) *trajectory.tree
instance : TyU Try.prog 194 (.func #[169] #[169] false) := ⟨Try.underlying194⟩
instance : TyI Try.prog 194 (.nilFunc) 1 8 := tyI_of (by kernel_rfl)
-- 195: func(*trajectory.tree, *trajectory.tree) *trajectory.tree
instance : TyU Try.prog 195 (.func #[169, 169] #[169] false) := ⟨Try.underlying195⟩
instance : TyI Try.prog 195 (.nilFunc) 1 8 := tyI_of (by kernel_rfl)
-- 196: func() *trajectory.tree
instance : TyU Try.prog 196 (.func #[] #[169] false) := ⟨Try.underlying196⟩
instance : TyI Try.prog 196 (.nilFunc) 1 8 := tyI_of (by kernel_rfl)
-- 197: func([]api.Assign, func(api.Assign) bool) int
instance : TyU Try.prog 197 (.func #[35, 180] #[3] false) := ⟨Try.underlying197⟩
instance : TyI Try.prog 197 (.nilFunc) 1 8 := tyI_of (by kernel_rfl)
-- 198: func(int, ...*trajectory.tree) *trajectory.tree
instance : TyU Try.prog 198 (.func #[3, 190] #[169] true) := ⟨Try.underlying198⟩
instance : TyI Try.prog 198 (.nilFunc) 1 8 := tyI_of (by kernel_rfl)
-- 199: func([]int, int, int, int)
instance : TyU Try.prog 199 (.func #[22, 3, 3, 3] #[] false) := ⟨Try.underlying199⟩
instance : TyI Try.prog 199 (.nilFunc) 1 8 := tyI_of (by kernel_rfl)
-- 200: func(uint) int
instance : TyU Try.prog 200 (.func #[163] #[3] false) := ⟨Try.underlying200⟩
instance : TyI Try.prog 200 (.nilFunc) 1 8 := tyI_of (by kernel_rfl)
-- 201: func([]int, int, int)
instance : TyU Try.prog 201 (.func #[22, 3, 3] #[] false) := ⟨Try.underlying201⟩
instance : TyI Try.prog 201 (.nilFunc) 1 8 := tyI_of (by kernel_rfl)
-- 202: slices.sortedHint
instance : TyU Try.prog 202 (.int .i64) := ⟨Try.underlying202⟩
instance : TyI Try.prog 202 (.int .i64 0) 1 8 := tyI_of (by kernel_rfl)
-- 204: func([]int, int, int) (int, slices.sortedHint)
instance : TyU Try.prog 204 (.func #[22, 3, 3] #[3, 202] false) := ⟨Try.underlying204⟩
instance : TyI Try.prog 204 (.nilFunc) 1 8 := tyI_of (by kernel_rfl)
-- 205: func([]int, int, int) bool
instance : TyU Try.prog 205 (.func #[22, 3, 3] #[4] false) := ⟨Try.underlying205⟩
instance : TyI Try.prog 205 (.nilFunc) 1 8 := tyI_of (by kernel_rfl)
-- 206: func([]int, int, int, int) int
instance : TyU Try.prog 206 (.func #[22, 3, 3, 3] #[3] false) := ⟨Try.underlying206⟩
instance : TyI Try.prog 206 (.nilFunc) 1 8 := tyI_of (by kernel_rfl)
-- 207: func([]int, int, int, int) (int, bool)
instance : TyU Try.prog 207 (.func #[22, 3, 3, 3] #[3, 4] false) := ⟨Try.underlying207⟩
instance : TyI Try.prog 207 (.nilFunc) 1 8 := tyI_of (by kernel_rfl)
-- 208: func(uint32) int
instance : TyU Try.prog 208 (.func #[209] #[3] false) := ⟨Try.underlying208⟩
instance : TyI Try.prog 208 (.nilFunc) 1 8 := tyI_of (by kernel_rfl)
-- 209: uint32
instance : TyU Try.prog 209 (.int .u32) := ⟨Try.underlying209⟩
instance : TyI Try.prog 209 (.int .u32 0) 1 4 := tyI_of (by kernel_rfl)
-- 210: func(uint64) int
instance : TyU Try.prog 210 (.func #[211] #[3] false) := ⟨Try.underlying210⟩
instance : TyI Try.prog 210 (.nilFunc) 1 8 := tyI_of (by kernel_rfl)
-- 211: uint64
instance : TyU Try.prog 211 (.int .u64) := ⟨Try.underlying211⟩
instance : TyI Try.prog 211 (.int .u64 0) 1 8 := tyI_of (by kernel_rfl)
-- 212: slices.xorshift
instance : TyU Try.prog 212 (.int .u64) := ⟨Try.underlying212⟩
instance : TyI Try.prog 212 (.int .u64 0) 1 8 := tyI_of (by kernel_rfl)
-- 213: func(int) uint
instance : TyU Try.prog 213 (.func #[3] #[163] false) := ⟨Try.underlying213⟩
instance : TyI Try.prog 213 (.nilFunc) 1 8 := tyI_of (by kernel_rfl)
-- 214: func() uint64
instance : TyU Try.prog 214 (.func #[] #[211] false) := ⟨Try.underlying214⟩
instance : TyI Try.prog 214 (.nilFunc) 1 8 := tyI_of (by kernel_rfl)
-- 215: func([]int, int, *int) int
instance : TyU Try.prog 215 (.func #[22, 3, 216] #[3] false) := ⟨Try.underlying215⟩
instance : TyI Try.prog 215 (.nilFunc) 1 8 := tyI_of (by kernel_rfl)
-- 216: *int
instance : TyU Try.prog 216 (.pointer 3) := ⟨Try.underlying216⟩
instance : TyI Try.prog 216 (.pointer none) 1 8 := tyI_of (by kernel_rfl)
-- 217: func([]int, int, int, int, *int) int
instance : TyU Try.prog 217 (.func #[22, 3, 3, 3, 216] #[3] false) := ⟨Try.underlying217⟩
instance : TyI Try.prog 217 (.nilFunc) 1 8 := tyI_of (by kernel_rfl)
-- 218: *slices.xorshift
instance : TyU Try.prog 218 (.pointer 212) := ⟨Try.underlying218⟩
instance : TyI Try.prog 218 (.pointer none) 1 8 := tyI_of (by kernel_rfl)
-- 219: func([]int, int, int, *int) (int, int)
instance : TyU Try.prog 219 (.func #[22, 3, 3, 216] #[3, 3] false) := ⟨Try.underlying219⟩
instance : TyI Try.prog 219 (.nilFunc) 1 8 := tyI_of (by kernel_rfl)
-- 220: func() string
instance : TyU Try.prog 220 (.func #[] #[9] false) := ⟨Try.underlying220⟩
instance : TyI Try.prog 220 (.nilFunc) 1 8 := tyI_of (by kernel_rfl)
-- 229: *uint8
instance : TyU Try.prog 229 (.pointer 5) := ⟨Try.underlying229⟩
instance : TyI Try.prog 229 (.pointer none) 1 8 := tyI_of (by kernel_rfl)
def tabL : List (Nat × TI) := [(1, ⟨false, 1, 8, [.v (.nilFunc)], .other⟩),
  (2, ⟨false, 1, 8, [.v (.int .i64 0)], .int .i64⟩),
  (3, ⟨false, 1, 8, [.v (.int .i64 0)], .int .i64⟩),
  (4, ⟨false, 1, 1, [.v (.bool false)], .bool⟩),
  (5, ⟨false, 1, 1, [.v (.int .u8 0)], .int .u8⟩),
  (9, ⟨false, 1, 16, [.v (.string ⟨#[]⟩)], .other⟩),
  (12, ⟨false, 1, 8, [.v (.int .u64 0)], .int .u64⟩),
  (13, ⟨true, 2, 24, [.v (.string ⟨#[]⟩), .v (.int .u64 0)], .st [(0, 1), (1, 1)] false⟩),
  (21, ⟨false, 1, 4, [.v (.int .i32 0)], .int .i32⟩),
  (22, ⟨false, 1, 24, [.v (.slice none 0 0)], .sl 3⟩),
  (23, ⟨false, 1, 24, [.v (.slice none 0 0)], .sl 59⟩),
  (24, ⟨true, 4, 80, [.v (.int .i64 0), .v (.slice none 0 0), .v (.slice none 0 0), .v (.slice none 0 0)], .st [(0, 1), (1, 1), (2, 1), (3, 1)] false⟩),
  (25, ⟨true, 4, 80, [.v (.int .i64 0), .v (.slice none 0 0), .v (.slice none 0 0), .v (.slice none 0 0)], .st [(0, 1), (1, 1), (2, 1), (3, 1)] false⟩),
  (26, ⟨false, 1, 24, [.v (.slice none 0 0)], .sl 22⟩),
  (27, ⟨true, 2, 16, [.v (.int .i64 0), .v (.int .i64 0)], .st [(0, 1), (1, 1)] true⟩),
  (28, ⟨true, 2, 16, [.v (.int .i64 0), .v (.int .i64 0)], .st [(0, 1), (1, 1)] true⟩),
  (29, ⟨false, 1, 8, [.v (.nilFunc)], .other⟩),
  (31, ⟨false, 1, 8, [.v (.nilFunc)], .other⟩),
  (32, ⟨false, 1, 8, [.v (.nilFunc)], .other⟩),
  (33, ⟨false, 1, 8, [.v (.nilFunc)], .other⟩),
  (34, ⟨false, 1, 8, [.v (.nilFunc)], .other⟩),
  (35, ⟨false, 1, 24, [.v (.slice none 0 0)], .sl 95⟩),
  (36, ⟨false, 1, 24, [.v (.slice none 0 0)], .sl 97⟩),
  (37, ⟨true, 4, 96, [.v (.slice none 0 0), .v (.slice none 0 0), .v (.slice none 0 0), .v (.slice none 0 0)], .st [(0, 1), (1, 1), (2, 1), (3, 1)] false⟩),
  (38, ⟨true, 4, 96, [.v (.slice none 0 0), .v (.slice none 0 0), .v (.slice none 0 0), .v (.slice none 0 0)], .st [(0, 1), (1, 1), (2, 1), (3, 1)] false⟩),
  (40, ⟨false, 1, 8, [.v (.nilFunc)], .other⟩),
  (41, ⟨false, 1, 8, [.v (.nilFunc)], .other⟩),
  (42, ⟨false, 1, 8, [.v (.nilFunc)], .other⟩),
  (43, ⟨false, 1, 8, [.v (.nilFunc)], .other⟩),
  (44, ⟨false, 1, 8, [.v (.nilFunc)], .other⟩),
  (45, ⟨false, 1, 8, [.v (.nilFunc)], .other⟩),
  (47, ⟨false, 1, 8, [.v (.nilFunc)], .other⟩),
  (49, ⟨false, 1, 8, [.v (.nilFunc)], .other⟩),
  (50, ⟨false, 1, 8, [.v (.nilFunc)], .other⟩),
  (52, ⟨false, 1, 8, [.v (.nilFunc)], .other⟩),
  (53, ⟨false, 1, 8, [.v (.nilFunc)], .other⟩),
  (54, ⟨false, 1, 8, [.v (.nilFunc)], .other⟩),
  (55, ⟨false, 1, 8, [.v (.nilFunc)], .other⟩),
  (56, ⟨false, 1, 8, [.v (.nilFunc)], .other⟩),
  (57, ⟨false, 1, 8, [.v (.nilFunc)], .other⟩),
  (58, ⟨true, 4, 80, [.v (.slice none 0 0), .v (.slice none 0 0), .v (.slice none 0 0), .v (.int .i64 0)], .st [(0, 1), (1, 1), (2, 1), (3, 1)] false⟩),
  (59, ⟨true, 4, 80, [.v (.slice none 0 0), .v (.slice none 0 0), .v (.slice none 0 0), .v (.int .i64 0)], .st [(0, 1), (1, 1), (2, 1), (3, 1)] false⟩),
  (60, ⟨false, 1, 8, [.v (.nilFunc)], .other⟩),
  (61, ⟨false, 1, 8, [.v (.nilFunc)], .other⟩),
  (62, ⟨false, 1, 8, [.v (.nilFunc)], .other⟩),
  (63, ⟨false, 1, 8, [.v (.nilFunc)], .other⟩),
  (64, ⟨true, 4, 48, [.v (.bool false), .v (.slice none 0 0), .v (.int .i64 0), .v (.int .i64 0)], .st [(0, 1), (1, 1), (2, 1), (3, 1)] false⟩),
  (65, ⟨true, 4, 48, [.v (.bool false), .v (.slice none 0 0), .v (.int .i64 0), .v (.int .i64 0)], .st [(0, 1), (1, 1), (2, 1), (3, 1)] false⟩),
  (67, ⟨false, 1, 8, [.v (.nilFunc)], .other⟩),
  (69, ⟨false, 1, 8, [.v (.nilFunc)], .other⟩),
  (70, ⟨false, 1, 8, [.v (.nilFunc)], .other⟩),
  (71, ⟨false, 1, 8, [.v (.nilFunc)], .other⟩),
  (72, ⟨false, 1, 8, [.v (.nilFunc)], .other⟩),
  (73, ⟨false, 1, 8, [.v (.nilFunc)], .other⟩),
  (74, ⟨false, 1, 8, [.v (.nilFunc)], .other⟩),
  (75, ⟨false, 1, 8, [.v (.nilFunc)], .other⟩),
  (76, ⟨false, 1, 8, [.v (.nilFunc)], .other⟩),
  (77, ⟨true, 3, 40, [.v (.int .i64 0), .v (.slice none 0 0), .v (.int .i64 0)], .st [(0, 1), (1, 1), (2, 1)] false⟩),
  (78, ⟨true, 3, 40, [.v (.int .i64 0), .v (.slice none 0 0), .v (.int .i64 0)], .st [(0, 1), (1, 1), (2, 1)] false⟩),
  (79, ⟨false, 1, 24, [.v (.slice none 0 0)], .sl 78⟩),
  (80, ⟨false, 1, 8, [.v (.nilFunc)], .other⟩),
  (81, ⟨true, 1, 24, [.v (.slice none 0 0)], .st [(0, 1)] false⟩),
  (82, ⟨true, 1, 24, [.v (.slice none 0 0)], .st [(0, 1)] false⟩),
  (83, ⟨false, 1, 8, [.v (.nilFunc)], .other⟩),
  (84, ⟨false, 1, 8, [.v (.nilFunc)], .other⟩),
  (85, ⟨false, 1, 8, [.v (.nilFunc)], .other⟩),
  (87, ⟨false, 1, 8, [.v (.nilFunc)], .other⟩),
  (88, ⟨false, 1, 8, [.v (.nilFunc)], .other⟩),
  (89, ⟨false, 1, 8, [.v (.nilFunc)], .other⟩),
  (90, ⟨false, 1, 8, [.v (.nilFunc)], .other⟩),
  (91, ⟨false, 1, 8, [.v (.nilFunc)], .other⟩),
  (92, ⟨false, 1, 8, [.v (.nilFunc)], .other⟩),
  (93, ⟨false, 1, 8, [.v (.nilFunc)], .other⟩),
  (94, ⟨true, 2, 16, [.v (.int .i64 0), .v (.int .i64 0)], .st [(0, 1), (1, 1)] true⟩),
  (95, ⟨true, 2, 16, [.v (.int .i64 0), .v (.int .i64 0)], .st [(0, 1), (1, 1)] true⟩),
  (96, ⟨true, 3, 56, [.v (.slice none 0 0), .v (.slice none 0 0), .v (.int .i64 0)], .st [(0, 1), (1, 1), (2, 1)] false⟩),
  (97, ⟨true, 3, 56, [.v (.slice none 0 0), .v (.slice none 0 0), .v (.int .i64 0)], .st [(0, 1), (1, 1), (2, 1)] false⟩),
  (98, ⟨false, 1, 8, [.v (.nilFunc)], .other⟩),
  (99, ⟨false, 1, 8, [.v (.nilFunc)], .other⟩),
  (100, ⟨false, 1, 8, [.v (.nilFunc)], .other⟩),
  (101, ⟨false, 1, 8, [.v (.nilFunc)], .other⟩),
  (102, ⟨false, 1, 8, [.v (.nilFunc)], .other⟩),
  (103, ⟨false, 1, 8, [.v (.nilFunc)], .other⟩),
  (105, ⟨false, 1, 8, [.v (.nilFunc)], .other⟩),
  (107, ⟨false, 1, 8, [.v (.nilFunc)], .other⟩),
  (108, ⟨false, 1, 8, [.v (.nilFunc)], .other⟩),
  (109, ⟨true, 2, 16, [.v (.int .i64 0), .v (.int .i64 0)], .ar 2 3 true⟩),
  (110, ⟨false, 1, 24, [.v (.slice none 0 0)], .sl 4⟩),
  (111, ⟨false, 1, 8, [.v (.nilFunc)], .other⟩),
  (112, ⟨false, 1, 8, [.v (.nilFunc)], .other⟩),
  (113, ⟨false, 1, 8, [.v (.nilFunc)], .other⟩),
  (114, ⟨false, 1, 8, [.v (.nilFunc)], .other⟩),
  (115, ⟨false, 1, 8, [.v (.nilFunc)], .other⟩),
  (116, ⟨false, 1, 8, [.v (.nilFunc)], .other⟩),
  (117, ⟨false, 1, 8, [.v (.nilFunc)], .other⟩),
  (118, ⟨false, 1, 8, [.v (.nilFunc)], .other⟩),
  (119, ⟨false, 1, 8, [.v (.nilFunc)], .other⟩),
  (120, ⟨false, 1, 8, [.v (.nilFunc)], .other⟩),
  (121, ⟨false, 1, 8, [.v (.nilFunc)], .other⟩),
  (123, ⟨false, 1, 8, [.v (.nilFunc)], .other⟩),
  (124, ⟨false, 1, 8, [.v (.nilFunc)], .other⟩),
  (125, ⟨false, 1, 8, [.v (.nilFunc)], .other⟩),
  (126, ⟨false, 1, 8, [.v (.nilFunc)], .other⟩),
  (127, ⟨false, 1, 8, [.v (.nilFunc)], .other⟩),
  (128, ⟨false, 1, 8, [.v (.nilFunc)], .other⟩),
  (129, ⟨false, 1, 8, [.v (.nilFunc)], .other⟩),
  (130, ⟨false, 1, 8, [.v (.nilFunc)], .other⟩),
  (131, ⟨false, 1, 8, [.v (.nilFunc)], .other⟩),
  (132, ⟨false, 1, 8, [.v (.nilFunc)], .other⟩),
  (133, ⟨false, 1, 8, [.v (.nilFunc)], .other⟩),
  (134, ⟨false, 1, 8, [.v (.nilFunc)], .other⟩),
  (135, ⟨false, 1, 8, [.v (.nilFunc)], .other⟩),
  (136, ⟨false, 1, 8, [.v (.nilFunc)], .other⟩),
  (137, ⟨false, 1, 8, [.v (.nilFunc)], .other⟩),
  (139, ⟨false, 1, 8, [.v (.nilFunc)], .other⟩),
  (140, ⟨false, 1, 8, [.v (.nilFunc)], .other⟩),
  (141, ⟨true, 3, 24, [.v (.bool false), .v (.int .i64 0), .v (.nilFunc)], .st [(0, 1), (1, 1), (2, 1)] false⟩),
  (142, ⟨true, 3, 24, [.v (.bool false), .v (.int .i64 0), .v (.nilFunc)], .st [(0, 1), (1, 1), (2, 1)] false⟩),
  (143, ⟨false, 1, 8, [.v (.nilFunc)], .other⟩),
  (144, ⟨false, 1, 8, [.v (.nilFunc)], .other⟩),
  (145, ⟨false, 1, 8, [.v (.nilFunc)], .other⟩),
  (146, ⟨false, 1, 8, [.v (.nilFunc)], .other⟩),
  (147, ⟨false, 1, 8, [.v (.nilFunc)], .other⟩),
  (148, ⟨false, 1, 8, [.v (.nilFunc)], .other⟩),
  (149, ⟨false, 1, 8, [.v (.nilFunc)], .other⟩),
  (150, ⟨false, 1, 8, [.v (.nilFunc)], .other⟩),
  (151, ⟨false, 1, 8, [.v (.map none)], .other⟩),
  (152, ⟨true, 4, 48, [.v (.slice none 0 0), .v (.int .i64 0), .v (.int .i64 0), .v (.int .i64 0)], .st [(0, 1), (1, 1), (2, 1), (3, 1)] false⟩),
  (153, ⟨true, 4, 48, [.v (.slice none 0 0), .v (.int .i64 0), .v (.int .i64 0), .v (.int .i64 0)], .st [(0, 1), (1, 1), (2, 1), (3, 1)] false⟩),
  (154, ⟨false, 1, 24, [.v (.slice none 0 0)], .sl 153⟩),
  (155, ⟨false, 1, 8, [.v (.pointer none)], .other⟩),
  (156, ⟨false, 1, 8, [.v (.pointer none)], .other⟩),
  (157, ⟨true, 2, 32, [.v (.pointer none), .v (.slice none 0 0)], .st [(0, 1), (1, 1)] false⟩),
  (158, ⟨true, 2, 32, [.v (.pointer none), .v (.slice none 0 0)], .st [(0, 1), (1, 1)] false⟩),
  (159, ⟨false, 1, 8, [.v (.nilFunc)], .other⟩),
  (160, ⟨false, 1, 8, [.v (.nilFunc)], .other⟩),
  (161, ⟨false, 1, 8, [.v (.nilFunc)], .other⟩),
  (162, ⟨false, 1, 8, [.v (.nilFunc)], .other⟩),
  (163, ⟨false, 1, 8, [.v (.int .u64 0)], .int .u64⟩),
  (164, ⟨false, 1, 8, [.v (.nilFunc)], .other⟩),
  (165, ⟨false, 1, 8, [.v (.pointer none)], .other⟩),
  (166, ⟨true, 2, 48, [.v (.slice none 0 0), .v (.slice none 0 0)], .st [(0, 1), (1, 1)] false⟩),
  (167, ⟨true, 2, 48, [.v (.slice none 0 0), .v (.slice none 0 0)], .st [(0, 1), (1, 1)] false⟩),
  (168, ⟨false, 1, 8, [.v (.nilFunc)], .other⟩),
  (169, ⟨false, 1, 8, [.v (.pointer none)], .other⟩),
  (170, ⟨false, 1, 8, [.v (.nilFunc)], .other⟩),
  (171, ⟨false, 1, 8, [.v (.nilFunc)], .other⟩),
  (172, ⟨false, 1, 8, [.v (.nilFunc)], .other⟩),
  (173, ⟨false, 1, 8, [.v (.nilFunc)], .other⟩),
  (174, ⟨false, 1, 8, [.v (.nilFunc)], .other⟩),
  (175, ⟨false, 1, 24, [.v (.slice none 0 0)], .sl 110⟩),
  (176, ⟨false, 1, 8, [.v (.nilFunc)], .other⟩),
  (177, ⟨false, 1, 8, [.v (.nilFunc)], .other⟩),
  (178, ⟨false, 1, 8, [.v (.nilFunc)], .other⟩),
  (179, ⟨false, 1, 8, [.v (.nilFunc)], .other⟩),
  (180, ⟨false, 1, 8, [.v (.nilFunc)], .other⟩),
  (181, ⟨false, 1, 8, [.v (.nilFunc)], .other⟩),
  (182, ⟨false, 1, 8, [.v (.nilFunc)], .other⟩),
  (185, ⟨false, 1, 8, [.v (.nilFunc)], .other⟩),
  (186, ⟨false, 1, 8, [.v (.nilFunc)], .other⟩),
  (187, ⟨false, 1, 8, [.v (.nilFunc)], .other⟩),
  (188, ⟨false, 1, 8, [.v (.nilFunc)], .other⟩),
  (189, ⟨false, 1, 8, [.v (.nilFunc)], .other⟩),
  (190, ⟨false, 1, 24, [.v (.slice none 0 0)], .sl 169⟩),
  (191, ⟨true, 3, 40, [.v (.int .i64 0), .v (.int .i64 0), .v (.slice none 0 0)], .st [(0, 1), (1, 1), (2, 1)] false⟩),
  (192, ⟨true, 3, 40, [.v (.int .i64 0), .v (.int .i64 0), .v (.slice none 0 0)], .st [(0, 1), (1, 1), (2, 1)] false⟩),
  (193, ⟨false, 1, 8, [.v (.nilFunc)], .other⟩),
  (194, ⟨false, 1, 8, [.v (.nilFunc)], .other⟩),
  (195, ⟨false, 1, 8, [.v (.nilFunc)], .other⟩),
  (196, ⟨false, 1, 8, [.v (.nilFunc)], .other⟩),
  (197, ⟨false, 1, 8, [.v (.nilFunc)], .other⟩),
  (198, ⟨false, 1, 8, [.v (.nilFunc)], .other⟩),
  (199, ⟨false, 1, 8, [.v (.nilFunc)], .other⟩),
  (200, ⟨false, 1, 8, [.v (.nilFunc)], .other⟩),
  (201, ⟨false, 1, 8, [.v (.nilFunc)], .other⟩),
  (202, ⟨false, 1, 8, [.v (.int .i64 0)], .int .i64⟩),
  (204, ⟨false, 1, 8, [.v (.nilFunc)], .other⟩),
  (205, ⟨false, 1, 8, [.v (.nilFunc)], .other⟩),
  (206, ⟨false, 1, 8, [.v (.nilFunc)], .other⟩),
  (207, ⟨false, 1, 8, [.v (.nilFunc)], .other⟩),
  (208, ⟨false, 1, 8, [.v (.nilFunc)], .other⟩),
  (209, ⟨false, 1, 4, [.v (.int .u32 0)], .int .u32⟩),
  (210, ⟨false, 1, 8, [.v (.nilFunc)], .other⟩),
  (211, ⟨false, 1, 8, [.v (.int .u64 0)], .int .u64⟩),
  (212, ⟨false, 1, 8, [.v (.int .u64 0)], .int .u64⟩),
  (213, ⟨false, 1, 8, [.v (.nilFunc)], .other⟩),
  (214, ⟨false, 1, 8, [.v (.nilFunc)], .other⟩),
  (215, ⟨false, 1, 8, [.v (.nilFunc)], .other⟩),
  (216, ⟨false, 1, 8, [.v (.pointer none)], .other⟩),
  (217, ⟨false, 1, 8, [.v (.nilFunc)], .other⟩),
  (218, ⟨false, 1, 8, [.v (.pointer none)], .other⟩),
  (219, ⟨false, 1, 8, [.v (.nilFunc)], .other⟩),
  (220, ⟨false, 1, 8, [.v (.nilFunc)], .other⟩),
  (229, ⟨false, 1, 8, [.v (.pointer none)], .other⟩)]
def tab (t : Nat) : Option TI := lkp tabL t
theorem tab_ok : AllOk Try.prog tabL := ⟨tiok inferInstance inferInstance rfl rfl (trivial),
  tiok inferInstance inferInstance rfl rfl (rfl),
  tiok inferInstance inferInstance rfl rfl (rfl),
  tiok inferInstance inferInstance rfl rfl (rfl),
  tiok inferInstance inferInstance rfl rfl (rfl),
  tiok inferInstance inferInstance rfl rfl (trivial),
  tiok inferInstance inferInstance rfl rfl (rfl),
  tiok inferInstance inferInstance rfl rfl (kok_st inferInstance),
  tiok inferInstance inferInstance rfl rfl (rfl),
  tiok inferInstance inferInstance rfl rfl (rfl),
  tiok inferInstance inferInstance rfl rfl (rfl),
  tiok inferInstance inferInstance rfl rfl (kok_st inferInstance),
  tiok inferInstance inferInstance rfl rfl (kok_st inferInstance),
  tiok inferInstance inferInstance rfl rfl (rfl),
  tiok inferInstance inferInstance rfl rfl (kok_st2 inferInstance inferInstance inferInstance (by kernel_rfl)),
  tiok inferInstance inferInstance rfl rfl (kok_st2 inferInstance inferInstance inferInstance (by kernel_rfl)),
  tiok inferInstance inferInstance rfl rfl (trivial),
  tiok inferInstance inferInstance rfl rfl (trivial),
  tiok inferInstance inferInstance rfl rfl (trivial),
  tiok inferInstance inferInstance rfl rfl (trivial),
  tiok inferInstance inferInstance rfl rfl (trivial),
  tiok inferInstance inferInstance rfl rfl (rfl),
  tiok inferInstance inferInstance rfl rfl (rfl),
  tiok inferInstance inferInstance rfl rfl (kok_st inferInstance),
  tiok inferInstance inferInstance rfl rfl (kok_st inferInstance),
  tiok inferInstance inferInstance rfl rfl (trivial),
  tiok inferInstance inferInstance rfl rfl (trivial),
  tiok inferInstance inferInstance rfl rfl (trivial),
  tiok inferInstance inferInstance rfl rfl (trivial),
  tiok inferInstance inferInstance rfl rfl (trivial),
  tiok inferInstance inferInstance rfl rfl (trivial),
  tiok inferInstance inferInstance rfl rfl (trivial),
  tiok inferInstance inferInstance rfl rfl (trivial),
  tiok inferInstance inferInstance rfl rfl (trivial),
  tiok inferInstance inferInstance rfl rfl (trivial),
  tiok inferInstance inferInstance rfl rfl (trivial),
  tiok inferInstance inferInstance rfl rfl (trivial),
  tiok inferInstance inferInstance rfl rfl (trivial),
  tiok inferInstance inferInstance rfl rfl (trivial),
  tiok inferInstance inferInstance rfl rfl (trivial),
  tiok inferInstance inferInstance rfl rfl (kok_st inferInstance),
  tiok inferInstance inferInstance rfl rfl (kok_st inferInstance),
  tiok inferInstance inferInstance rfl rfl (trivial),
  tiok inferInstance inferInstance rfl rfl (trivial),
  tiok inferInstance inferInstance rfl rfl (trivial),
  tiok inferInstance inferInstance rfl rfl (trivial),
  tiok inferInstance inferInstance rfl rfl (kok_st inferInstance),
  tiok inferInstance inferInstance rfl rfl (kok_st inferInstance),
  tiok inferInstance inferInstance rfl rfl (trivial),
  tiok inferInstance inferInstance rfl rfl (trivial),
  tiok inferInstance inferInstance rfl rfl (trivial),
  tiok inferInstance inferInstance rfl rfl (trivial),
  tiok inferInstance inferInstance rfl rfl (trivial),
  tiok inferInstance inferInstance rfl rfl (trivial),
  tiok inferInstance inferInstance rfl rfl (trivial),
  tiok inferInstance inferInstance rfl rfl (trivial),
  tiok inferInstance inferInstance rfl rfl (trivial),
  tiok inferInstance inferInstance rfl rfl (kok_st inferInstance),
  tiok inferInstance inferInstance rfl rfl (kok_st inferInstance),
  tiok inferInstance inferInstance rfl rfl (rfl),
  tiok inferInstance inferInstance rfl rfl (trivial),
  tiok inferInstance inferInstance rfl rfl (kok_st inferInstance),
  tiok inferInstance inferInstance rfl rfl (kok_st inferInstance),
  tiok inferInstance inferInstance rfl rfl (trivial),
  tiok inferInstance inferInstance rfl rfl (trivial),
  tiok inferInstance inferInstance rfl rfl (trivial),
  tiok inferInstance inferInstance rfl rfl (trivial),
  tiok inferInstance inferInstance rfl rfl (trivial),
  tiok inferInstance inferInstance rfl rfl (trivial),
  tiok inferInstance inferInstance rfl rfl (trivial),
  tiok inferInstance inferInstance rfl rfl (trivial),
  tiok inferInstance inferInstance rfl rfl (trivial),
  tiok inferInstance inferInstance rfl rfl (trivial),
  tiok inferInstance inferInstance rfl rfl (kok_st2 inferInstance inferInstance inferInstance (by kernel_rfl)),
  tiok inferInstance inferInstance rfl rfl (kok_st2 inferInstance inferInstance inferInstance (by kernel_rfl)),
  tiok inferInstance inferInstance rfl rfl (kok_st inferInstance),
  tiok inferInstance inferInstance rfl rfl (kok_st inferInstance),
  tiok inferInstance inferInstance rfl rfl (trivial),
  tiok inferInstance inferInstance rfl rfl (trivial),
  tiok inferInstance inferInstance rfl rfl (trivial),
  tiok inferInstance inferInstance rfl rfl (trivial),
  tiok inferInstance inferInstance rfl rfl (trivial),
  tiok inferInstance inferInstance rfl rfl (trivial),
  tiok inferInstance inferInstance rfl rfl (trivial),
  tiok inferInstance inferInstance rfl rfl (trivial),
  tiok inferInstance inferInstance rfl rfl (trivial),
  tiok inferInstance inferInstance rfl rfl (⟨rfl, fun _ => ⟨rfl, ⟨_, inferInstance⟩, by kernel_rfl, by kernel_rfl, by kernel_rfl⟩⟩),
  tiok inferInstance inferInstance rfl rfl (rfl),
  tiok inferInstance inferInstance rfl rfl (trivial),
  tiok inferInstance inferInstance rfl rfl (trivial),
  tiok inferInstance inferInstance rfl rfl (trivial),
  tiok inferInstance inferInstance rfl rfl (trivial),
  tiok inferInstance inferInstance rfl rfl (trivial),
  tiok inferInstance inferInstance rfl rfl (trivial),
  tiok inferInstance inferInstance rfl rfl (trivial),
  tiok inferInstance inferInstance rfl rfl (trivial),
  tiok inferInstance inferInstance rfl rfl (trivial),
  tiok inferInstance inferInstance rfl rfl (trivial),
  tiok inferInstance inferInstance rfl rfl (trivial),
  tiok inferInstance inferInstance rfl rfl (trivial),
  tiok inferInstance inferInstance rfl rfl (trivial),
  tiok inferInstance inferInstance rfl rfl (trivial),
  tiok inferInstance inferInstance rfl rfl (trivial),
  tiok inferInstance inferInstance rfl rfl (trivial),
  tiok inferInstance inferInstance rfl rfl (trivial),
  tiok inferInstance inferInstance rfl rfl (trivial),
  tiok inferInstance inferInstance rfl rfl (trivial),
  tiok inferInstance inferInstance rfl rfl (trivial),
  tiok inferInstance inferInstance rfl rfl (trivial),
  tiok inferInstance inferInstance rfl rfl (trivial),
  tiok inferInstance inferInstance rfl rfl (trivial),
  tiok inferInstance inferInstance rfl rfl (trivial),
  tiok inferInstance inferInstance rfl rfl (trivial),
  tiok inferInstance inferInstance rfl rfl (trivial),
  tiok inferInstance inferInstance rfl rfl (trivial),
  tiok inferInstance inferInstance rfl rfl (trivial),
  tiok inferInstance inferInstance rfl rfl (kok_st inferInstance),
  tiok inferInstance inferInstance rfl rfl (kok_st inferInstance),
  tiok inferInstance inferInstance rfl rfl (trivial),
  tiok inferInstance inferInstance rfl rfl (trivial),
  tiok inferInstance inferInstance rfl rfl (trivial),
  tiok inferInstance inferInstance rfl rfl (trivial),
  tiok inferInstance inferInstance rfl rfl (trivial),
  tiok inferInstance inferInstance rfl rfl (trivial),
  tiok inferInstance inferInstance rfl rfl (trivial),
  tiok inferInstance inferInstance rfl rfl (trivial),
  tiok inferInstance inferInstance rfl rfl (trivial),
  tiok inferInstance inferInstance rfl rfl (kok_st inferInstance),
  tiok inferInstance inferInstance rfl rfl (kok_st inferInstance),
  tiok inferInstance inferInstance rfl rfl (rfl),
  tiok inferInstance inferInstance rfl rfl (trivial),
  tiok inferInstance inferInstance rfl rfl (trivial),
  tiok inferInstance inferInstance rfl rfl (kok_st inferInstance),
  tiok inferInstance inferInstance rfl rfl (kok_st inferInstance),
  tiok inferInstance inferInstance rfl rfl (trivial),
  tiok inferInstance inferInstance rfl rfl (trivial),
  tiok inferInstance inferInstance rfl rfl (trivial),
  tiok inferInstance inferInstance rfl rfl (trivial),
  tiok inferInstance inferInstance rfl rfl (rfl),
  tiok inferInstance inferInstance rfl rfl (trivial),
  tiok inferInstance inferInstance rfl rfl (trivial),
  tiok inferInstance inferInstance rfl rfl (kok_st inferInstance),
  tiok inferInstance inferInstance rfl rfl (kok_st inferInstance),
  tiok inferInstance inferInstance rfl rfl (trivial),
  tiok inferInstance inferInstance rfl rfl (trivial),
  tiok inferInstance inferInstance rfl rfl (trivial),
  tiok inferInstance inferInstance rfl rfl (trivial),
  tiok inferInstance inferInstance rfl rfl (trivial),
  tiok inferInstance inferInstance rfl rfl (trivial),
  tiok inferInstance inferInstance rfl rfl (trivial),
  tiok inferInstance inferInstance rfl rfl (rfl),
  tiok inferInstance inferInstance rfl rfl (trivial),
  tiok inferInstance inferInstance rfl rfl (trivial),
  tiok inferInstance inferInstance rfl rfl (trivial),
  tiok inferInstance inferInstance rfl rfl (trivial),
  tiok inferInstance inferInstance rfl rfl (trivial),
  tiok inferInstance inferInstance rfl rfl (trivial),
  tiok inferInstance inferInstance rfl rfl (trivial),
  tiok inferInstance inferInstance rfl rfl (trivial),
  tiok inferInstance inferInstance rfl rfl (trivial),
  tiok inferInstance inferInstance rfl rfl (trivial),
  tiok inferInstance inferInstance rfl rfl (trivial),
  tiok inferInstance inferInstance rfl rfl (trivial),
  tiok inferInstance inferInstance rfl rfl (rfl),
  tiok inferInstance inferInstance rfl rfl (kok_st inferInstance),
  tiok inferInstance inferInstance rfl rfl (kok_st inferInstance),
  tiok inferInstance inferInstance rfl rfl (trivial),
  tiok inferInstance inferInstance rfl rfl (trivial),
  tiok inferInstance inferInstance rfl rfl (trivial),
  tiok inferInstance inferInstance rfl rfl (trivial),
  tiok inferInstance inferInstance rfl rfl (trivial),
  tiok inferInstance inferInstance rfl rfl (trivial),
  tiok inferInstance inferInstance rfl rfl (trivial),
  tiok inferInstance inferInstance rfl rfl (trivial),
  tiok inferInstance inferInstance rfl rfl (trivial),
  tiok inferInstance inferInstance rfl rfl (rfl),
  tiok inferInstance inferInstance rfl rfl (trivial),
  tiok inferInstance inferInstance rfl rfl (trivial),
  tiok inferInstance inferInstance rfl rfl (trivial),
  tiok inferInstance inferInstance rfl rfl (trivial),
  tiok inferInstance inferInstance rfl rfl (trivial),
  tiok inferInstance inferInstance rfl rfl (rfl),
  tiok inferInstance inferInstance rfl rfl (trivial),
  tiok inferInstance inferInstance rfl rfl (rfl),
  tiok inferInstance inferInstance rfl rfl (rfl),
  tiok inferInstance inferInstance rfl rfl (trivial),
  tiok inferInstance inferInstance rfl rfl (trivial),
  tiok inferInstance inferInstance rfl rfl (trivial),
  tiok inferInstance inferInstance rfl rfl (trivial),
  tiok inferInstance inferInstance rfl rfl (trivial),
  tiok inferInstance inferInstance rfl rfl (trivial),
  tiok inferInstance inferInstance rfl rfl (trivial),
  tiok inferInstance inferInstance rfl rfl (trivial),
  tiok inferInstance inferInstance rfl rfl (trivial), trivial⟩
instance : Tb Try.prog tab := ⟨fun _ _ h => lkp_ok tab_ok h⟩
@[go_sem] theorem tt : tab 1 = some ⟨false, 1, 8, [.v (.nilFunc)], .other⟩ ∧
  tab 2 = some ⟨false, 1, 8, [.v (.int .i64 0)], .int .i64⟩ ∧
  tab 3 = some ⟨false, 1, 8, [.v (.int .i64 0)], .int .i64⟩ ∧
  tab 4 = some ⟨false, 1, 1, [.v (.bool false)], .bool⟩ ∧
  tab 5 = some ⟨false, 1, 1, [.v (.int .u8 0)], .int .u8⟩ ∧
  tab 9 = some ⟨false, 1, 16, [.v (.string ⟨#[]⟩)], .other⟩ ∧
  tab 12 = some ⟨false, 1, 8, [.v (.int .u64 0)], .int .u64⟩ ∧
  tab 13 = some ⟨true, 2, 24, [.v (.string ⟨#[]⟩), .v (.int .u64 0)], .st [(0, 1), (1, 1)] false⟩ ∧
  tab 21 = some ⟨false, 1, 4, [.v (.int .i32 0)], .int .i32⟩ ∧
  tab 22 = some ⟨false, 1, 24, [.v (.slice none 0 0)], .sl 3⟩ ∧
  tab 23 = some ⟨false, 1, 24, [.v (.slice none 0 0)], .sl 59⟩ ∧
  tab 24 = some ⟨true, 4, 80, [.v (.int .i64 0), .v (.slice none 0 0), .v (.slice none 0 0), .v (.slice none 0 0)], .st [(0, 1), (1, 1), (2, 1), (3, 1)] false⟩ ∧
  tab 25 = some ⟨true, 4, 80, [.v (.int .i64 0), .v (.slice none 0 0), .v (.slice none 0 0), .v (.slice none 0 0)], .st [(0, 1), (1, 1), (2, 1), (3, 1)] false⟩ ∧
  tab 26 = some ⟨false, 1, 24, [.v (.slice none 0 0)], .sl 22⟩ ∧
  tab 27 = some ⟨true, 2, 16, [.v (.int .i64 0), .v (.int .i64 0)], .st [(0, 1), (1, 1)] true⟩ ∧
  tab 28 = some ⟨true, 2, 16, [.v (.int .i64 0), .v (.int .i64 0)], .st [(0, 1), (1, 1)] true⟩ ∧
  tab 29 = some ⟨false, 1, 8, [.v (.nilFunc)], .other⟩ ∧
  tab 31 = some ⟨false, 1, 8, [.v (.nilFunc)], .other⟩ ∧
  tab 32 = some ⟨false, 1, 8, [.v (.nilFunc)], .other⟩ ∧
  tab 33 = some ⟨false, 1, 8, [.v (.nilFunc)], .other⟩ ∧
  tab 34 = some ⟨false, 1, 8, [.v (.nilFunc)], .other⟩ ∧
  tab 35 = some ⟨false, 1, 24, [.v (.slice none 0 0)], .sl 95⟩ ∧
  tab 36 = some ⟨false, 1, 24, [.v (.slice none 0 0)], .sl 97⟩ ∧
  tab 37 = some ⟨true, 4, 96, [.v (.slice none 0 0), .v (.slice none 0 0), .v (.slice none 0 0), .v (.slice none 0 0)], .st [(0, 1), (1, 1), (2, 1), (3, 1)] false⟩ ∧
  tab 38 = some ⟨true, 4, 96, [.v (.slice none 0 0), .v (.slice none 0 0), .v (.slice none 0 0), .v (.slice none 0 0)], .st [(0, 1), (1, 1), (2, 1), (3, 1)] false⟩ ∧
  tab 40 = some ⟨false, 1, 8, [.v (.nilFunc)], .other⟩ ∧
  tab 41 = some ⟨false, 1, 8, [.v (.nilFunc)], .other⟩ ∧
  tab 42 = some ⟨false, 1, 8, [.v (.nilFunc)], .other⟩ ∧
  tab 43 = some ⟨false, 1, 8, [.v (.nilFunc)], .other⟩ ∧
  tab 44 = some ⟨false, 1, 8, [.v (.nilFunc)], .other⟩ ∧
  tab 45 = some ⟨false, 1, 8, [.v (.nilFunc)], .other⟩ ∧
  tab 47 = some ⟨false, 1, 8, [.v (.nilFunc)], .other⟩ ∧
  tab 49 = some ⟨false, 1, 8, [.v (.nilFunc)], .other⟩ ∧
  tab 50 = some ⟨false, 1, 8, [.v (.nilFunc)], .other⟩ ∧
  tab 52 = some ⟨false, 1, 8, [.v (.nilFunc)], .other⟩ ∧
  tab 53 = some ⟨false, 1, 8, [.v (.nilFunc)], .other⟩ ∧
  tab 54 = some ⟨false, 1, 8, [.v (.nilFunc)], .other⟩ ∧
  tab 55 = some ⟨false, 1, 8, [.v (.nilFunc)], .other⟩ ∧
  tab 56 = some ⟨false, 1, 8, [.v (.nilFunc)], .other⟩ ∧
  tab 57 = some ⟨false, 1, 8, [.v (.nilFunc)], .other⟩ ∧
  tab 58 = some ⟨true, 4, 80, [.v (.slice none 0 0), .v (.slice none 0 0), .v (.slice none 0 0), .v (.int .i64 0)], .st [(0, 1), (1, 1), (2, 1), (3, 1)] false⟩ ∧
  tab 59 = some ⟨true, 4, 80, [.v (.slice none 0 0), .v (.slice none 0 0), .v (.slice none 0 0), .v (.int .i64 0)], .st [(0, 1), (1, 1), (2, 1), (3, 1)] false⟩ ∧
  tab 60 = some ⟨false, 1, 8, [.v (.nilFunc)], .other⟩ ∧
  tab 61 = some ⟨false, 1, 8, [.v (.nilFunc)], .other⟩ ∧
  tab 62 = some ⟨false, 1, 8, [.v (.nilFunc)], .other⟩ ∧
  tab 63 = some ⟨false, 1, 8, [.v (.nilFunc)], .other⟩ ∧
  tab 64 = some ⟨true, 4, 48, [.v (.bool false), .v (.slice none 0 0), .v (.int .i64 0), .v (.int .i64 0)], .st [(0, 1), (1, 1), (2, 1), (3, 1)] false⟩ ∧
  tab 65 = some ⟨true, 4, 48, [.v (.bool false), .v (.slice none 0 0), .v (.int .i64 0), .v (.int .i64 0)], .st [(0, 1), (1, 1), (2, 1), (3, 1)] false⟩ ∧
  tab 67 = some ⟨false, 1, 8, [.v (.nilFunc)], .other⟩ ∧
  tab 69 = some ⟨false, 1, 8, [.v (.nilFunc)], .other⟩ ∧
  tab 70 = some ⟨false, 1, 8, [.v (.nilFunc)], .other⟩ ∧
  tab 71 = some ⟨false, 1, 8, [.v (.nilFunc)], .other⟩ ∧
  tab 72 = some ⟨false, 1, 8, [.v (.nilFunc)], .other⟩ ∧
  tab 73 = some ⟨false, 1, 8, [.v (.nilFunc)], .other⟩ ∧
  tab 74 = some ⟨false, 1, 8, [.v (.nilFunc)], .other⟩ ∧
  tab 75 = some ⟨false, 1, 8, [.v (.nilFunc)], .other⟩ ∧
  tab 76 = some ⟨false, 1, 8, [.v (.nilFunc)], .other⟩ ∧
  tab 77 = some ⟨true, 3, 40, [.v (.int .i64 0), .v (.slice none 0 0), .v (.int .i64 0)], .st [(0, 1), (1, 1), (2, 1)] false⟩ ∧
  tab 78 = some ⟨true, 3, 40, [.v (.int .i64 0), .v (.slice none 0 0), .v (.int .i64 0)], .st [(0, 1), (1, 1), (2, 1)] false⟩ ∧
  tab 79 = some ⟨false, 1, 24, [.v (.slice none 0 0)], .sl 78⟩ ∧
  tab 80 = some ⟨false, 1, 8, [.v (.nilFunc)], .other⟩ ∧
  tab 81 = some ⟨true, 1, 24, [.v (.slice none 0 0)], .st [(0, 1)] false⟩ ∧
  tab 82 = some ⟨true, 1, 24, [.v (.slice none 0 0)], .st [(0, 1)] false⟩ ∧
  tab 83 = some ⟨false, 1, 8, [.v (.nilFunc)], .other⟩ ∧
  tab 84 = some ⟨false, 1, 8, [.v (.nilFunc)], .other⟩ ∧
  tab 85 = some ⟨false, 1, 8, [.v (.nilFunc)], .other⟩ ∧
  tab 87 = some ⟨false, 1, 8, [.v (.nilFunc)], .other⟩ ∧
  tab 88 = some ⟨false, 1, 8, [.v (.nilFunc)], .other⟩ ∧
  tab 89 = some ⟨false, 1, 8, [.v (.nilFunc)], .other⟩ ∧
  tab 90 = some ⟨false, 1, 8, [.v (.nilFunc)], .other⟩ ∧
  tab 91 = some ⟨false, 1, 8, [.v (.nilFunc)], .other⟩ ∧
  tab 92 = some ⟨false, 1, 8, [.v (.nilFunc)], .other⟩ ∧
  tab 93 = some ⟨false, 1, 8, [.v (.nilFunc)], .other⟩ ∧
  tab 94 = some ⟨true, 2, 16, [.v (.int .i64 0), .v (.int .i64 0)], .st [(0, 1), (1, 1)] true⟩ ∧
  tab 95 = some ⟨true, 2, 16, [.v (.int .i64 0), .v (.int .i64 0)], .st [(0, 1), (1, 1)] true⟩ ∧
  tab 96 = some ⟨true, 3, 56, [.v (.slice none 0 0), .v (.slice none 0 0), .v (.int .i64 0)], .st [(0, 1), (1, 1), (2, 1)] false⟩ ∧
  tab 97 = some ⟨true, 3, 56, [.v (.slice none 0 0), .v (.slice none 0 0), .v (.int .i64 0)], .st [(0, 1), (1, 1), (2, 1)] false⟩ ∧
  tab 98 = some ⟨false, 1, 8, [.v (.nilFunc)], .other⟩ ∧
  tab 99 = some ⟨false, 1, 8, [.v (.nilFunc)], .other⟩ ∧
  tab 100 = some ⟨false, 1, 8, [.v (.nilFunc)], .other⟩ ∧
  tab 101 = some ⟨false, 1, 8, [.v (.nilFunc)], .other⟩ ∧
  tab 102 = some ⟨false, 1, 8, [.v (.nilFunc)], .other⟩ ∧
  tab 103 = some ⟨false, 1, 8, [.v (.nilFunc)], .other⟩ ∧
  tab 105 = some ⟨false, 1, 8, [.v (.nilFunc)], .other⟩ ∧
  tab 107 = some ⟨false, 1, 8, [.v (.nilFunc)], .other⟩ ∧
  tab 108 = some ⟨false, 1, 8, [.v (.nilFunc)], .other⟩ ∧
  tab 109 = some ⟨true, 2, 16, [.v (.int .i64 0), .v (.int .i64 0)], .ar 2 3 true⟩ ∧
  tab 110 = some ⟨false, 1, 24, [.v (.slice none 0 0)], .sl 4⟩ ∧
  tab 111 = some ⟨false, 1, 8, [.v (.nilFunc)], .other⟩ ∧
  tab 112 = some ⟨false, 1, 8, [.v (.nilFunc)], .other⟩ := by
  refine ⟨?_, ?_, ?_, ?_, ?_, ?_, ?_, ?_, ?_, ?_, ?_, ?_, ?_, ?_, ?_, ?_, ?_, ?_, ?_, ?_, ?_, ?_, ?_, ?_, ?_, ?_, ?_, ?_, ?_, ?_, ?_, ?_, ?_, ?_, ?_, ?_, ?_, ?_, ?_, ?_, ?_, ?_, ?_, ?_, ?_, ?_, ?_, ?_, ?_, ?_, ?_, ?_, ?_, ?_, ?_, ?_, ?_, ?_, ?_, ?_, ?_, ?_, ?_, ?_, ?_, ?_, ?_, ?_, ?_, ?_, ?_, ?_, ?_, ?_, ?_, ?_, ?_, ?_, ?_, ?_, ?_, ?_, ?_, ?_, ?_, ?_, ?_, ?_, ?_, ?_⟩ <;> rfl
@[go_sem] theorem tt2 : tab 113 = some ⟨false, 1, 8, [.v (.nilFunc)], .other⟩ ∧
  tab 114 = some ⟨false, 1, 8, [.v (.nilFunc)], .other⟩ ∧
  tab 115 = some ⟨false, 1, 8, [.v (.nilFunc)], .other⟩ ∧
  tab 116 = some ⟨false, 1, 8, [.v (.nilFunc)], .other⟩ ∧
  tab 117 = some ⟨false, 1, 8, [.v (.nilFunc)], .other⟩ ∧
  tab 118 = some ⟨false, 1, 8, [.v (.nilFunc)], .other⟩ ∧
  tab 119 = some ⟨false, 1, 8, [.v (.nilFunc)], .other⟩ ∧
  tab 120 = some ⟨false, 1, 8, [.v (.nilFunc)], .other⟩ ∧
  tab 121 = some ⟨false, 1, 8, [.v (.nilFunc)], .other⟩ ∧
  tab 123 = some ⟨false, 1, 8, [.v (.nilFunc)], .other⟩ ∧
  tab 124 = some ⟨false, 1, 8, [.v (.nilFunc)], .other⟩ ∧
  tab 125 = some ⟨false, 1, 8, [.v (.nilFunc)], .other⟩ ∧
  tab 126 = some ⟨false, 1, 8, [.v (.nilFunc)], .other⟩ ∧
  tab 127 = some ⟨false, 1, 8, [.v (.nilFunc)], .other⟩ ∧
  tab 128 = some ⟨false, 1, 8, [.v (.nilFunc)], .other⟩ ∧
  tab 129 = some ⟨false, 1, 8, [.v (.nilFunc)], .other⟩ ∧
  tab 130 = some ⟨false, 1, 8, [.v (.nilFunc)], .other⟩ ∧
  tab 131 = some ⟨false, 1, 8, [.v (.nilFunc)], .other⟩ ∧
  tab 132 = some ⟨false, 1, 8, [.v (.nilFunc)], .other⟩ ∧
  tab 133 = some ⟨false, 1, 8, [.v (.nilFunc)], .other⟩ ∧
  tab 134 = some ⟨false, 1, 8, [.v (.nilFunc)], .other⟩ ∧
  tab 135 = some ⟨false, 1, 8, [.v (.nilFunc)], .other⟩ ∧
  tab 136 = some ⟨false, 1, 8, [.v (.nilFunc)], .other⟩ ∧
  tab 137 = some ⟨false, 1, 8, [.v (.nilFunc)], .other⟩ ∧
  tab 139 = some ⟨false, 1, 8, [.v (.nilFunc)], .other⟩ ∧
  tab 140 = some ⟨false, 1, 8, [.v (.nilFunc)], .other⟩ ∧
  tab 141 = some ⟨true, 3, 24, [.v (.bool false), .v (.int .i64 0), .v (.nilFunc)], .st [(0, 1), (1, 1), (2, 1)] false⟩ ∧
  tab 142 = some ⟨true, 3, 24, [.v (.bool false), .v (.int .i64 0), .v (.nilFunc)], .st [(0, 1), (1, 1), (2, 1)] false⟩ ∧
  tab 143 = some ⟨false, 1, 8, [.v (.nilFunc)], .other⟩ ∧
  tab 144 = some ⟨false, 1, 8, [.v (.nilFunc)], .other⟩ ∧
  tab 145 = some ⟨false, 1, 8, [.v (.nilFunc)], .other⟩ ∧
  tab 146 = some ⟨false, 1, 8, [.v (.nilFunc)], .other⟩ ∧
  tab 147 = some ⟨false, 1, 8, [.v (.nilFunc)], .other⟩ ∧
  tab 148 = some ⟨false, 1, 8, [.v (.nilFunc)], .other⟩ ∧
  tab 149 = some ⟨false, 1, 8, [.v (.nilFunc)], .other⟩ ∧
  tab 150 = some ⟨false, 1, 8, [.v (.nilFunc)], .other⟩ ∧
  tab 151 = some ⟨false, 1, 8, [.v (.map none)], .other⟩ ∧
  tab 152 = some ⟨true, 4, 48, [.v (.slice none 0 0), .v (.int .i64 0), .v (.int .i64 0), .v (.int .i64 0)], .st [(0, 1), (1, 1), (2, 1), (3, 1)] false⟩ ∧
  tab 153 = some ⟨true, 4, 48, [.v (.slice none 0 0), .v (.int .i64 0), .v (.int .i64 0), .v (.int .i64 0)], .st [(0, 1), (1, 1), (2, 1), (3, 1)] false⟩ ∧
  tab 154 = some ⟨false, 1, 24, [.v (.slice none 0 0)], .sl 153⟩ ∧
  tab 155 = some ⟨false, 1, 8, [.v (.pointer none)], .other⟩ ∧
  tab 156 = some ⟨false, 1, 8, [.v (.pointer none)], .other⟩ ∧
  tab 157 = some ⟨true, 2, 32, [.v (.pointer none), .v (.slice none 0 0)], .st [(0, 1), (1, 1)] false⟩ ∧
  tab 158 = some ⟨true, 2, 32, [.v (.pointer none), .v (.slice none 0 0)], .st [(0, 1), (1, 1)] false⟩ ∧
  tab 159 = some ⟨false, 1, 8, [.v (.nilFunc)], .other⟩ ∧
  tab 160 = some ⟨false, 1, 8, [.v (.nilFunc)], .other⟩ ∧
  tab 161 = some ⟨false, 1, 8, [.v (.nilFunc)], .other⟩ ∧
  tab 162 = some ⟨false, 1, 8, [.v (.nilFunc)], .other⟩ ∧
  tab 163 = some ⟨false, 1, 8, [.v (.int .u64 0)], .int .u64⟩ ∧
  tab 164 = some ⟨false, 1, 8, [.v (.nilFunc)], .other⟩ ∧
  tab 165 = some ⟨false, 1, 8, [.v (.pointer none)], .other⟩ ∧
  tab 166 = some ⟨true, 2, 48, [.v (.slice none 0 0), .v (.slice none 0 0)], .st [(0, 1), (1, 1)] false⟩ ∧
  tab 167 = some ⟨true, 2, 48, [.v (.slice none 0 0), .v (.slice none 0 0)], .st [(0, 1), (1, 1)] false⟩ ∧
  tab 168 = some ⟨false, 1, 8, [.v (.nilFunc)], .other⟩ ∧
  tab 169 = some ⟨false, 1, 8, [.v (.pointer none)], .other⟩ ∧
  tab 170 = some ⟨false, 1, 8, [.v (.nilFunc)], .other⟩ ∧
  tab 171 = some ⟨false, 1, 8, [.v (.nilFunc)], .other⟩ ∧
  tab 172 = some ⟨false, 1, 8, [.v (.nilFunc)], .other⟩ ∧
  tab 173 = some ⟨false, 1, 8, [.v (.nilFunc)], .other⟩ ∧
  tab 174 = some ⟨false, 1, 8, [.v (.nilFunc)], .other⟩ ∧
  tab 175 = some ⟨false, 1, 24, [.v (.slice none 0 0)], .sl 110⟩ ∧
  tab 176 = some ⟨false, 1, 8, [.v (.nilFunc)], .other⟩ ∧
  tab 177 = some ⟨false, 1, 8, [.v (.nilFunc)], .other⟩ ∧
  tab 178 = some ⟨false, 1, 8, [.v (.nilFunc)], .other⟩ ∧
  tab 179 = some ⟨false, 1, 8, [.v (.nilFunc)], .other⟩ ∧
  tab 180 = some ⟨false, 1, 8, [.v (.nilFunc)], .other⟩ ∧
  tab 181 = some ⟨false, 1, 8, [.v (.nilFunc)], .other⟩ ∧
  tab 182 = some ⟨false, 1, 8, [.v (.nilFunc)], .other⟩ ∧
  tab 185 = some ⟨false, 1, 8, [.v (.nilFunc)], .other⟩ ∧
  tab 186 = some ⟨false, 1, 8, [.v (.nilFunc)], .other⟩ ∧
  tab 187 = some ⟨false, 1, 8, [.v (.nilFunc)], .other⟩ ∧
  tab 188 = some ⟨false, 1, 8, [.v (.nilFunc)], .other⟩ ∧
  tab 189 = some ⟨false, 1, 8, [.v (.nilFunc)], .other⟩ ∧
  tab 190 = some ⟨false, 1, 24, [.v (.slice none 0 0)], .sl 169⟩ ∧
  tab 191 = some ⟨true, 3, 40, [.v (.int .i64 0), .v (.int .i64 0), .v (.slice none 0 0)], .st [(0, 1), (1, 1), (2, 1)] false⟩ ∧
  tab 192 = some ⟨true, 3, 40, [.v (.int .i64 0), .v (.int .i64 0), .v (.slice none 0 0)], .st [(0, 1), (1, 1), (2, 1)] false⟩ ∧
  tab 193 = some ⟨false, 1, 8, [.v (.nilFunc)], .other⟩ ∧
  tab 194 = some ⟨false, 1, 8, [.v (.nilFunc)], .other⟩ ∧
  tab 195 = some ⟨false, 1, 8, [.v (.nilFunc)], .other⟩ ∧
  tab 196 = some ⟨false, 1, 8, [.v (.nilFunc)], .other⟩ ∧
  tab 197 = some ⟨false, 1, 8, [.v (.nilFunc)], .other⟩ ∧
  tab 198 = some ⟨false, 1, 8, [.v (.nilFunc)], .other⟩ ∧
  tab 199 = some ⟨false, 1, 8, [.v (.nilFunc)], .other⟩ ∧
  tab 200 = some ⟨false, 1, 8, [.v (.nilFunc)], .other⟩ ∧
  tab 201 = some ⟨false, 1, 8, [.v (.nilFunc)], .other⟩ ∧
  tab 202 = some ⟨false, 1, 8, [.v (.int .i64 0)], .int .i64⟩ ∧
  tab 204 = some ⟨false, 1, 8, [.v (.nilFunc)], .other⟩ ∧
  tab 205 = some ⟨false, 1, 8, [.v (.nilFunc)], .other⟩ ∧
  tab 206 = some ⟨false, 1, 8, [.v (.nilFunc)], .other⟩ ∧
  tab 207 = some ⟨false, 1, 8, [.v (.nilFunc)], .other⟩ := by
  refine ⟨?_, ?_, ?_, ?_, ?_, ?_, ?_, ?_, ?_, ?_, ?_, ?_, ?_, ?_, ?_, ?_, ?_, ?_, ?_, ?_, ?_, ?_, ?_, ?_, ?_, ?_, ?_, ?_, ?_, ?_, ?_, ?_, ?_, ?_, ?_, ?_, ?_, ?_, ?_, ?_, ?_, ?_, ?_, ?_, ?_, ?_, ?_, ?_, ?_, ?_, ?_, ?_, ?_, ?_, ?_, ?_, ?_, ?_, ?_, ?_, ?_, ?_, ?_, ?_, ?_, ?_, ?_, ?_, ?_, ?_, ?_, ?_, ?_, ?_, ?_, ?_, ?_, ?_, ?_, ?_, ?_, ?_, ?_, ?_, ?_, ?_, ?_, ?_, ?_, ?_⟩ <;> rfl
@[go_sem] theorem tt3 : tab 208 = some ⟨false, 1, 8, [.v (.nilFunc)], .other⟩ ∧
  tab 209 = some ⟨false, 1, 4, [.v (.int .u32 0)], .int .u32⟩ ∧
  tab 210 = some ⟨false, 1, 8, [.v (.nilFunc)], .other⟩ ∧
  tab 211 = some ⟨false, 1, 8, [.v (.int .u64 0)], .int .u64⟩ ∧
  tab 212 = some ⟨false, 1, 8, [.v (.int .u64 0)], .int .u64⟩ ∧
  tab 213 = some ⟨false, 1, 8, [.v (.nilFunc)], .other⟩ ∧
  tab 214 = some ⟨false, 1, 8, [.v (.nilFunc)], .other⟩ ∧
  tab 215 = some ⟨false, 1, 8, [.v (.nilFunc)], .other⟩ ∧
  tab 216 = some ⟨false, 1, 8, [.v (.pointer none)], .other⟩ ∧
  tab 217 = some ⟨false, 1, 8, [.v (.nilFunc)], .other⟩ ∧
  tab 218 = some ⟨false, 1, 8, [.v (.pointer none)], .other⟩ ∧
  tab 219 = some ⟨false, 1, 8, [.v (.nilFunc)], .other⟩ ∧
  tab 220 = some ⟨false, 1, 8, [.v (.nilFunc)], .other⟩ ∧
  tab 229 = some ⟨false, 1, 8, [.v (.pointer none)], .other⟩ := by
  refine ⟨?_, ?_, ?_, ?_, ?_, ?_, ?_, ?_, ?_, ?_, ?_, ?_, ?_, ?_⟩ <;> rfl
instance : TyC Try.prog 3 := tyC_of Try.func3 (by kernel_rfl) (by kernel_rfl)
instance : TyC Try.prog 4 := tyC_of Try.func4 (by kernel_rfl) (by kernel_rfl)
instance : TyC Try.prog 5 := tyC_of Try.func5 (by kernel_rfl) (by kernel_rfl)
instance : TyC Try.prog 6 := tyC_of Try.func6 (by kernel_rfl) (by kernel_rfl)
instance : TyC Try.prog 7 := tyC_of Try.func7 (by kernel_rfl) (by kernel_rfl)
instance : TyC Try.prog 8 := tyC_of Try.func8 (by kernel_rfl) (by kernel_rfl)
instance : TyC Try.prog 9 := tyC_of Try.func9 (by kernel_rfl) (by kernel_rfl)
instance : TyC Try.prog 10 := tyC_of Try.func10 (by kernel_rfl) (by kernel_rfl)
instance : TyC Try.prog 11 := tyC_of Try.func11 (by kernel_rfl) (by kernel_rfl)
instance : TyC Try.prog 12 := tyC_of Try.func12 (by kernel_rfl) (by kernel_rfl)
instance : TyC Try.prog 13 := tyC_of Try.func13 (by kernel_rfl) (by kernel_rfl)
instance : TyC Try.prog 14 := tyC_of Try.func14 (by kernel_rfl) (by kernel_rfl)
instance : TyC Try.prog 15 := tyC_of Try.func15 (by kernel_rfl) (by kernel_rfl)
instance : TyC Try.prog 16 := tyC_of Try.func16 (by kernel_rfl) (by kernel_rfl)
instance : TyC Try.prog 17 := tyC_of Try.func17 (by kernel_rfl) (by kernel_rfl)
instance : TyC Try.prog 18 := tyC_of Try.func18 (by kernel_rfl) (by kernel_rfl)
instance : TyC Try.prog 19 := tyC_of Try.func19 (by kernel_rfl) (by kernel_rfl)
instance : TyC Try.prog 20 := tyC_of Try.func20 (by kernel_rfl) (by kernel_rfl)
instance : TyC Try.prog 21 := tyC_of Try.func21 (by kernel_rfl) (by kernel_rfl)
instance : TyC Try.prog 22 := tyC_of Try.func22 (by kernel_rfl) (by kernel_rfl)
instance : TyC Try.prog 23 := tyC_of Try.func23 (by kernel_rfl) (by kernel_rfl)
instance : TyC Try.prog 24 := tyC_of Try.func24 (by kernel_rfl) (by kernel_rfl)
instance : TyC Try.prog 25 := tyC_of Try.func25 (by kernel_rfl) (by kernel_rfl)
instance : TyC Try.prog 26 := tyC_of Try.func26 (by kernel_rfl) (by kernel_rfl)
instance : TyC Try.prog 27 := tyC_of Try.func27 (by kernel_rfl) (by kernel_rfl)
instance : TyC Try.prog 28 := tyC_of Try.func28 (by kernel_rfl) (by kernel_rfl)
instance : TyC Try.prog 29 := tyC_of Try.func29 (by kernel_rfl) (by kernel_rfl)
instance : TyC Try.prog 30 := tyC_of Try.func30 (by kernel_rfl) (by kernel_rfl)
instance : TyC Try.prog 31 := tyC_of Try.func31 (by kernel_rfl) (by kernel_rfl)
instance : TyC Try.prog 32 := tyC_of Try.func32 (by kernel_rfl) (by kernel_rfl)
instance : TyC Try.prog 33 := tyC_of Try.func33 (by kernel_rfl) (by kernel_rfl)
instance : TyC Try.prog 34 := tyC_of Try.func34 (by kernel_rfl) (by kernel_rfl)
instance : TyC Try.prog 35 := tyC_of Try.func35 (by kernel_rfl) (by kernel_rfl)
instance : TyC Try.prog 36 := tyC_of Try.func36 (by kernel_rfl) (by kernel_rfl)
instance : TyC Try.prog 37 := tyC_of Try.func37 (by kernel_rfl) (by kernel_rfl)
instance : TyC Try.prog 38 := tyC_of Try.func38 (by kernel_rfl) (by kernel_rfl)
instance : TyC Try.prog 39 := tyC_of Try.func39 (by kernel_rfl) (by kernel_rfl)
instance : TyC Try.prog 40 := tyC_of Try.func40 (by kernel_rfl) (by kernel_rfl)
instance : TyC Try.prog 41 := tyC_of Try.func41 (by kernel_rfl) (by kernel_rfl)
instance : TyC Try.prog 42 := tyC_of Try.func42 (by kernel_rfl) (by kernel_rfl)
instance : TyC Try.prog 43 := tyC_of Try.func43 (by kernel_rfl) (by kernel_rfl)
instance : TyC Try.prog 44 := tyC_of Try.func44 (by kernel_rfl) (by kernel_rfl)
instance : TyC Try.prog 45 := tyC_of Try.func45 (by kernel_rfl) (by kernel_rfl)
instance : TyC Try.prog 46 := tyC_of Try.func46 (by kernel_rfl) (by kernel_rfl)
instance : TyC Try.prog 47 := tyC_of Try.func47 (by kernel_rfl) (by kernel_rfl)
instance : TyC Try.prog 48 := tyC_of Try.func48 (by kernel_rfl) (by kernel_rfl)
instance : TyC Try.prog 49 := tyC_of Try.func49 (by kernel_rfl) (by kernel_rfl)
instance : TyC Try.prog 50 := tyC_of Try.func50 (by kernel_rfl) (by kernel_rfl)
instance : TyC Try.prog 51 := tyC_of Try.func51 (by kernel_rfl) (by kernel_rfl)
instance : TyC Try.prog 52 := tyC_of Try.func52 (by kernel_rfl) (by kernel_rfl)
instance : TyC Try.prog 53 := tyC_of Try.func53 (by kernel_rfl) (by kernel_rfl)
instance : TyC Try.prog 54 := tyC_of Try.func54 (by kernel_rfl) (by kernel_rfl)
instance : TyC Try.prog 55 := tyC_of Try.func55 (by kernel_rfl) (by kernel_rfl)
instance : TyC Try.prog 56 := tyC_of Try.func56 (by kernel_rfl) (by kernel_rfl)
instance : TyC Try.prog 57 := tyC_of Try.func57 (by kernel_rfl) (by kernel_rfl)
instance : TyC Try.prog 58 := tyC_of Try.func58 (by kernel_rfl) (by kernel_rfl)
instance : TyC Try.prog 59 := tyC_of Try.func59 (by kernel_rfl) (by kernel_rfl)
instance : TyC Try.prog 60 := tyC_of Try.func60 (by kernel_rfl) (by kernel_rfl)
instance : TyC Try.prog 61 := tyC_of Try.func61 (by kernel_rfl) (by kernel_rfl)
instance : TyC Try.prog 62 := tyC_of Try.func62 (by kernel_rfl) (by kernel_rfl)
instance : TyC Try.prog 63 := tyC_of Try.func63 (by kernel_rfl) (by kernel_rfl)
instance : TyC Try.prog 64 := tyC_of Try.func64 (by kernel_rfl) (by kernel_rfl)
instance : TyC Try.prog 65 := tyC_of Try.func65 (by kernel_rfl) (by kernel_rfl)
instance : TyC Try.prog 66 := tyC_of Try.func66 (by kernel_rfl) (by kernel_rfl)
instance : TyC Try.prog 67 := tyC_of Try.func67 (by kernel_rfl) (by kernel_rfl)
instance : TyC Try.prog 68 := tyC_of Try.func68 (by kernel_rfl) (by kernel_rfl)
instance : TyC Try.prog 69 := tyC_of Try.func69 (by kernel_rfl) (by kernel_rfl)
instance : TyC Try.prog 70 := tyC_of Try.func70 (by kernel_rfl) (by kernel_rfl)
instance : TyC Try.prog 71 := tyC_of Try.func71 (by kernel_rfl) (by kernel_rfl)
instance : TyC Try.prog 72 := tyC_of Try.func72 (by kernel_rfl) (by kernel_rfl)
instance : TyC Try.prog 73 := tyC_of Try.func73 (by kernel_rfl) (by kernel_rfl)
instance : TyC Try.prog 74 := tyC_of Try.func74 (by kernel_rfl) (by kernel_rfl)
instance : TyC Try.prog 75 := tyC_of Try.func75 (by kernel_rfl) (by kernel_rfl)
instance : TyC Try.prog 76 := tyC_of Try.func76 (by kernel_rfl) (by kernel_rfl)
instance : TyC Try.prog 77 := tyC_of Try.func77 (by kernel_rfl) (by kernel_rfl)
instance : TyC Try.prog 78 := tyC_of Try.func78 (by kernel_rfl) (by kernel_rfl)
instance : TyC Try.prog 79 := tyC_of Try.func79 (by kernel_rfl) (by kernel_rfl)
instance : TyC Try.prog 80 := tyC_of Try.func80 (by kernel_rfl) (by kernel_rfl)
instance : TyC Try.prog 81 := tyC_of Try.func81 (by kernel_rfl) (by kernel_rfl)
instance : TyC Try.prog 82 := tyC_of Try.func82 (by kernel_rfl) (by kernel_rfl)
instance : TyC Try.prog 83 := tyC_of Try.func83 (by kernel_rfl) (by kernel_rfl)
instance : TyC Try.prog 84 := tyC_of Try.func84 (by kernel_rfl) (by kernel_rfl)
instance : TyC Try.prog 85 := tyC_of Try.func85 (by kernel_rfl) (by kernel_rfl)
instance : TyC Try.prog 86 := tyC_of Try.func86 (by kernel_rfl) (by kernel_rfl)
instance : TyC Try.prog 87 := tyC_of Try.func87 (by kernel_rfl) (by kernel_rfl)
instance : TyC Try.prog 88 := tyC_of Try.func88 (by kernel_rfl) (by kernel_rfl)
instance : TyC Try.prog 89 := tyC_of Try.func89 (by kernel_rfl) (by kernel_rfl)
instance : TyC Try.prog 90 := tyC_of Try.func90 (by kernel_rfl) (by kernel_rfl)
instance : TyC Try.prog 91 := tyC_of Try.func91 (by kernel_rfl) (by kernel_rfl)
instance : TyC Try.prog 92 := tyC_of Try.func92 (by kernel_rfl) (by kernel_rfl)
instance : TyC Try.prog 93 := tyC_of Try.func93 (by kernel_rfl) (by kernel_rfl)
instance : TyC Try.prog 94 := tyC_of Try.func94 (by kernel_rfl) (by kernel_rfl)
instance : TyC Try.prog 95 := tyC_of Try.func95 (by kernel_rfl) (by kernel_rfl)
instance : TyC Try.prog 96 := tyC_of Try.func96 (by kernel_rfl) (by kernel_rfl)
instance : TyC Try.prog 97 := tyC_of Try.func97 (by kernel_rfl) (by kernel_rfl)
instance : TyC Try.prog 98 := tyC_of Try.func98 (by kernel_rfl) (by kernel_rfl)
instance : TyC Try.prog 99 := tyC_of Try.func99 (by kernel_rfl) (by kernel_rfl)
instance : TyC Try.prog 100 := tyC_of Try.func100 (by kernel_rfl) (by kernel_rfl)
instance : TyC Try.prog 101 := tyC_of Try.func101 (by kernel_rfl) (by kernel_rfl)
instance : TyC Try.prog 102 := tyC_of Try.func102 (by kernel_rfl) (by kernel_rfl)
instance : TyC Try.prog 103 := tyC_of Try.func103 (by kernel_rfl) (by kernel_rfl)
instance : TyC Try.prog 104 := tyC_of Try.func104 (by kernel_rfl) (by kernel_rfl)
instance : TyC Try.prog 105 := tyC_of Try.func105 (by kernel_rfl) (by kernel_rfl)
instance : TyC Try.prog 106 := tyC_of Try.func106 (by kernel_rfl) (by kernel_rfl)
instance : TyC Try.prog 107 := tyC_of Try.func107 (by kernel_rfl) (by kernel_rfl)
instance : TyC Try.prog 108 := tyC_of Try.func108 (by kernel_rfl) (by kernel_rfl)
instance : TyC Try.prog 109 := tyC_of Try.func109 (by kernel_rfl) (by kernel_rfl)
instance : TyC Try.prog 110 := tyC_of Try.func110 (by kernel_rfl) (by kernel_rfl)
instance : TyC Try.prog 111 := tyC_of Try.func111 (by kernel_rfl) (by kernel_rfl)
instance : TyC Try.prog 112 := tyC_of Try.func112 (by kernel_rfl) (by kernel_rfl)
instance : TyC Try.prog 113 := tyC_of Try.func113 (by kernel_rfl) (by kernel_rfl)
instance : TyC Try.prog 114 := tyC_of Try.func114 (by kernel_rfl) (by kernel_rfl)
instance : TyC Try.prog 115 := tyC_of Try.func115 (by kernel_rfl) (by kernel_rfl)
instance : TyC Try.prog 116 := tyC_of Try.func116 (by kernel_rfl) (by kernel_rfl)
instance : TyC Try.prog 117 := tyC_of Try.func117 (by kernel_rfl) (by kernel_rfl)
instance : TyC Try.prog 118 := tyC_of Try.func118 (by kernel_rfl) (by kernel_rfl)
instance : TyC Try.prog 119 := tyC_of Try.func119 (by kernel_rfl) (by kernel_rfl)
instance : TyC Try.prog 120 := tyC_of Try.func120 (by kernel_rfl) (by kernel_rfl)
instance : TyC Try.prog 121 := tyC_of Try.func121 (by kernel_rfl) (by kernel_rfl)
instance : TyC Try.prog 122 := tyC_of Try.func122 (by kernel_rfl) (by kernel_rfl)
instance : TyC Try.prog 123 := tyC_of Try.func123 (by kernel_rfl) (by kernel_rfl)
instance : TyC Try.prog 124 := tyC_of Try.func124 (by kernel_rfl) (by kernel_rfl)
instance : TyC Try.prog 125 := tyC_of Try.func125 (by kernel_rfl) (by kernel_rfl)
instance : TyC Try.prog 126 := tyC_of Try.func126 (by kernel_rfl) (by kernel_rfl)
instance : TyC Try.prog 127 := tyC_of Try.func127 (by kernel_rfl) (by kernel_rfl)
instance : TyC Try.prog 128 := tyC_of Try.func128 (by kernel_rfl) (by kernel_rfl)
instance : TyC Try.prog 129 := tyC_of Try.func129 (by kernel_rfl) (by kernel_rfl)
instance : TyC Try.prog 130 := tyC_of Try.func130 (by kernel_rfl) (by kernel_rfl)
instance : TyC Try.prog 131 := tyC_of Try.func131 (by kernel_rfl) (by kernel_rfl)
instance : TyC Try.prog 132 := tyC_of Try.func132 (by kernel_rfl) (by kernel_rfl)
instance : TyC Try.prog 133 := tyC_of Try.func133 (by kernel_rfl) (by kernel_rfl)
instance : TyC Try.prog 134 := tyC_of Try.func134 (by kernel_rfl) (by kernel_rfl)
instance : TyC Try.prog 135 := tyC_of Try.func135 (by kernel_rfl) (by kernel_rfl)
instance : TyC Try.prog 136 := tyC_of Try.func136 (by kernel_rfl) (by kernel_rfl)
instance : TyC Try.prog 137 := tyC_of Try.func137 (by kernel_rfl) (by kernel_rfl)
instance : TyC Try.prog 138 := tyC_of Try.func138 (by kernel_rfl) (by kernel_rfl)
instance : TyC Try.prog 139 := tyC_of Try.func139 (by kernel_rfl) (by kernel_rfl)
instance : TyC Try.prog 140 := tyC_of Try.func140 (by kernel_rfl) (by kernel_rfl)
instance : TyC Try.prog 141 := tyC_of Try.func141 (by kernel_rfl) (by kernel_rfl)
instance : TyC Try.prog 142 := tyC_of Try.func142 (by kernel_rfl) (by kernel_rfl)
instance : TyC Try.prog 143 := tyC_of Try.func143 (by kernel_rfl) (by kernel_rfl)
instance : TyC Try.prog 144 := tyC_of Try.func144 (by kernel_rfl) (by kernel_rfl)
instance : TyC Try.prog 145 := tyC_of Try.func145 (by kernel_rfl) (by kernel_rfl)
instance : TyC Try.prog 146 := tyC_of Try.func146 (by kernel_rfl) (by kernel_rfl)
instance : TyC Try.prog 147 := tyC_of Try.func147 (by kernel_rfl) (by kernel_rfl)
instance : TyC Try.prog 148 := tyC_of Try.func148 (by kernel_rfl) (by kernel_rfl)
instance : TyC Try.prog 149 := tyC_of Try.func149 (by kernel_rfl) (by kernel_rfl)
instance : TyC Try.prog 150 := tyC_of Try.func150 (by kernel_rfl) (by kernel_rfl)
instance : TyC Try.prog 151 := tyC_of Try.func151 (by kernel_rfl) (by kernel_rfl)
instance : TyC Try.prog 152 := tyC_of Try.func152 (by kernel_rfl) (by kernel_rfl)
instance : TyC Try.prog 153 := tyC_of Try.func153 (by kernel_rfl) (by kernel_rfl)
instance : TyC Try.prog 154 := tyC_of Try.func154 (by kernel_rfl) (by kernel_rfl)
instance : TyC Try.prog 155 := tyC_of Try.func155 (by kernel_rfl) (by kernel_rfl)
instance : TyC Try.prog 156 := tyC_of Try.func156 (by kernel_rfl) (by kernel_rfl)
instance : TyC Try.prog 157 := tyC_of Try.func157 (by kernel_rfl) (by kernel_rfl)
instance : TyC Try.prog 158 := tyC_of Try.func158 (by kernel_rfl) (by kernel_rfl)
instance : TyC Try.prog 159 := tyC_of Try.func159 (by kernel_rfl) (by kernel_rfl)
instance : TyC Try.prog 160 := tyC_of Try.func160 (by kernel_rfl) (by kernel_rfl)
instance : TyC Try.prog 161 := tyC_of Try.func161 (by kernel_rfl) (by kernel_rfl)
instance : TyC Try.prog 162 := tyC_of Try.func162 (by kernel_rfl) (by kernel_rfl)
instance : TyC Try.prog 163 := tyC_of Try.func163 (by kernel_rfl) (by kernel_rfl)
instance : TyC Try.prog 164 := tyC_of Try.func164 (by kernel_rfl) (by kernel_rfl)
instance : TyC Try.prog 165 := tyC_of Try.func165 (by kernel_rfl) (by kernel_rfl)
instance : TyC Try.prog 166 := tyC_of Try.func166 (by kernel_rfl) (by kernel_rfl)
instance : TyC Try.prog 167 := tyC_of Try.func167 (by kernel_rfl) (by kernel_rfl)
instance : TyC Try.prog 168 := tyC_of Try.func168 (by kernel_rfl) (by kernel_rfl)
instance : TyC Try.prog 169 := tyC_of Try.func169 (by kernel_rfl) (by kernel_rfl)
instance : TyC Try.prog 170 := tyC_of Try.func170 (by kernel_rfl) (by kernel_rfl)
instance : TyC Try.prog 171 := tyC_of Try.func171 (by kernel_rfl) (by kernel_rfl)
instance : TyC Try.prog 172 := tyC_of Try.func172 (by kernel_rfl) (by kernel_rfl)
instance : TyC Try.prog 173 := tyC_of Try.func173 (by kernel_rfl) (by kernel_rfl)
instance : TyC Try.prog 174 := tyC_of Try.func174 (by kernel_rfl) (by kernel_rfl)
instance : TyC Try.prog 175 := tyC_of Try.func175 (by kernel_rfl) (by kernel_rfl)
instance : TyC Try.prog 176 := tyC_of Try.func176 (by kernel_rfl) (by kernel_rfl)
instance : TyC Try.prog 177 := tyC_of Try.func177 (by kernel_rfl) (by kernel_rfl)
instance : TyC Try.prog 178 := tyC_of Try.func178 (by kernel_rfl) (by kernel_rfl)
instance : TyC Try.prog 179 := tyC_of Try.func179 (by kernel_rfl) (by kernel_rfl)
instance : TyC Try.prog 180 := tyC_of Try.func180 (by kernel_rfl) (by kernel_rfl)
instance : TyC Try.prog 181 := tyC_of Try.func181 (by kernel_rfl) (by kernel_rfl)
instance : TyC Try.prog 182 := tyC_of Try.func182 (by kernel_rfl) (by kernel_rfl)
instance : TyC Try.prog 183 := tyC_of Try.func183 (by kernel_rfl) (by kernel_rfl)
instance : TyC Try.prog 184 := tyC_of Try.func184 (by kernel_rfl) (by kernel_rfl)
instance : TyC Try.prog 185 := tyC_of Try.func185 (by kernel_rfl) (by kernel_rfl)
instance : TyC Try.prog 186 := tyC_of Try.func186 (by kernel_rfl) (by kernel_rfl)
instance : TyC Try.prog 187 := tyC_of Try.func187 (by kernel_rfl) (by kernel_rfl)
instance : TyC Try.prog 188 := tyC_of Try.func188 (by kernel_rfl) (by kernel_rfl)
instance : TyC Try.prog 189 := tyC_of Try.func189 (by kernel_rfl) (by kernel_rfl)
instance : TyC Try.prog 190 := tyC_of Try.func190 (by kernel_rfl) (by kernel_rfl)
instance : TyC Try.prog 191 := tyC_of Try.func191 (by kernel_rfl) (by kernel_rfl)
instance : TyC Try.prog 192 := tyC_of Try.func192 (by kernel_rfl) (by kernel_rfl)
instance : TyC Try.prog 193 := tyC_of Try.func193 (by kernel_rfl) (by kernel_rfl)
instance : TyC Try.prog 194 := tyC_of Try.func194 (by kernel_rfl) (by kernel_rfl)
instance : TyC Try.prog 211 := tyC_of Try.func211 (by kernel_rfl) (by kernel_rfl)
instance : TyC Try.prog 212 := tyC_of Try.func212 (by kernel_rfl) (by kernel_rfl)
instance : TyC Try.prog 213 := tyC_of Try.func213 (by kernel_rfl) (by kernel_rfl)
instance : TyC Try.prog 214 := tyC_of Try.func214 (by kernel_rfl) (by kernel_rfl)

end Go.Proofs.Ytfebpcdjajdgkaa
