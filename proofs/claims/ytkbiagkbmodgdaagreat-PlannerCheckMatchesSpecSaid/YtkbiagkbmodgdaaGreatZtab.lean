/- Part of a proof. No condition. -/
import Derived.KernelRfl
import Derived.Test.YtkbiagkbmodgdaaGreatProg
import Derived.Test.YtkbiagkbmodgdaaGreatZabo
set_option linter.unusedSimpArgs false
set_option linter.unusedVariables false
set_option maxRecDepth 20000
namespace Go.Proofs.YtkbiagkbmodgdaaGreat
open Go.Ab Tryz
instance:cT prog 3 (.int .i64):=⟨underlying3⟩
instance:dI prog 3 (.int .i64 0) 1 8:=bJ ai
instance:cT prog 4 (.bool):=⟨underlying4⟩
instance:dI prog 4 (.bool false) 1 1:=bJ ai
instance:cT prog 5 (.int .u8):=⟨underlying5⟩
instance:dI prog 5 (.int .u8 0) 1 1:=bJ ai
instance:cT prog 9 (.string):=⟨underlying9⟩
instance:dI prog 9 (.string ⟨#[]⟩) 1 16:=bJ ai
instance:cT prog 22 (.slice 241):=⟨underlying22⟩
instance:dI prog 22 (.slice none 0 0) 1 24:=bJ ai
instance:cT prog 23 (.slice 148):=⟨underlying23⟩
instance:dI prog 23 (.slice none 0 0) 1 24:=bJ ai
instance:cT prog 24 (.slice 150):=⟨underlying24⟩
instance:dI prog 24 (.slice none 0 0) 1 24:=bJ ai
instance:cT prog 25 (.slice 100):=⟨underlying25⟩
instance:dI prog 25 (.slice none 0 0) 1 24:=bJ ai
instance:cT prog 26 (.slice 66):=⟨underlying26⟩
instance:dI prog 26 (.slice none 0 0) 1 24:=bJ ai
instance:cT prog 27 (.slice 68):=⟨underlying27⟩
instance:dI prog 27 (.slice none 0 0) 1 24:=bJ ai
instance : cT prog 29 (.struct #[⟨ "Types", 22, 0, false, "", "", 0⟩, ⟨ "Objects", 23, 1, false, "", "", 24⟩, ⟨ "Predicates", 24, 2, false, "", "", 48⟩, ⟨ "Schemas", 25, 3, false, "", "", 72⟩, ⟨ "Init", 26, 4, false, "", "", 96⟩, ⟨ "Goal", 27, 5, false, "", "", 120⟩]) := ⟨underlying29⟩
instance:dI prog 29 (.agg #[.slice none 0 0,.slice none 0 0,.slice none 0 0,.slice none 0 0,.slice none 0 0,.slice none 0 0]) 6 144:=bJ ai
instance:n8 prog 29 [(0,1),(1,1),(2,1),(3,1),(4,1),(5,1)]:=⟨_,underlying29,by kernel_rfl⟩
instance:cT prog 30 (.slice 52):=⟨underlying30⟩
instance:dI prog 30 (.slice none 0 0) 1 24:=bJ ai
instance:cT prog 31 (.slice 78):=⟨underlying31⟩
instance:dI prog 31 (.slice none 0 0) 1 24:=bJ ai
instance:cT prog 32 (.slice 134):=⟨underlying32⟩
instance:dI prog 32 (.slice none 0 0) 1 24:=bJ ai
instance : cT prog 34 (.struct #[⟨ "Found", 4, 0, false, "", "", 0⟩, ⟨ "Steps", 30, 1, false, "", "", 8⟩, ⟨ "Cost", 3, 2, false, "", "", 32⟩, ⟨ "Bound", 31, 3, false, "", "", 40⟩, ⟨ "Never", 32, 4, false, "", "", 64⟩]) := ⟨underlying34⟩
instance:dI prog 34 (.agg #[.bool false,.slice none 0 0,.int .i64 0,.slice none 0 0,.slice none 0 0]) 5 88:=bJ ai
instance:n8 prog 34 [(0,1),(1,1),(2,1),(3,1),(4,1)]:=⟨_,underlying34,by kernel_rfl⟩
instance:cT prog 35 (.slice 3):=⟨underlying35⟩
instance:dI prog 35 (.slice none 0 0) 1 24:=bJ ai
instance:cT prog 36 (.slice 94):=⟨underlying36⟩
instance:dI prog 36 (.slice none 0 0) 1 24:=bJ ai
instance : cT prog 38 (.struct #[⟨ "Facts", 3, 0, false, "", "", 0⟩, ⟨ "Init", 35, 1, false, "", "", 8⟩, ⟨ "Goal", 35, 2, false, "", "", 32⟩, ⟨ "Operators", 36, 3, false, "", "", 56⟩]) := ⟨underlying38⟩
instance:dI prog 38 (.agg #[.int .i64 0,.slice none 0 0,.slice none 0 0,.slice none 0 0]) 4 80:=bJ ai
instance:n8 prog 38 [(0,1),(1,1),(2,1),(3,1)]:=⟨_,underlying38,by kernel_rfl⟩
instance : cT prog 40 (.struct #[⟨ "Task", 38, 0, false, "", "", 0⟩, ⟨ "Facts", 27, 4, false, "", "", 80⟩, ⟨ "Instances", 30, 5, false, "", "", 104⟩]) := ⟨underlying40⟩
instance:dI prog 40 (.agg #[.int .i64 0,.slice none 0 0,.slice none 0 0,.slice none 0 0,.slice none 0 0,.slice none 0 0]) 6 128:=bJ ai
instance:n8 prog 40 [(0,4),(4,1),(5,1)]:=⟨_,underlying40,by kernel_rfl⟩
instance : cT prog 42 (.struct #[⟨ "Code", 3, 0, false, "", "", 0⟩, ⟨ "Index", 3, 1, false, "", "", 8⟩]) := ⟨underlying42⟩
instance:dI prog 42 (.agg #[.int .i64 0,.int .i64 0]) 2 16:=bJ ai
instance:n8 prog 42 [(0,1),(1,1)]:=⟨_,underlying42,by kernel_rfl⟩
instance : cT prog 52 (.struct #[⟨ "Schema", 3, 0, false, "", "", 0⟩, ⟨ "Args", 35, 1, false, "", "", 8⟩]) := ⟨underlying52⟩
instance:dI prog 52 (.agg #[.int .i64 0,.slice none 0 0]) 2 32:=bJ ai
instance:n8 prog 52 [(0,1),(1,1)]:=⟨_,underlying52,by kernel_rfl⟩
instance:cT prog 62 (.slice 70):=⟨underlying62⟩
instance:dI prog 62 (.slice none 0 0) 1 24:=bJ ai
instance : cT prog 66 (.struct #[⟨ "Predicate", 3, 0, false, "", "", 0⟩, ⟨ "Args", 35, 1, false, "", "", 8⟩]) := ⟨underlying66⟩
instance:dI prog 66 (.agg #[.int .i64 0,.slice none 0 0]) 2 32:=bJ ai
instance:n8 prog 66 [(0,1),(1,1)]:=⟨_,underlying66,by kernel_rfl⟩
instance : cT prog 68 (.struct #[⟨ "Negated", 4, 0, false, "", "", 0⟩, ⟨ "Atom", 66, 1, false, "", "", 8⟩]) := ⟨underlying68⟩
instance:dI prog 68 (.agg #[.bool false,.int .i64 0,.slice none 0 0]) 3 40:=bJ ai
instance:n8 prog 68 [(0,1),(1,2)]:=⟨_,underlying68,by kernel_rfl⟩
instance : cT prog 70 (.struct #[⟨ "Instance", 52, 0, false, "", "", 0⟩, ⟨ "Needs", 27, 2, false, "", "", 32⟩, ⟨ "Add", 27, 3, false, "", "", 56⟩, ⟨ "Del", 27, 4, false, "", "", 80⟩, ⟨ "Cost", 3, 5, false, "", "", 104⟩, ⟨ "Possible", 4, 6, false, "", "", 112⟩, ⟨ "Needed", 4, 7, false, "", "", 113⟩]) := ⟨underlying70⟩
instance:dI prog 70 (.agg #[.int .i64 0,.slice none 0 0,.slice none 0 0,.slice none 0 0,.slice none 0 0,.int .i64 0,.bool false,.bool false]) 8 120:=bJ ai
instance:n8 prog 70 [(0,2),(2,1),(3,1),(4,1),(5,1),(6,1),(7,1)]:=⟨_,underlying70,by kernel_rfl⟩
instance : cT prog 78 (.struct #[⟨ "State", 35, 0, false, "", "", 0⟩, ⟨ "Value", 3, 1, false, "", "", 24⟩]) := ⟨underlying78⟩
instance:dI prog 78 (.agg #[.slice none 0 0,.int .i64 0]) 2 32:=bJ ai
instance:n8 prog 78 [(0,1),(1,1)]:=⟨_,underlying78,by kernel_rfl⟩
instance:cT prog 87 (.slice 35):=⟨underlying87⟩
instance:dI prog 87 (.slice none 0 0) 1 24:=bJ ai
instance : cT prog 94 (.struct #[⟨ "Pre", 35, 0, false, "", "", 0⟩, ⟨ "Add", 35, 1, false, "", "", 24⟩, ⟨ "Del", 35, 2, false, "", "", 48⟩, ⟨ "Cost", 3, 3, false, "", "", 72⟩]) := ⟨underlying94⟩
instance:dI prog 94 (.agg #[.slice none 0 0,.slice none 0 0,.slice none 0 0,.int .i64 0]) 4 80:=bJ ai
instance:n8 prog 94 [(0,1),(1,1),(2,1),(3,1)]:=⟨_,underlying94,by kernel_rfl⟩
instance:cT prog 98 (.slice 174):=⟨underlying98⟩
instance:dI prog 98 (.slice none 0 0) 1 24:=bJ ai
instance : cT prog 100 (.struct #[⟨ "Name", 9, 0, false, "", "", 0⟩, ⟨ "Types", 35, 1, false, "", "", 16⟩, ⟨ "Different", 98, 2, false, "", "", 40⟩, ⟨ "Pre", 27, 3, false, "", "", 64⟩, ⟨ "Add", 26, 4, false, "", "", 88⟩, ⟨ "Del", 26, 5, false, "", "", 112⟩, ⟨ "Cost", 3, 6, false, "", "", 136⟩]) := ⟨underlying100⟩
instance:dI prog 100 (.agg #[.string ⟨#[]⟩,.slice none 0 0,.slice none 0 0,.slice none 0 0,.slice none 0 0,.slice none 0 0,.int .i64 0]) 7 144:=bJ ai
instance:n8 prog 100 [(0,1),(1,1),(2,1),(3,1),(4,1),(5,1),(6,1)]:=⟨_,underlying100,by kernel_rfl⟩
instance:cT prog 105 (.pointer 182):=⟨underlying105⟩
instance:dI prog 105 (.pointer none) 1 8:=bJ ai
instance:cT prog 109 (.slice 112):=⟨underlying109⟩
instance:dI prog 109 (.slice none 0 0) 1 24:=bJ ai
instance : cT prog 112 (.struct #[⟨ "instance", 52, 0, false, "", "helmsman/ground", 0⟩, ⟨ "pre", 27, 2, false, "", "helmsman/ground", 32⟩, ⟨ "add", 27, 3, false, "", "helmsman/ground", 56⟩, ⟨ "del", 27, 4, false, "", "helmsman/ground", 80⟩, ⟨ "cost", 3, 5, false, "", "helmsman/ground", 104⟩]) := ⟨underlying112⟩
instance:dI prog 112 (.agg #[.int .i64 0,.slice none 0 0,.slice none 0 0,.slice none 0 0,.slice none 0 0,.int .i64 0]) 6 112:=bJ ai
instance:n8 prog 112 [(0,2),(2,1),(3,1),(4,1),(5,1)]:=⟨_,underlying112,by kernel_rfl⟩
instance:cT prog 115 (.slice 4):=⟨underlying115⟩
instance:dI prog 115 (.slice none 0 0) 1 24:=bJ ai
instance:cT prog 116 (.func #[68] #[4] false):=⟨underlying116⟩
instance:dI prog 116 (.nilFunc) 1 8:=bJ ai
instance:cT prog 118 (.func #[3] #[4] false):=⟨underlying118⟩
instance:dI prog 118 (.nilFunc) 1 8:=bJ ai
instance:cT prog 124 (.pointer 129):=⟨underlying124⟩
instance:dI prog 124 (.pointer none) 1 8:=bJ ai
instance:cT prog 127 (.pointer 217):=⟨underlying127⟩
instance:dI prog 127 (.pointer none) 1 8:=bJ ai
instance : cT prog 129 (.struct #[⟨ "Store", 127, 0, true, "", "", 0⟩, ⟨ "all", 3, 1, false, "", "helmsman/deadend", 8⟩]) := ⟨underlying129⟩
instance:dI prog 129 (.agg #[.pointer none,.int .i64 0]) 2 16:=bJ ai
instance:n8 prog 129 [(0,1),(1,1)]:=⟨_,underlying129,by kernel_rfl⟩
instance:cT prog 131 (.int .u32):=⟨underlying131⟩
instance:dI prog 131 (.int .u32 0) 1 4:=bJ ai
instance : cT prog 134 (.struct #[⟨ "Need", 35, 0, false, "", "", 0⟩, ⟨ "Not", 35, 1, false, "", "", 24⟩]) := ⟨underlying134⟩
instance:dI prog 134 (.agg #[.slice none 0 0,.slice none 0 0]) 2 48:=bJ ai
instance:n8 prog 134 [(0,1),(1,1)]:=⟨_,underlying134,by kernel_rfl⟩
instance : cT prog 143 (.struct #[⟨ "Found", 4, 0, false, "", "", 0⟩, ⟨ "Plan", 35, 1, false, "", "", 8⟩, ⟨ "Cost", 3, 2, false, "", "", 32⟩, ⟨ "Expanded", 3, 3, false, "", "", 40⟩]) := ⟨underlying143⟩
instance:dI prog 143 (.agg #[.bool false,.slice none 0 0,.int .i64 0,.int .i64 0]) 4 48:=bJ ai
instance:n8 prog 143 [(0,1),(1,1),(2,1),(3,1)]:=⟨_,underlying143,by kernel_rfl⟩
instance : cT prog 148 (.struct #[⟨ "Name", 9, 0, false, "", "", 0⟩, ⟨ "Type", 3, 1, false, "", "", 16⟩]) := ⟨underlying148⟩
instance:dI prog 148 (.agg #[.string ⟨#[]⟩,.int .i64 0]) 2 24:=bJ ai
instance:n8 prog 148 [(0,1),(1,1)]:=⟨_,underlying148,by kernel_rfl⟩
instance : cT prog 150 (.struct #[⟨ "Name", 9, 0, false, "", "", 0⟩, ⟨ "Types", 35, 1, false, "", "", 16⟩]) := ⟨underlying150⟩
instance:dI prog 150 (.agg #[.string ⟨#[]⟩,.slice none 0 0]) 2 40:=bJ ai
instance:n8 prog 150 [(0,1),(1,1)]:=⟨_,underlying150,by kernel_rfl⟩
instance:cT prog 158 (.func #[52] #[4] false):=⟨underlying158⟩
instance:dI prog 158 (.nilFunc) 1 8:=bJ ai
instance:cT prog 174 (.array 2 3):=⟨underlying174⟩
instance:dI prog 174 (.agg #[.int .i64 0,.int .i64 0]) 2 16:=bJ ai
instance:cT prog 177 (.func #[66,66] #[4] false):=⟨underlying177⟩
instance:dI prog 177 (.nilFunc) 1 8:=bJ ai
instance:cT prog 178 (.func #[66,66] #[3] false):=⟨underlying178⟩
instance:dI prog 178 (.nilFunc) 1 8:=bJ ai
instance : cT prog 182 (.struct #[⟨ "d", 29, 0, false, "", "helmsman/ground", 0⟩, ⟨ "fluent", 115, 6, false, "", "helmsman/ground", 144⟩, ⟨ "negated", 115, 7, false, "", "helmsman/ground", 168⟩]) := ⟨underlying182⟩
instance:dI prog 182 (.agg #[.slice none 0 0,.slice none 0 0,.slice none 0 0,.slice none 0 0,.slice none 0 0,.slice none 0 0,.slice none 0 0,.slice none 0 0]) 8 192:=bJ ai
instance:n8 prog 182 [(0,6),(6,1),(7,1)]:=⟨_,underlying182,by kernel_rfl⟩
instance:cT prog 187 (.func #[189] #[] false):=⟨underlying187⟩
instance:dI prog 187 (.nilFunc) 1 8:=bJ ai
instance:cT prog 189 (.func #[112] #[4] false):=⟨underlying189⟩
instance:dI prog 189 (.nilFunc) 1 8:=bJ ai
instance:cT prog 190 (.func #[174] #[4] false):=⟨underlying190⟩
instance:dI prog 190 (.nilFunc) 1 8:=bJ ai
instance:cT prog 200 (.pointer 206):=⟨underlying200⟩
instance:dI prog 200 (.pointer none) 1 8:=bJ ai
instance:cT prog 203 (.pointer 260):=⟨underlying203⟩
instance:dI prog 203 (.pointer none) 1 8:=bJ ai
instance:cT prog 204 (.map 131 3):=⟨underlying204⟩
instance:dI prog 204 (.map none) 1 8:=bJ ai
instance : cT prog 206 (.struct #[⟨ "w", 203, 0, false, "", "helmsman/lowerbound", 0⟩, ⟨ "of", 204, 1, false, "", "helmsman/lowerbound", 8⟩]) := ⟨underlying206⟩
instance:dI prog 206 (.agg #[.pointer none,.map none]) 2 16:=bJ ai
instance:n8 prog 206 [(0,1),(1,1)]:=⟨_,underlying206,by kernel_rfl⟩
instance:cT prog 213 (.slice 270):=⟨underlying213⟩
instance:dI prog 213 (.slice none 0 0) 1 24:=bJ ai
instance:cT prog 214 (.map 270 3):=⟨underlying214⟩
instance:dI prog 214 (.map none) 1 8:=bJ ai
instance:cT prog 215 (.map 266 3):=⟨underlying215⟩
instance:dI prog 215 (.map none) 1 8:=bJ ai
instance : cT prog 217 (.struct #[⟨ "levels", 3, 0, false, "", "helmsman/diagram", 0⟩, ⟨ "nodes", 213, 1, false, "", "helmsman/diagram", 8⟩, ⟨ "found", 214, 2, false, "", "helmsman/diagram", 32⟩, ⟨ "pairs", 215, 3, false, "", "helmsman/diagram", 40⟩]) := ⟨underlying217⟩
instance:dI prog 217 (.agg #[.int .i64 0,.slice none 0 0,.map none,.map none]) 4 48:=bJ ai
instance:n8 prog 217 [(0,1),(1,1),(2,1),(3,1)]:=⟨_,underlying217,by kernel_rfl⟩
instance:cT prog 222 (.func #[3] #[3] false):=⟨underlying222⟩
instance:dI prog 222 (.nilFunc) 1 8:=bJ ai
instance:cT prog 223 (.slice 131):=⟨underlying223⟩
instance:dI prog 223 (.slice none 0 0) 1 24:=bJ ai
instance:cT prog 232 (.slice 235):=⟨underlying232⟩
instance:dI prog 232 (.slice none 0 0) 1 24:=bJ ai
instance:cT prog 239 (.int .u64):=⟨underlying239⟩
instance:dI prog 239 (.int .u64 0) 1 8:=bJ ai
instance : cT prog 241 (.struct #[⟨ "Name", 9, 0, false, "", "", 0⟩, ⟨ "Parent", 3, 1, false, "", "", 16⟩]) := ⟨underlying241⟩
instance:dI prog 241 (.agg #[.string ⟨#[]⟩,.int .i64 0]) 2 24:=bJ ai
instance:n8 prog 241 [(0,1),(1,1)]:=⟨_,underlying241,by kernel_rfl⟩
instance:cT prog 245 (.slice 26):=⟨underlying245⟩
instance:dI prog 245 (.slice none 0 0) 1 24:=bJ ai
instance:cT prog 246 (.func #[35] #[4] false):=⟨underlying246⟩
instance:dI prog 246 (.nilFunc) 1 8:=bJ ai
instance:cT prog 250 (.func #[66] #[4] false):=⟨underlying250⟩
instance:dI prog 250 (.nilFunc) 1 8:=bJ ai
instance:cT prog 257 (.func #[78] #[4] false):=⟨underlying257⟩
instance:dI prog 257 (.nilFunc) 1 8:=bJ ai
instance:cT prog 258 (.slice 312):=⟨underlying258⟩
instance:dI prog 258 (.slice none 0 0) 1 24:=bJ ai
instance : cT prog 260 (.struct #[⟨ "start", 131, 0, false, "", "helmsman/space", 0⟩, ⟨ "goal", 131, 1, false, "", "helmsman/space", 4⟩, ⟨ "ops", 258, 2, false, "", "helmsman/space", 8⟩]) := ⟨underlying260⟩
instance:dI prog 260 (.agg #[.int .u32 0,.int .u32 0,.slice none 0 0]) 3 32:=bJ ai
instance:n8 prog 260 [(0,1),(1,1),(2,1)]:=⟨_,underlying260,by kernel_rfl⟩
instance:cT prog 266 (.array 3 3):=⟨underlying266⟩
instance:dI prog 266 (.agg #[.int .i64 0,.int .i64 0,.int .i64 0]) 3 24:=bJ ai
instance : cT prog 270 (.struct #[⟨ "Level", 3, 0, false, "", "", 0⟩, ⟨ "Low", 3, 1, false, "", "", 8⟩, ⟨ "High", 3, 2, false, "", "", 16⟩]) := ⟨underlying270⟩
instance:dI prog 270 (.agg #[.int .i64 0,.int .i64 0,.int .i64 0]) 3 24:=bJ ai
instance:n8 prog 270 [(0,1),(1,1),(2,1)]:=⟨_,underlying270,by kernel_rfl⟩
instance:cT prog 273 (.map 3 3):=⟨underlying273⟩
instance:dI prog 273 (.map none) 1 8:=bJ ai
instance:cT prog 277 (.func #[131,131] #[3] false):=⟨underlying277⟩
instance:dI prog 277 (.nilFunc) 1 8:=bJ ai
instance:cT prog 278 (.map 131 287):=⟨underlying278⟩
instance:dI prog 278 (.map none) 1 8:=bJ ai
instance:cT prog 279 (.pointer 325):=⟨underlying279⟩
instance:dI prog 279 (.pointer none) 1 8:=bJ ai
instance : cT prog 286 (.struct #[⟨ "Op", 3, 0, false, "", "", 0⟩, ⟨ "Cost", 3, 1, false, "", "", 8⟩, ⟨ "To", 131, 2, false, "", "", 16⟩]) := ⟨underlying286⟩
instance:dI prog 286 (.agg #[.int .i64 0,.int .i64 0,.int .u32 0]) 3 24:=bJ ai
instance:n8 prog 286 [(0,1),(1,1),(2,1)]:=⟨_,underlying286,by kernel_rfl⟩
instance:cT prog 287 (.slice 289):=⟨underlying287⟩
instance:dI prog 287 (.slice none 0 0) 1 24:=bJ ai
instance : cT prog 289 (.struct #[⟨ "from", 131, 0, false, "", "helmsman/space", 0⟩, ⟨ "cost", 3, 1, false, "", "helmsman/space", 8⟩]) := ⟨underlying289⟩
instance:dI prog 289 (.agg #[.int .u32 0,.int .i64 0]) 2 16:=bJ ai
instance:n8 prog 289 [(0,1),(1,1)]:=⟨_,underlying289,by kernel_rfl⟩
instance : cT prog 294 (.struct #[⟨ "Levels", 3, 0, false, "", "", 0⟩, ⟨ "Nodes", 213, 1, false, "", "", 8⟩, ⟨ "Root", 3, 2, false, "", "", 32⟩]) := ⟨underlying294⟩
instance:dI prog 294 (.agg #[.int .i64 0,.slice none 0 0,.int .i64 0]) 3 40:=bJ ai
instance:n8 prog 294 [(0,1),(1,1),(2,1)]:=⟨_,underlying294,by kernel_rfl⟩
instance:cT prog 296 (.func #[3,134] #[] false):=⟨underlying296⟩
instance:dI prog 296 (.nilFunc) 1 8:=bJ ai
instance:cT prog 299 (.struct #[]):=⟨underlying299⟩
instance:dI prog 299 (.agg #[]) 0 0:=bJ ai
instance:n8 prog 299 []:=⟨_,underlying299,by kernel_rfl⟩
instance:cT prog 300 (.struct #[]):=⟨underlying300⟩
instance:dI prog 300 (.agg #[]) 0 0:=bJ ai
instance:n8 prog 300 []:=⟨_,underlying300,by kernel_rfl⟩
instance : cT prog 302 (.struct #[⟨ "kind", 3, 0, false, "", "helmsman/planner", 0⟩]) := ⟨underlying302⟩
instance:dI prog 302 (.agg #[.int .i64 0]) 1 8:=bJ ai
instance:n8 prog 302 [(0,1)]:=⟨_,underlying302,by kernel_rfl⟩
instance:cT prog 303 (.struct #[]):=⟨underlying303⟩
instance:dI prog 303 (.agg #[]) 0 0:=bJ ai
instance:n8 prog 303 []:=⟨_,underlying303,by kernel_rfl⟩
instance : cT prog 312 (.struct #[⟨ "pre", 131, 0, false, "", "helmsman/space", 0⟩, ⟨ "add", 131, 1, false, "", "helmsman/space", 4⟩, ⟨ "del", 131, 2, false, "", "helmsman/space", 8⟩, ⟨ "cost", 3, 3, false, "", "helmsman/space", 16⟩]) := ⟨underlying312⟩
instance:dI prog 312 (.agg #[.int .u32 0,.int .u32 0,.int .u32 0,.int .i64 0]) 4 24:=bJ ai
instance:n8 prog 312 [(0,1),(1,1),(2,1),(3,1)]:=⟨_,underlying312,by kernel_rfl⟩
instance:cT prog 318 (.map 131 299):=⟨underlying318⟩
instance:dI prog 318 (.map none) 1 8:=bJ ai
instance:cT prog 321 (.map 131 326):=⟨underlying321⟩
instance:dI prog 321 (.map none) 1 8:=bJ ai
instance:cT prog 323 (.slice 326):=⟨underlying323⟩
instance:dI prog 323 (.slice none 0 0) 1 24:=bJ ai
instance : cT prog 325 (.struct #[⟨ "heap", 323, 0, false, "", "helmsman/openlist", 0⟩, ⟨ "found", 321, 1, false, "", "helmsman/openlist", 24⟩, ⟨ "time", 3, 2, false, "", "helmsman/openlist", 32⟩]) := ⟨underlying325⟩
instance:dI prog 325 (.agg #[.slice none 0 0,.map none,.int .i64 0]) 3 40:=bJ ai
instance:n8 prog 325 [(0,1),(1,1),(2,1)]:=⟨_,underlying325,by kernel_rfl⟩
instance:cT prog 326 (.pointer 329):=⟨underlying326⟩
instance:dI prog 326 (.pointer none) 1 8:=bJ ai
instance : cT prog 329 (.struct #[⟨ "item", 131, 0, false, "", "helmsman/openlist", 0⟩, ⟨ "key", 3, 1, false, "", "helmsman/openlist", 8⟩, ⟨ "time", 3, 2, false, "", "helmsman/openlist", 16⟩, ⟨ "at", 3, 3, false, "", "helmsman/openlist", 24⟩]) := ⟨underlying329⟩
instance:dI prog 329 (.agg #[.int .u32 0,.int .i64 0,.int .i64 0,.int .i64 0]) 4 32:=bJ ai
instance:n8 prog 329 [(0,1),(1,1),(2,1),(3,1)]:=⟨_,underlying329,by kernel_rfl⟩
instance:cT prog 331 (.pointer 323):=⟨underlying331⟩
instance:dI prog 331 (.pointer none) 1 8:=bJ ai
instance:cT prog 336 (.func #[241] #[4] false):=⟨underlying336⟩
instance:dI prog 336 (.nilFunc) 1 8:=bJ ai
instance:cT prog 338 (.func #[148] #[4] false):=⟨underlying338⟩
instance:dI prog 338 (.nilFunc) 1 8:=bJ ai
instance:cT prog 340 (.func #[150] #[4] false):=⟨underlying340⟩
instance:dI prog 340 (.nilFunc) 1 8:=bJ ai
instance:cT prog 342 (.func #[100] #[4] false):=⟨underlying342⟩
instance:dI prog 342 (.nilFunc) 1 8:=bJ ai
instance:cT prog 347 (.int .i64):=⟨underlying347⟩
instance:dI prog 347 (.int .i64 0) 1 8:=bJ ai
instance:cT prog 354 (.int .u64):=⟨underlying354⟩
instance:dI prog 354 (.int .u64 0) 1 8:=bJ ai
instance:cT prog 376 (.int .u64):=⟨underlying376⟩
instance:dI prog 376 (.int .u64 0) 1 8:=bJ ai
instance:cT prog 380 (.pointer 3):=⟨underlying380⟩
instance:dI prog 380 (.pointer none) 1 8:=bJ ai
instance:JH prog 266:=Ew inferInstance inferInstance ai ai
instance:JH prog 270:=Cr inferInstance inferInstance inferInstance inferInstance ⟨rfl,rfl,rfl⟩ ai ai
def TM:List (Nat×TI):=[(3,⟨false,1,8,[.v (.int .i64 0)],.int .i64⟩),
 (4,⟨false,1,1,[.v (.bool false)],.bool⟩),
 (5,⟨false,1,1,[.v (.int .u8 0)],.int .u8⟩),
 (9,⟨false,1,16,[.v (.string ⟨#[]⟩)],.str⟩),
 (22,⟨false,1,24,[.v (.slice none 0 0)],.sl 241⟩),
 (23,⟨false,1,24,[.v (.slice none 0 0)],.sl 148⟩),
 (24,⟨false,1,24,[.v (.slice none 0 0)],.sl 150⟩),
 (25,⟨false,1,24,[.v (.slice none 0 0)],.sl 100⟩),
 (26,⟨false,1,24,[.v (.slice none 0 0)],.sl 66⟩),
 (27,⟨false,1,24,[.v (.slice none 0 0)],.sl 68⟩),
 (29,⟨true,6,144,[.v (.slice none 0 0),.v (.slice none 0 0),.v (.slice none 0 0),.v (.slice none 0 0),.v (.slice none 0 0),.v (.slice none 0 0)],.st [(0,1),(1,1),(2,1),(3,1),(4,1),(5,1)] false⟩),
 (30,⟨false,1,24,[.v (.slice none 0 0)],.sl 52⟩),
 (31,⟨false,1,24,[.v (.slice none 0 0)],.sl 78⟩),
 (32,⟨false,1,24,[.v (.slice none 0 0)],.sl 134⟩),
 (34,⟨true,5,88,[.v (.bool false),.v (.slice none 0 0),.v (.int .i64 0),.v (.slice none 0 0),.v (.slice none 0 0)],.st [(0,1),(1,1),(2,1),(3,1),(4,1)] false⟩),
 (35,⟨false,1,24,[.v (.slice none 0 0)],.sl 3⟩),
 (36,⟨false,1,24,[.v (.slice none 0 0)],.sl 94⟩),
 (38,⟨true,4,80,[.v (.int .i64 0),.v (.slice none 0 0),.v (.slice none 0 0),.v (.slice none 0 0)],.st [(0,1),(1,1),(2,1),(3,1)] false⟩),
 (40,⟨true,6,128,[.v (.int .i64 0),.v (.slice none 0 0),.v (.slice none 0 0),.v (.slice none 0 0),.v (.slice none 0 0),.v (.slice none 0 0)],.st [(0,4),(4,1),(5,1)] false⟩),
 (42,⟨true,2,16,[.v (.int .i64 0),.v (.int .i64 0)],.st [(0,1),(1,1)] true⟩),
 (52,⟨true,2,32,[.v (.int .i64 0),.v (.slice none 0 0)],.st [(0,1),(1,1)] false⟩),
 (62,⟨false,1,24,[.v (.slice none 0 0)],.sl 70⟩),
 (66,⟨true,2,32,[.v (.int .i64 0),.v (.slice none 0 0)],.st [(0,1),(1,1)] false⟩),
 (68,⟨true,3,40,[.v (.bool false),.v (.int .i64 0),.v (.slice none 0 0)],.st [(0,1),(1,2)] false⟩),
 (70,⟨true,8,120,[.v (.int .i64 0),.v (.slice none 0 0),.v (.slice none 0 0),.v (.slice none 0 0),.v (.slice none 0 0),.v (.int .i64 0),.v (.bool false),.v (.bool false)],.st [(0,2),(2,1),(3,1),(4,1),(5,1),(6,1),(7,1)] false⟩),
 (78,⟨true,2,32,[.v (.slice none 0 0),.v (.int .i64 0)],.st [(0,1),(1,1)] false⟩),
 (87,⟨false,1,24,[.v (.slice none 0 0)],.sl 35⟩),
 (94,⟨true,4,80,[.v (.slice none 0 0),.v (.slice none 0 0),.v (.slice none 0 0),.v (.int .i64 0)],.st [(0,1),(1,1),(2,1),(3,1)] false⟩),
 (98,⟨false,1,24,[.v (.slice none 0 0)],.sl 174⟩),
 (100,⟨true,7,144,[.v (.string ⟨#[]⟩),.v (.slice none 0 0),.v (.slice none 0 0),.v (.slice none 0 0),.v (.slice none 0 0),.v (.slice none 0 0),.v (.int .i64 0)],.st [(0,1),(1,1),(2,1),(3,1),(4,1),(5,1),(6,1)] false⟩),
 (105,⟨false,1,8,[.v (.pointer none)],.other⟩),
 (109,⟨false,1,24,[.v (.slice none 0 0)],.sl 112⟩),
 (112,⟨true,6,112,[.v (.int .i64 0),.v (.slice none 0 0),.v (.slice none 0 0),.v (.slice none 0 0),.v (.slice none 0 0),.v (.int .i64 0)],.st [(0,2),(2,1),(3,1),(4,1),(5,1)] false⟩),
 (115,⟨false,1,24,[.v (.slice none 0 0)],.sl 4⟩),
 (116,⟨false,1,8,[.v (.nilFunc)],.other⟩),
 (118,⟨false,1,8,[.v (.nilFunc)],.other⟩),
 (124,⟨false,1,8,[.v (.pointer none)],.other⟩),
 (127,⟨false,1,8,[.v (.pointer none)],.other⟩),
 (129,⟨true,2,16,[.v (.pointer none),.v (.int .i64 0)],.st [(0,1),(1,1)] false⟩),
 (131,⟨false,1,4,[.v (.int .u32 0)],.int .u32⟩),
 (134,⟨true,2,48,[.v (.slice none 0 0),.v (.slice none 0 0)],.st [(0,1),(1,1)] false⟩),
 (143,⟨true,4,48,[.v (.bool false),.v (.slice none 0 0),.v (.int .i64 0),.v (.int .i64 0)],.st [(0,1),(1,1),(2,1),(3,1)] false⟩),
 (148,⟨true,2,24,[.v (.string ⟨#[]⟩),.v (.int .i64 0)],.st [(0,1),(1,1)] false⟩),
 (150,⟨true,2,40,[.v (.string ⟨#[]⟩),.v (.slice none 0 0)],.st [(0,1),(1,1)] false⟩),
 (158,⟨false,1,8,[.v (.nilFunc)],.other⟩),
 (174,⟨true,2,16,[.v (.int .i64 0),.v (.int .i64 0)],.ar 2 3 true⟩),
 (177,⟨false,1,8,[.v (.nilFunc)],.other⟩),
 (178,⟨false,1,8,[.v (.nilFunc)],.other⟩),
 (182,⟨true,8,192,[.v (.slice none 0 0),.v (.slice none 0 0),.v (.slice none 0 0),.v (.slice none 0 0),.v (.slice none 0 0),.v (.slice none 0 0),.v (.slice none 0 0),.v (.slice none 0 0)],.st [(0,6),(6,1),(7,1)] false⟩),
 (187,⟨false,1,8,[.v (.nilFunc)],.other⟩),
 (189,⟨false,1,8,[.v (.nilFunc)],.other⟩),
 (190,⟨false,1,8,[.v (.nilFunc)],.other⟩),
 (200,⟨false,1,8,[.v (.pointer none)],.other⟩),
 (203,⟨false,1,8,[.v (.pointer none)],.other⟩),
 (204,⟨false,1,8,[.v (.map none)],.other⟩),
 (206,⟨true,2,16,[.v (.pointer none),.v (.map none)],.st [(0,1),(1,1)] false⟩),
 (213,⟨false,1,24,[.v (.slice none 0 0)],.sl 270⟩),
 (214,⟨false,1,8,[.v (.map none)],.other⟩),
 (215,⟨false,1,8,[.v (.map none)],.other⟩),
 (217,⟨true,4,48,[.v (.int .i64 0),.v (.slice none 0 0),.v (.map none),.v (.map none)],.st [(0,1),(1,1),(2,1),(3,1)] false⟩),
 (222,⟨false,1,8,[.v (.nilFunc)],.other⟩),
 (223,⟨false,1,24,[.v (.slice none 0 0)],.sl 131⟩),
 (232,⟨false,1,24,[.v (.slice none 0 0)],.sl 235⟩),
 (239,⟨false,1,8,[.v (.int .u64 0)],.int .u64⟩),
 (241,⟨true,2,24,[.v (.string ⟨#[]⟩),.v (.int .i64 0)],.st [(0,1),(1,1)] false⟩),
 (245,⟨false,1,24,[.v (.slice none 0 0)],.sl 26⟩),
 (246,⟨false,1,8,[.v (.nilFunc)],.other⟩),
 (250,⟨false,1,8,[.v (.nilFunc)],.other⟩),
 (257,⟨false,1,8,[.v (.nilFunc)],.other⟩),
 (258,⟨false,1,24,[.v (.slice none 0 0)],.sl 312⟩),
 (260,⟨true,3,32,[.v (.int .u32 0),.v (.int .u32 0),.v (.slice none 0 0)],.st [(0,1),(1,1),(2,1)] false⟩),
 (266,⟨true,3,24,[.v (.int .i64 0),.v (.int .i64 0),.v (.int .i64 0)],.ar 3 3 false⟩),
 (270,⟨true,3,24,[.v (.int .i64 0),.v (.int .i64 0),.v (.int .i64 0)],.st [(0,1),(1,1),(2,1)] false⟩),
 (273,⟨false,1,8,[.v (.map none)],.other⟩),
 (277,⟨false,1,8,[.v (.nilFunc)],.other⟩),
 (278,⟨false,1,8,[.v (.map none)],.other⟩),
 (279,⟨false,1,8,[.v (.pointer none)],.other⟩),
 (286,⟨true,3,24,[.v (.int .i64 0),.v (.int .i64 0),.v (.int .u32 0)],.st [(0,1),(1,1),(2,1)] false⟩),
 (287,⟨false,1,24,[.v (.slice none 0 0)],.sl 289⟩),
 (289,⟨true,2,16,[.v (.int .u32 0),.v (.int .i64 0)],.st [(0,1),(1,1)] true⟩),
 (294,⟨true,3,40,[.v (.int .i64 0),.v (.slice none 0 0),.v (.int .i64 0)],.st [(0,1),(1,1),(2,1)] false⟩),
 (296,⟨false,1,8,[.v (.nilFunc)],.other⟩),
 (299,⟨true,0,0,[],.st [] false⟩),
 (300,⟨true,0,0,[],.st [] false⟩),
 (302,⟨true,1,8,[.v (.int .i64 0)],.st [(0,1)] false⟩),
 (303,⟨true,0,0,[],.st [] false⟩),
 (312,⟨true,4,24,[.v (.int .u32 0),.v (.int .u32 0),.v (.int .u32 0),.v (.int .i64 0)],.st [(0,1),(1,1),(2,1),(3,1)] false⟩),
 (318,⟨false,1,8,[.v (.map none)],.other⟩),
 (321,⟨false,1,8,[.v (.map none)],.other⟩),
 (323,⟨false,1,24,[.v (.slice none 0 0)],.sl 326⟩),
 (325,⟨true,3,40,[.v (.slice none 0 0),.v (.map none),.v (.int .i64 0)],.st [(0,1),(1,1),(2,1)] false⟩),
 (326,⟨false,1,8,[.v (.pointer none)],.other⟩),
 (329,⟨true,4,32,[.v (.int .u32 0),.v (.int .i64 0),.v (.int .i64 0),.v (.int .i64 0)],.st [(0,1),(1,1),(2,1),(3,1)] false⟩),
 (331,⟨false,1,8,[.v (.pointer none)],.other⟩),
 (336,⟨false,1,8,[.v (.nilFunc)],.other⟩),
 (338,⟨false,1,8,[.v (.nilFunc)],.other⟩),
 (340,⟨false,1,8,[.v (.nilFunc)],.other⟩),
 (342,⟨false,1,8,[.v (.nilFunc)],.other⟩),
 (347,⟨false,1,8,[.v (.int .i64 0)],.int .i64⟩),
 (354,⟨false,1,8,[.v (.int .u64 0)],.int .u64⟩),
 (376,⟨false,1,8,[.v (.int .u64 0)],.int .u64⟩),
 (380,⟨false,1,8,[.v (.pointer none)],.other⟩)]
def bh (t:Nat):Option TI:=TS TM t
theorem tA {P:Program} {t:TypeId} {d:TypeDesc} {z:Value} {n b:Nat} {ag:Bool} {zs:List AV} {k:Af} [hu:cT P t d] [hi:dI P t z n b] (h3:GY P t d k:=by first|exact trivial|exact rfl|exact QD inferInstance) (h1:l8 d=ag:=by rfl) (h2:(AV.dY z).cells=zs:=by rfl):D8 P t ⟨ag,n,b,zs,k⟩:=Jo hu hi h1 h2 h3
theorem R1:Jm prog TM:=⟨tA,
 tA,
 tA,
 tA,
 tA,
 tA,
 tA,
 tA,
 tA,
 tA,
 tA,
 tA,
 tA,
 tA,
 tA,
 tA,
 tA,
 tA,
 tA,
 Jo inferInstance inferInstance rfl rfl (FJ inferInstance inferInstance inferInstance ai),
 tA,
 tA,
 tA,
 tA,
 tA,
 tA,
 tA,
 tA,
 tA,
 tA,
 tA,
 tA,
 tA,
 tA,
 tA,
 tA,
 tA,
 tA,
 tA,
 tA,
 tA,
 tA,
 tA,
 tA,
 tA,
 Jo inferInstance inferInstance rfl rfl (⟨rfl,fun _=>⟨rfl,⟨_,inferInstance⟩,by kernel_rfl,by kernel_rfl,by kernel_rfl⟩⟩),
 tA,
 tA,
 tA,
 tA,
 tA,
 tA,
 tA,
 tA,
 tA,
 tA,
 tA,
 tA,
 tA,
 tA,
 tA,
 tA,
 tA,
 tA,
 tA,
 tA,
 tA,
 tA,
 tA,
 tA,
 tA,
 Jo inferInstance inferInstance rfl rfl (⟨rfl,fun h=>by cases h⟩),
 tA,
 tA,
 tA,
 tA,
 tA,
 tA,
 tA,
 Jo inferInstance inferInstance rfl rfl (FJ inferInstance inferInstance inferInstance ai),
 tA,
 tA,
 tA,
 tA,
 tA,
 tA,
 tA,
 tA,
 tA,
 tA,
 tA,
 tA,
 tA,
 tA,
 tA,
 tA,
 tA,
 tA,
 tA,
 tA,
 tA,
 tA,trivial⟩
instance:Tb prog bh:=⟨fun _ _ h=>Jn R1 h⟩
@[go_sem] theorem tt:bh 3=some ⟨false,1,8,[.v (.int .i64 0)],.int .i64⟩∧
 bh 4=some ⟨false,1,1,[.v (.bool false)],.bool⟩∧
 bh 5=some ⟨false,1,1,[.v (.int .u8 0)],.int .u8⟩∧
 bh 9=some ⟨false,1,16,[.v (.string ⟨#[]⟩)],.str⟩∧
 bh 22=some ⟨false,1,24,[.v (.slice none 0 0)],.sl 241⟩∧
 bh 23=some ⟨false,1,24,[.v (.slice none 0 0)],.sl 148⟩∧
 bh 24=some ⟨false,1,24,[.v (.slice none 0 0)],.sl 150⟩∧
 bh 25=some ⟨false,1,24,[.v (.slice none 0 0)],.sl 100⟩∧
 bh 26=some ⟨false,1,24,[.v (.slice none 0 0)],.sl 66⟩∧
 bh 27=some ⟨false,1,24,[.v (.slice none 0 0)],.sl 68⟩∧
 bh 29=some ⟨true,6,144,[.v (.slice none 0 0),.v (.slice none 0 0),.v (.slice none 0 0),.v (.slice none 0 0),.v (.slice none 0 0),.v (.slice none 0 0)],.st [(0,1),(1,1),(2,1),(3,1),(4,1),(5,1)] false⟩∧
 bh 30=some ⟨false,1,24,[.v (.slice none 0 0)],.sl 52⟩∧
 bh 31=some ⟨false,1,24,[.v (.slice none 0 0)],.sl 78⟩∧
 bh 32=some ⟨false,1,24,[.v (.slice none 0 0)],.sl 134⟩∧
 bh 34=some ⟨true,5,88,[.v (.bool false),.v (.slice none 0 0),.v (.int .i64 0),.v (.slice none 0 0),.v (.slice none 0 0)],.st [(0,1),(1,1),(2,1),(3,1),(4,1)] false⟩∧
 bh 35=some ⟨false,1,24,[.v (.slice none 0 0)],.sl 3⟩∧
 bh 36=some ⟨false,1,24,[.v (.slice none 0 0)],.sl 94⟩∧
 bh 38=some ⟨true,4,80,[.v (.int .i64 0),.v (.slice none 0 0),.v (.slice none 0 0),.v (.slice none 0 0)],.st [(0,1),(1,1),(2,1),(3,1)] false⟩∧
 bh 40=some ⟨true,6,128,[.v (.int .i64 0),.v (.slice none 0 0),.v (.slice none 0 0),.v (.slice none 0 0),.v (.slice none 0 0),.v (.slice none 0 0)],.st [(0,4),(4,1),(5,1)] false⟩∧
 bh 42=some ⟨true,2,16,[.v (.int .i64 0),.v (.int .i64 0)],.st [(0,1),(1,1)] true⟩∧
 bh 52=some ⟨true,2,32,[.v (.int .i64 0),.v (.slice none 0 0)],.st [(0,1),(1,1)] false⟩∧
 bh 62=some ⟨false,1,24,[.v (.slice none 0 0)],.sl 70⟩∧
 bh 66=some ⟨true,2,32,[.v (.int .i64 0),.v (.slice none 0 0)],.st [(0,1),(1,1)] false⟩∧
 bh 68=some ⟨true,3,40,[.v (.bool false),.v (.int .i64 0),.v (.slice none 0 0)],.st [(0,1),(1,2)] false⟩∧
 bh 70=some ⟨true,8,120,[.v (.int .i64 0),.v (.slice none 0 0),.v (.slice none 0 0),.v (.slice none 0 0),.v (.slice none 0 0),.v (.int .i64 0),.v (.bool false),.v (.bool false)],.st [(0,2),(2,1),(3,1),(4,1),(5,1),(6,1),(7,1)] false⟩∧
 bh 78=some ⟨true,2,32,[.v (.slice none 0 0),.v (.int .i64 0)],.st [(0,1),(1,1)] false⟩∧
 bh 87=some ⟨false,1,24,[.v (.slice none 0 0)],.sl 35⟩∧
 bh 94=some ⟨true,4,80,[.v (.slice none 0 0),.v (.slice none 0 0),.v (.slice none 0 0),.v (.int .i64 0)],.st [(0,1),(1,1),(2,1),(3,1)] false⟩∧
 bh 98=some ⟨false,1,24,[.v (.slice none 0 0)],.sl 174⟩∧
 bh 100=some ⟨true,7,144,[.v (.string ⟨#[]⟩),.v (.slice none 0 0),.v (.slice none 0 0),.v (.slice none 0 0),.v (.slice none 0 0),.v (.slice none 0 0),.v (.int .i64 0)],.st [(0,1),(1,1),(2,1),(3,1),(4,1),(5,1),(6,1)] false⟩∧
 bh 105=some ⟨false,1,8,[.v (.pointer none)],.other⟩∧
 bh 109=some ⟨false,1,24,[.v (.slice none 0 0)],.sl 112⟩∧
 bh 112=some ⟨true,6,112,[.v (.int .i64 0),.v (.slice none 0 0),.v (.slice none 0 0),.v (.slice none 0 0),.v (.slice none 0 0),.v (.int .i64 0)],.st [(0,2),(2,1),(3,1),(4,1),(5,1)] false⟩∧
 bh 115=some ⟨false,1,24,[.v (.slice none 0 0)],.sl 4⟩∧
 bh 116=some ⟨false,1,8,[.v (.nilFunc)],.other⟩∧
 bh 118=some ⟨false,1,8,[.v (.nilFunc)],.other⟩∧
 bh 124=some ⟨false,1,8,[.v (.pointer none)],.other⟩∧
 bh 127=some ⟨false,1,8,[.v (.pointer none)],.other⟩∧
 bh 129=some ⟨true,2,16,[.v (.pointer none),.v (.int .i64 0)],.st [(0,1),(1,1)] false⟩∧
 bh 131=some ⟨false,1,4,[.v (.int .u32 0)],.int .u32⟩∧
 bh 134=some ⟨true,2,48,[.v (.slice none 0 0),.v (.slice none 0 0)],.st [(0,1),(1,1)] false⟩∧
 bh 143=some ⟨true,4,48,[.v (.bool false),.v (.slice none 0 0),.v (.int .i64 0),.v (.int .i64 0)],.st [(0,1),(1,1),(2,1),(3,1)] false⟩∧
 bh 148=some ⟨true,2,24,[.v (.string ⟨#[]⟩),.v (.int .i64 0)],.st [(0,1),(1,1)] false⟩∧
 bh 150=some ⟨true,2,40,[.v (.string ⟨#[]⟩),.v (.slice none 0 0)],.st [(0,1),(1,1)] false⟩∧
 bh 158=some ⟨false,1,8,[.v (.nilFunc)],.other⟩∧
 bh 174=some ⟨true,2,16,[.v (.int .i64 0),.v (.int .i64 0)],.ar 2 3 true⟩∧
 bh 177=some ⟨false,1,8,[.v (.nilFunc)],.other⟩∧
 bh 178=some ⟨false,1,8,[.v (.nilFunc)],.other⟩∧
 bh 182=some ⟨true,8,192,[.v (.slice none 0 0),.v (.slice none 0 0),.v (.slice none 0 0),.v (.slice none 0 0),.v (.slice none 0 0),.v (.slice none 0 0),.v (.slice none 0 0),.v (.slice none 0 0)],.st [(0,6),(6,1),(7,1)] false⟩∧
 bh 187=some ⟨false,1,8,[.v (.nilFunc)],.other⟩∧
 bh 189=some ⟨false,1,8,[.v (.nilFunc)],.other⟩∧
 bh 190=some ⟨false,1,8,[.v (.nilFunc)],.other⟩∧
 bh 200=some ⟨false,1,8,[.v (.pointer none)],.other⟩∧
 bh 203=some ⟨false,1,8,[.v (.pointer none)],.other⟩∧
 bh 204=some ⟨false,1,8,[.v (.map none)],.other⟩∧
 bh 206=some ⟨true,2,16,[.v (.pointer none),.v (.map none)],.st [(0,1),(1,1)] false⟩∧
 bh 213=some ⟨false,1,24,[.v (.slice none 0 0)],.sl 270⟩∧
 bh 214=some ⟨false,1,8,[.v (.map none)],.other⟩∧
 bh 215=some ⟨false,1,8,[.v (.map none)],.other⟩∧
 bh 217=some ⟨true,4,48,[.v (.int .i64 0),.v (.slice none 0 0),.v (.map none),.v (.map none)],.st [(0,1),(1,1),(2,1),(3,1)] false⟩∧
 bh 222=some ⟨false,1,8,[.v (.nilFunc)],.other⟩∧
 bh 223=some ⟨false,1,24,[.v (.slice none 0 0)],.sl 131⟩∧
 bh 232=some ⟨false,1,24,[.v (.slice none 0 0)],.sl 235⟩∧
 bh 239=some ⟨false,1,8,[.v (.int .u64 0)],.int .u64⟩∧
 bh 241=some ⟨true,2,24,[.v (.string ⟨#[]⟩),.v (.int .i64 0)],.st [(0,1),(1,1)] false⟩∧
 bh 245=some ⟨false,1,24,[.v (.slice none 0 0)],.sl 26⟩∧
 bh 246=some ⟨false,1,8,[.v (.nilFunc)],.other⟩∧
 bh 250=some ⟨false,1,8,[.v (.nilFunc)],.other⟩∧
 bh 257=some ⟨false,1,8,[.v (.nilFunc)],.other⟩∧
 bh 258=some ⟨false,1,24,[.v (.slice none 0 0)],.sl 312⟩∧
 bh 260=some ⟨true,3,32,[.v (.int .u32 0),.v (.int .u32 0),.v (.slice none 0 0)],.st [(0,1),(1,1),(2,1)] false⟩∧
 bh 266=some ⟨true,3,24,[.v (.int .i64 0),.v (.int .i64 0),.v (.int .i64 0)],.ar 3 3 false⟩∧
 bh 270=some ⟨true,3,24,[.v (.int .i64 0),.v (.int .i64 0),.v (.int .i64 0)],.st [(0,1),(1,1),(2,1)] false⟩∧
 bh 273=some ⟨false,1,8,[.v (.map none)],.other⟩∧
 bh 277=some ⟨false,1,8,[.v (.nilFunc)],.other⟩∧
 bh 278=some ⟨false,1,8,[.v (.map none)],.other⟩∧
 bh 279=some ⟨false,1,8,[.v (.pointer none)],.other⟩∧
 bh 286=some ⟨true,3,24,[.v (.int .i64 0),.v (.int .i64 0),.v (.int .u32 0)],.st [(0,1),(1,1),(2,1)] false⟩∧
 bh 287=some ⟨false,1,24,[.v (.slice none 0 0)],.sl 289⟩∧
 bh 289=some ⟨true,2,16,[.v (.int .u32 0),.v (.int .i64 0)],.st [(0,1),(1,1)] true⟩∧
 bh 294=some ⟨true,3,40,[.v (.int .i64 0),.v (.slice none 0 0),.v (.int .i64 0)],.st [(0,1),(1,1),(2,1)] false⟩∧
 bh 296=some ⟨false,1,8,[.v (.nilFunc)],.other⟩∧
 bh 299=some ⟨true,0,0,[],.st [] false⟩∧
 bh 300=some ⟨true,0,0,[],.st [] false⟩∧
 bh 302=some ⟨true,1,8,[.v (.int .i64 0)],.st [(0,1)] false⟩∧
 bh 303=some ⟨true,0,0,[],.st [] false⟩∧
 bh 312=some ⟨true,4,24,[.v (.int .u32 0),.v (.int .u32 0),.v (.int .u32 0),.v (.int .i64 0)],.st [(0,1),(1,1),(2,1),(3,1)] false⟩∧
 bh 318=some ⟨false,1,8,[.v (.map none)],.other⟩∧
 bh 321=some ⟨false,1,8,[.v (.map none)],.other⟩∧
 bh 323=some ⟨false,1,24,[.v (.slice none 0 0)],.sl 326⟩:=by
 refine ⟨?_,?_,?_,?_,?_,?_,?_,?_,?_,?_,?_,?_,?_,?_,?_,?_,?_,?_,?_,?_,?_,?_,?_,?_,?_,?_,?_,?_,?_,?_,?_,?_,?_,?_,?_,?_,?_,?_,?_,?_,?_,?_,?_,?_,?_,?_,?_,?_,?_,?_,?_,?_,?_,?_,?_,?_,?_,?_,?_,?_,?_,?_,?_,?_,?_,?_,?_,?_,?_,?_,?_,?_,?_,?_,?_,?_,?_,?_,?_,?_,?_,?_,?_,?_,?_,?_,?_,?_,?_,?_⟩<;>rfl
@[go_sem] theorem VP:bh 325=some ⟨true,3,40,[.v (.slice none 0 0),.v (.map none),.v (.int .i64 0)],.st [(0,1),(1,1),(2,1)] false⟩∧
 bh 326=some ⟨false,1,8,[.v (.pointer none)],.other⟩∧
 bh 329=some ⟨true,4,32,[.v (.int .u32 0),.v (.int .i64 0),.v (.int .i64 0),.v (.int .i64 0)],.st [(0,1),(1,1),(2,1),(3,1)] false⟩∧
 bh 331=some ⟨false,1,8,[.v (.pointer none)],.other⟩∧
 bh 336=some ⟨false,1,8,[.v (.nilFunc)],.other⟩∧
 bh 338=some ⟨false,1,8,[.v (.nilFunc)],.other⟩∧
 bh 340=some ⟨false,1,8,[.v (.nilFunc)],.other⟩∧
 bh 342=some ⟨false,1,8,[.v (.nilFunc)],.other⟩∧
 bh 347=some ⟨false,1,8,[.v (.int .i64 0)],.int .i64⟩∧
 bh 354=some ⟨false,1,8,[.v (.int .u64 0)],.int .u64⟩∧
 bh 376=some ⟨false,1,8,[.v (.int .u64 0)],.int .u64⟩∧
 bh 380=some ⟨false,1,8,[.v (.pointer none)],.other⟩:=by
 refine ⟨?_,?_,?_,?_,?_,?_,?_,?_,?_,?_,?_,?_⟩<;>rfl
instance:cI prog 6:=bd func6 ai ai
instance:cI prog 7:=bd func7 ai ai
instance:cI prog 8:=bd func8 ai ai
instance:cI prog 9:=bd func9 ai ai
instance:cI prog 11:=bd func11 ai ai
instance:cI prog 12:=bd func12 ai ai
instance:cI prog 16:=bd func16 ai ai
instance:cI prog 17:=bd func17 ai ai
instance:cI prog 18:=bd func18 ai ai
instance:cI prog 19:=bd func19 ai ai
instance:cI prog 20:=bd func20 ai ai
instance:cI prog 21:=bd func21 ai ai
instance:cI prog 22:=bd func22 ai ai
instance:cI prog 23:=bd func23 ai ai
instance:cI prog 24:=bd func24 ai ai
instance:cI prog 27:=bd func27 ai ai
instance:cI prog 28:=bd func28 ai ai
instance:cI prog 29:=bd func29 ai ai
instance:cI prog 30:=bd func30 ai ai
instance:cI prog 31:=bd func31 ai ai
instance:cI prog 32:=bd func32 ai ai
instance:cI prog 35:=bd func35 ai ai
instance:cI prog 40:=bd func40 ai ai
instance:cI prog 41:=bd func41 ai ai
instance:cI prog 42:=bd func42 ai ai
instance:cI prog 43:=bd func43 ai ai
instance:cI prog 44:=bd func44 ai ai
instance:cI prog 45:=bd func45 ai ai
instance:cI prog 46:=bd func46 ai ai
instance:cI prog 47:=bd func47 ai ai
instance:cI prog 48:=bd func48 ai ai
instance:cI prog 49:=bd func49 ai ai
instance:cI prog 50:=bd func50 ai ai
instance:cI prog 51:=bd func51 ai ai
instance:cI prog 52:=bd func52 ai ai
instance:cI prog 53:=bd func53 ai ai
instance:cI prog 54:=bd func54 ai ai
instance:cI prog 55:=bd func55 ai ai
instance:cI prog 56:=bd func56 ai ai
instance:cI prog 57:=bd func57 ai ai
instance:cI prog 58:=bd func58 ai ai
instance:cI prog 59:=bd func59 ai ai
instance:cI prog 60:=bd func60 ai ai
instance:cI prog 61:=bd func61 ai ai
instance:cI prog 62:=bd func62 ai ai
instance:cI prog 63:=bd func63 ai ai
instance:cI prog 64:=bd func64 ai ai
instance:cI prog 65:=bd func65 ai ai
instance:cI prog 66:=bd func66 ai ai
instance:cI prog 67:=bd func67 ai ai
instance:cI prog 68:=bd func68 ai ai
instance:cI prog 73:=bd func73 ai ai
instance:cI prog 74:=bd func74 ai ai
instance:cI prog 75:=bd func75 ai ai
instance:cI prog 76:=bd func76 ai ai
instance:cI prog 77:=bd func77 ai ai
instance:cI prog 78:=bd func78 ai ai
instance:cI prog 79:=bd func79 ai ai
instance:cI prog 80:=bd func80 ai ai
instance:cI prog 81:=bd func81 ai ai
instance:cI prog 82:=bd func82 ai ai
instance:cI prog 83:=bd func83 ai ai
instance:cI prog 84:=bd func84 ai ai
instance:cI prog 85:=bd func85 ai ai
instance:cI prog 86:=bd func86 ai ai
instance:cI prog 93:=bd func93 ai ai
instance:cI prog 94:=bd func94 ai ai
instance:cI prog 95:=bd func95 ai ai
instance:cI prog 96:=bd func96 ai ai
instance:cI prog 97:=bd func97 ai ai
instance:cI prog 98:=bd func98 ai ai
instance:cI prog 99:=bd func99 ai ai
instance:cI prog 100:=bd func100 ai ai
instance:cI prog 101:=bd func101 ai ai
instance:cI prog 102:=bd func102 ai ai
instance:cI prog 103:=bd func103 ai ai
instance:cI prog 104:=bd func104 ai ai
instance:cI prog 105:=bd func105 ai ai
instance:cI prog 106:=bd func106 ai ai
instance:cI prog 107:=bd func107 ai ai
instance:cI prog 108:=bd func108 ai ai
instance:cI prog 109:=bd func109 ai ai
instance:cI prog 110:=bd func110 ai ai
instance:cI prog 111:=bd func111 ai ai
instance:cI prog 112:=bd func112 ai ai
instance:cI prog 113:=bd func113 ai ai
instance:cI prog 114:=bd func114 ai ai
instance:cI prog 115:=bd func115 ai ai
instance:cI prog 116:=bd func116 ai ai
instance:cI prog 117:=bd func117 ai ai
instance:cI prog 118:=bd func118 ai ai
instance:cI prog 119:=bd func119 ai ai
instance:cI prog 120:=bd func120 ai ai
instance:cI prog 121:=bd func121 ai ai
instance:cI prog 122:=bd func122 ai ai
instance:cI prog 123:=bd func123 ai ai
instance:cI prog 124:=bd func124 ai ai
instance:cI prog 125:=bd func125 ai ai
instance:cI prog 126:=bd func126 ai ai
instance:cI prog 127:=bd func127 ai ai
instance:cI prog 128:=bd func128 ai ai
instance:cI prog 129:=bd func129 ai ai
instance:cI prog 130:=bd func130 ai ai
instance:cI prog 131:=bd func131 ai ai
instance:cI prog 132:=bd func132 ai ai
instance:cI prog 133:=bd func133 ai ai
instance:cI prog 134:=bd func134 ai ai
instance:cI prog 135:=bd func135 ai ai
instance:cI prog 136:=bd func136 ai ai
instance:cI prog 137:=bd func137 ai ai
instance:cI prog 138:=bd func138 ai ai
instance:cI prog 139:=bd func139 ai ai
instance:cI prog 143:=bd func143 ai ai
instance:cI prog 147:=bd func147 ai ai
instance:cI prog 148:=bd func148 ai ai
instance:cI prog 149:=bd func149 ai ai
instance:cI prog 153:=bd func153 ai ai
instance:cI prog 154:=bd func154 ai ai
instance:cI prog 155:=bd func155 ai ai
instance:cI prog 156:=bd func156 ai ai
instance:cI prog 157:=bd func157 ai ai
instance:cI prog 158:=bd func158 ai ai
instance:cI prog 159:=bd func159 ai ai
instance:cI prog 160:=bd func160 ai ai
instance:cI prog 161:=bd func161 ai ai
instance:cI prog 162:=bd func162 ai ai
instance:cI prog 163:=bd func163 ai ai
instance:cI prog 164:=bd func164 ai ai
instance:cI prog 165:=bd func165 ai ai
instance:cI prog 166:=bd func166 ai ai
instance:cI prog 167:=bd func167 ai ai
instance:cI prog 168:=bd func168 ai ai
instance:cI prog 169:=bd func169 ai ai
instance:cI prog 170:=bd func170 ai ai
instance:cI prog 171:=bd func171 ai ai
instance:cI prog 172:=bd func172 ai ai
instance:cI prog 173:=bd func173 ai ai
instance:cI prog 174:=bd func174 ai ai
instance:cI prog 175:=bd func175 ai ai
instance:cI prog 176:=bd func176 ai ai
instance:cI prog 177:=bd func177 ai ai
instance:cI prog 178:=bd func178 ai ai
instance:cI prog 179:=bd func179 ai ai
instance:cI prog 180:=bd func180 ai ai
instance:cI prog 181:=bd func181 ai ai
instance:cI prog 182:=bd func182 ai ai
instance:cI prog 183:=bd func183 ai ai
instance:cI prog 184:=bd func184 ai ai
instance:cI prog 185:=bd func185 ai ai
instance:cI prog 186:=bd func186 ai ai
instance:cI prog 187:=bd func187 ai ai
instance:cI prog 188:=bd func188 ai ai
instance:cI prog 194:=bd func194 ai ai
instance:cI prog 201:=bd func201 ai ai
instance:cI prog 202:=bd func202 ai ai
instance:cI prog 203:=bd func203 ai ai
instance:cI prog 204:=bd func204 ai ai
instance:cI prog 205:=bd func205 ai ai
instance:cI prog 206:=bd func206 ai ai
instance:cI prog 207:=bd func207 ai ai
instance:cI prog 208:=bd func208 ai ai
instance:cI prog 209:=bd func209 ai ai
instance:cI prog 210:=bd func210 ai ai
instance:cI prog 211:=bd func211 ai ai
instance:cI prog 212:=bd func212 ai ai
instance:cI prog 213:=bd func213 ai ai
instance:cI prog 214:=bd func214 ai ai
instance:cI prog 215:=bd func215 ai ai
instance:cI prog 216:=bd func216 ai ai
instance:cI prog 218:=bd func218 ai ai
instance:cI prog 222:=bd func222 ai ai
instance:cI prog 226:=bd func226 ai ai
instance:cI prog 227:=bd func227 ai ai
instance:cI prog 228:=bd func228 ai ai
instance:cI prog 229:=bd func229 ai ai
instance:cI prog 230:=bd func230 ai ai
instance:cI prog 231:=bd func231 ai ai
instance:cI prog 232:=bd func232 ai ai
instance:cI prog 233:=bd func233 ai ai
instance:cI prog 234:=bd func234 ai ai
instance:cI prog 235:=bd func235 ai ai
instance:cI prog 236:=bd func236 ai ai
instance:cI prog 237:=bd func237 ai ai
instance:cI prog 238:=bd func238 ai ai
instance:cI prog 239:=bd func239 ai ai
instance:cI prog 240:=bd func240 ai ai
instance:cI prog 250:=bd func250 ai ai
instance:cI prog 262:=bd func262 ai ai
instance:cI prog 263:=bd func263 ai ai
instance:cI prog 264:=bd func264 ai ai
instance:cI prog 265:=bd func265 ai ai
instance:cI prog 266:=bd func266 ai ai
instance:cI prog 267:=bd func267 ai ai
instance:cI prog 268:=bd func268 ai ai
instance:cI prog 269:=bd func269 ai ai
instance:cI prog 285:=bd func285 ai ai
end Go.Proofs.YtkbiagkbmodgdaaGreat
