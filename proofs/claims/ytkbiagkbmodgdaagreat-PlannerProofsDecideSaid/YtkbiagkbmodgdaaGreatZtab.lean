/- Part of a proof: of two right answers both have a plan, at one cost, or none. No condition. -/
import Derived.KernelRfl
import Derived.Test.YtkbiagkbmodgdaaGreatProg
import Derived.Test.YtkbiagkbmodgdaaGreatZabo
set_option linter.unusedSimpArgs false
set_option linter.unusedVariables false
set_option maxRecDepth 20000
namespace Go.Proofs.YtkbiagkbmodgdaaGreat
open Go.Ab
instance:cJ Tryz.prog 3 (.int .i64):=⟨Tryz.underlying3⟩
instance:dm Tryz.prog 3 (.int .i64 0) 1 8:=bG ah
instance:cJ Tryz.prog 4 (.bool):=⟨Tryz.underlying4⟩
instance:dm Tryz.prog 4 (.bool false) 1 1:=bG ah
instance:cJ Tryz.prog 5 (.int .u8):=⟨Tryz.underlying5⟩
instance:dm Tryz.prog 5 (.int .u8 0) 1 1:=bG ah
instance:cJ Tryz.prog 9 (.string):=⟨Tryz.underlying9⟩
instance:dm Tryz.prog 9 (.string ⟨#[]⟩) 1 16:=bG ah
instance:cJ Tryz.prog 22 (.slice 241):=⟨Tryz.underlying22⟩
instance:dm Tryz.prog 22 (.slice none 0 0) 1 24:=bG ah
instance:cJ Tryz.prog 23 (.slice 148):=⟨Tryz.underlying23⟩
instance:dm Tryz.prog 23 (.slice none 0 0) 1 24:=bG ah
instance:cJ Tryz.prog 24 (.slice 150):=⟨Tryz.underlying24⟩
instance:dm Tryz.prog 24 (.slice none 0 0) 1 24:=bG ah
instance:cJ Tryz.prog 25 (.slice 100):=⟨Tryz.underlying25⟩
instance:dm Tryz.prog 25 (.slice none 0 0) 1 24:=bG ah
instance:cJ Tryz.prog 26 (.slice 66):=⟨Tryz.underlying26⟩
instance:dm Tryz.prog 26 (.slice none 0 0) 1 24:=bG ah
instance:cJ Tryz.prog 27 (.slice 68):=⟨Tryz.underlying27⟩
instance:dm Tryz.prog 27 (.slice none 0 0) 1 24:=bG ah
instance : cJ Tryz.prog 29 (.struct #[⟨ "Types", 22, 0, false, "", "", 0⟩, ⟨ "Objects", 23, 1, false, "", "", 24⟩, ⟨ "Predicates", 24, 2, false, "", "", 48⟩, ⟨ "Schemas", 25, 3, false, "", "", 72⟩, ⟨ "Init", 26, 4, false, "", "", 96⟩, ⟨ "Goal", 27, 5, false, "", "", 120⟩]) := ⟨Tryz.underlying29⟩
instance:dm Tryz.prog 29 (.agg #[.slice none 0 0,.slice none 0 0,.slice none 0 0,.slice none 0 0,.slice none 0 0,.slice none 0 0]) 6 144:=bG ah
instance:mf Tryz.prog 29 [(0,1),(1,1),(2,1),(3,1),(4,1),(5,1)]:=⟨_,Tryz.underlying29,by kernel_rfl⟩
instance:cJ Tryz.prog 30 (.slice 52):=⟨Tryz.underlying30⟩
instance:dm Tryz.prog 30 (.slice none 0 0) 1 24:=bG ah
instance:cJ Tryz.prog 31 (.slice 78):=⟨Tryz.underlying31⟩
instance:dm Tryz.prog 31 (.slice none 0 0) 1 24:=bG ah
instance:cJ Tryz.prog 32 (.slice 134):=⟨Tryz.underlying32⟩
instance:dm Tryz.prog 32 (.slice none 0 0) 1 24:=bG ah
instance : cJ Tryz.prog 34 (.struct #[⟨ "Found", 4, 0, false, "", "", 0⟩, ⟨ "Steps", 30, 1, false, "", "", 8⟩, ⟨ "Cost", 3, 2, false, "", "", 32⟩, ⟨ "Bound", 31, 3, false, "", "", 40⟩, ⟨ "Never", 32, 4, false, "", "", 64⟩]) := ⟨Tryz.underlying34⟩
instance:dm Tryz.prog 34 (.agg #[.bool false,.slice none 0 0,.int .i64 0,.slice none 0 0,.slice none 0 0]) 5 88:=bG ah
instance:mf Tryz.prog 34 [(0,1),(1,1),(2,1),(3,1),(4,1)]:=⟨_,Tryz.underlying34,by kernel_rfl⟩
instance:cJ Tryz.prog 35 (.slice 3):=⟨Tryz.underlying35⟩
instance:dm Tryz.prog 35 (.slice none 0 0) 1 24:=bG ah
instance:cJ Tryz.prog 36 (.slice 94):=⟨Tryz.underlying36⟩
instance:dm Tryz.prog 36 (.slice none 0 0) 1 24:=bG ah
instance : cJ Tryz.prog 38 (.struct #[⟨ "Facts", 3, 0, false, "", "", 0⟩, ⟨ "Init", 35, 1, false, "", "", 8⟩, ⟨ "Goal", 35, 2, false, "", "", 32⟩, ⟨ "Operators", 36, 3, false, "", "", 56⟩]) := ⟨Tryz.underlying38⟩
instance:dm Tryz.prog 38 (.agg #[.int .i64 0,.slice none 0 0,.slice none 0 0,.slice none 0 0]) 4 80:=bG ah
instance:mf Tryz.prog 38 [(0,1),(1,1),(2,1),(3,1)]:=⟨_,Tryz.underlying38,by kernel_rfl⟩
instance : cJ Tryz.prog 40 (.struct #[⟨ "Task", 38, 0, false, "", "", 0⟩, ⟨ "Facts", 27, 4, false, "", "", 80⟩, ⟨ "Instances", 30, 5, false, "", "", 104⟩]) := ⟨Tryz.underlying40⟩
instance:dm Tryz.prog 40 (.agg #[.int .i64 0,.slice none 0 0,.slice none 0 0,.slice none 0 0,.slice none 0 0,.slice none 0 0]) 6 128:=bG ah
instance:mf Tryz.prog 40 [(0,4),(4,1),(5,1)]:=⟨_,Tryz.underlying40,by kernel_rfl⟩
instance : cJ Tryz.prog 42 (.struct #[⟨ "Code", 3, 0, false, "", "", 0⟩, ⟨ "Index", 3, 1, false, "", "", 8⟩]) := ⟨Tryz.underlying42⟩
instance:dm Tryz.prog 42 (.agg #[.int .i64 0,.int .i64 0]) 2 16:=bG ah
instance:mf Tryz.prog 42 [(0,1),(1,1)]:=⟨_,Tryz.underlying42,by kernel_rfl⟩
instance : cJ Tryz.prog 52 (.struct #[⟨ "Schema", 3, 0, false, "", "", 0⟩, ⟨ "Args", 35, 1, false, "", "", 8⟩]) := ⟨Tryz.underlying52⟩
instance:dm Tryz.prog 52 (.agg #[.int .i64 0,.slice none 0 0]) 2 32:=bG ah
instance:mf Tryz.prog 52 [(0,1),(1,1)]:=⟨_,Tryz.underlying52,by kernel_rfl⟩
instance : cJ Tryz.prog 66 (.struct #[⟨ "Predicate", 3, 0, false, "", "", 0⟩, ⟨ "Args", 35, 1, false, "", "", 8⟩]) := ⟨Tryz.underlying66⟩
instance:dm Tryz.prog 66 (.agg #[.int .i64 0,.slice none 0 0]) 2 32:=bG ah
instance:mf Tryz.prog 66 [(0,1),(1,1)]:=⟨_,Tryz.underlying66,by kernel_rfl⟩
instance : cJ Tryz.prog 68 (.struct #[⟨ "Negated", 4, 0, false, "", "", 0⟩, ⟨ "Atom", 66, 1, false, "", "", 8⟩]) := ⟨Tryz.underlying68⟩
instance:dm Tryz.prog 68 (.agg #[.bool false,.int .i64 0,.slice none 0 0]) 3 40:=bG ah
instance:mf Tryz.prog 68 [(0,1),(1,2)]:=⟨_,Tryz.underlying68,by kernel_rfl⟩
instance : cJ Tryz.prog 78 (.struct #[⟨ "State", 35, 0, false, "", "", 0⟩, ⟨ "Value", 3, 1, false, "", "", 24⟩]) := ⟨Tryz.underlying78⟩
instance:dm Tryz.prog 78 (.agg #[.slice none 0 0,.int .i64 0]) 2 32:=bG ah
instance:mf Tryz.prog 78 [(0,1),(1,1)]:=⟨_,Tryz.underlying78,by kernel_rfl⟩
instance:cJ Tryz.prog 87 (.slice 35):=⟨Tryz.underlying87⟩
instance:dm Tryz.prog 87 (.slice none 0 0) 1 24:=bG ah
instance : cJ Tryz.prog 94 (.struct #[⟨ "Pre", 35, 0, false, "", "", 0⟩, ⟨ "Add", 35, 1, false, "", "", 24⟩, ⟨ "Del", 35, 2, false, "", "", 48⟩, ⟨ "Cost", 3, 3, false, "", "", 72⟩]) := ⟨Tryz.underlying94⟩
instance:dm Tryz.prog 94 (.agg #[.slice none 0 0,.slice none 0 0,.slice none 0 0,.int .i64 0]) 4 80:=bG ah
instance:mf Tryz.prog 94 [(0,1),(1,1),(2,1),(3,1)]:=⟨_,Tryz.underlying94,by kernel_rfl⟩
instance:cJ Tryz.prog 98 (.slice 174):=⟨Tryz.underlying98⟩
instance:dm Tryz.prog 98 (.slice none 0 0) 1 24:=bG ah
instance : cJ Tryz.prog 100 (.struct #[⟨ "Name", 9, 0, false, "", "", 0⟩, ⟨ "Types", 35, 1, false, "", "", 16⟩, ⟨ "Different", 98, 2, false, "", "", 40⟩, ⟨ "Pre", 27, 3, false, "", "", 64⟩, ⟨ "Add", 26, 4, false, "", "", 88⟩, ⟨ "Del", 26, 5, false, "", "", 112⟩, ⟨ "Cost", 3, 6, false, "", "", 136⟩]) := ⟨Tryz.underlying100⟩
instance:dm Tryz.prog 100 (.agg #[.string ⟨#[]⟩,.slice none 0 0,.slice none 0 0,.slice none 0 0,.slice none 0 0,.slice none 0 0,.int .i64 0]) 7 144:=bG ah
instance:mf Tryz.prog 100 [(0,1),(1,1),(2,1),(3,1),(4,1),(5,1),(6,1)]:=⟨_,Tryz.underlying100,by kernel_rfl⟩
instance:cJ Tryz.prog 105 (.pointer 182):=⟨Tryz.underlying105⟩
instance:dm Tryz.prog 105 (.pointer none) 1 8:=bG ah
instance:cJ Tryz.prog 109 (.slice 112):=⟨Tryz.underlying109⟩
instance:dm Tryz.prog 109 (.slice none 0 0) 1 24:=bG ah
instance : cJ Tryz.prog 112 (.struct #[⟨ "instance", 52, 0, false, "", "helmsman/ground", 0⟩, ⟨ "pre", 27, 2, false, "", "helmsman/ground", 32⟩, ⟨ "add", 27, 3, false, "", "helmsman/ground", 56⟩, ⟨ "del", 27, 4, false, "", "helmsman/ground", 80⟩, ⟨ "cost", 3, 5, false, "", "helmsman/ground", 104⟩]) := ⟨Tryz.underlying112⟩
instance:dm Tryz.prog 112 (.agg #[.int .i64 0,.slice none 0 0,.slice none 0 0,.slice none 0 0,.slice none 0 0,.int .i64 0]) 6 112:=bG ah
instance:mf Tryz.prog 112 [(0,2),(2,1),(3,1),(4,1),(5,1)]:=⟨_,Tryz.underlying112,by kernel_rfl⟩
instance:cJ Tryz.prog 115 (.slice 4):=⟨Tryz.underlying115⟩
instance:dm Tryz.prog 115 (.slice none 0 0) 1 24:=bG ah
instance:cJ Tryz.prog 116 (.func #[68] #[4] false):=⟨Tryz.underlying116⟩
instance:dm Tryz.prog 116 (.nilFunc) 1 8:=bG ah
instance:cJ Tryz.prog 118 (.func #[3] #[4] false):=⟨Tryz.underlying118⟩
instance:dm Tryz.prog 118 (.nilFunc) 1 8:=bG ah
instance:cJ Tryz.prog 124 (.pointer 129):=⟨Tryz.underlying124⟩
instance:dm Tryz.prog 124 (.pointer none) 1 8:=bG ah
instance:cJ Tryz.prog 127 (.pointer 217):=⟨Tryz.underlying127⟩
instance:dm Tryz.prog 127 (.pointer none) 1 8:=bG ah
instance : cJ Tryz.prog 129 (.struct #[⟨ "Store", 127, 0, true, "", "", 0⟩, ⟨ "all", 3, 1, false, "", "helmsman/deadend", 8⟩]) := ⟨Tryz.underlying129⟩
instance:dm Tryz.prog 129 (.agg #[.pointer none,.int .i64 0]) 2 16:=bG ah
instance:mf Tryz.prog 129 [(0,1),(1,1)]:=⟨_,Tryz.underlying129,by kernel_rfl⟩
instance:cJ Tryz.prog 131 (.int .u32):=⟨Tryz.underlying131⟩
instance:dm Tryz.prog 131 (.int .u32 0) 1 4:=bG ah
instance : cJ Tryz.prog 134 (.struct #[⟨ "Need", 35, 0, false, "", "", 0⟩, ⟨ "Not", 35, 1, false, "", "", 24⟩]) := ⟨Tryz.underlying134⟩
instance:dm Tryz.prog 134 (.agg #[.slice none 0 0,.slice none 0 0]) 2 48:=bG ah
instance:mf Tryz.prog 134 [(0,1),(1,1)]:=⟨_,Tryz.underlying134,by kernel_rfl⟩
instance : cJ Tryz.prog 143 (.struct #[⟨ "Found", 4, 0, false, "", "", 0⟩, ⟨ "Plan", 35, 1, false, "", "", 8⟩, ⟨ "Cost", 3, 2, false, "", "", 32⟩, ⟨ "Expanded", 3, 3, false, "", "", 40⟩]) := ⟨Tryz.underlying143⟩
instance:dm Tryz.prog 143 (.agg #[.bool false,.slice none 0 0,.int .i64 0,.int .i64 0]) 4 48:=bG ah
instance:mf Tryz.prog 143 [(0,1),(1,1),(2,1),(3,1)]:=⟨_,Tryz.underlying143,by kernel_rfl⟩
instance : cJ Tryz.prog 148 (.struct #[⟨ "Name", 9, 0, false, "", "", 0⟩, ⟨ "Type", 3, 1, false, "", "", 16⟩]) := ⟨Tryz.underlying148⟩
instance:dm Tryz.prog 148 (.agg #[.string ⟨#[]⟩,.int .i64 0]) 2 24:=bG ah
instance:mf Tryz.prog 148 [(0,1),(1,1)]:=⟨_,Tryz.underlying148,by kernel_rfl⟩
instance : cJ Tryz.prog 150 (.struct #[⟨ "Name", 9, 0, false, "", "", 0⟩, ⟨ "Types", 35, 1, false, "", "", 16⟩]) := ⟨Tryz.underlying150⟩
instance:dm Tryz.prog 150 (.agg #[.string ⟨#[]⟩,.slice none 0 0]) 2 40:=bG ah
instance:mf Tryz.prog 150 [(0,1),(1,1)]:=⟨_,Tryz.underlying150,by kernel_rfl⟩
instance:cJ Tryz.prog 158 (.func #[52] #[4] false):=⟨Tryz.underlying158⟩
instance:dm Tryz.prog 158 (.nilFunc) 1 8:=bG ah
instance:cJ Tryz.prog 174 (.array 2 3):=⟨Tryz.underlying174⟩
instance:dm Tryz.prog 174 (.agg #[.int .i64 0,.int .i64 0]) 2 16:=bG ah
instance:cJ Tryz.prog 177 (.func #[66,66] #[4] false):=⟨Tryz.underlying177⟩
instance:dm Tryz.prog 177 (.nilFunc) 1 8:=bG ah
instance:cJ Tryz.prog 178 (.func #[66,66] #[3] false):=⟨Tryz.underlying178⟩
instance:dm Tryz.prog 178 (.nilFunc) 1 8:=bG ah
instance : cJ Tryz.prog 182 (.struct #[⟨ "d", 29, 0, false, "", "helmsman/ground", 0⟩, ⟨ "fluent", 115, 6, false, "", "helmsman/ground", 144⟩, ⟨ "negated", 115, 7, false, "", "helmsman/ground", 168⟩]) := ⟨Tryz.underlying182⟩
instance:dm Tryz.prog 182 (.agg #[.slice none 0 0,.slice none 0 0,.slice none 0 0,.slice none 0 0,.slice none 0 0,.slice none 0 0,.slice none 0 0,.slice none 0 0]) 8 192:=bG ah
instance:mf Tryz.prog 182 [(0,6),(6,1),(7,1)]:=⟨_,Tryz.underlying182,by kernel_rfl⟩
instance:cJ Tryz.prog 187 (.func #[189] #[] false):=⟨Tryz.underlying187⟩
instance:dm Tryz.prog 187 (.nilFunc) 1 8:=bG ah
instance:cJ Tryz.prog 189 (.func #[112] #[4] false):=⟨Tryz.underlying189⟩
instance:dm Tryz.prog 189 (.nilFunc) 1 8:=bG ah
instance:cJ Tryz.prog 190 (.func #[174] #[4] false):=⟨Tryz.underlying190⟩
instance:dm Tryz.prog 190 (.nilFunc) 1 8:=bG ah
instance:cJ Tryz.prog 200 (.pointer 206):=⟨Tryz.underlying200⟩
instance:dm Tryz.prog 200 (.pointer none) 1 8:=bG ah
instance:cJ Tryz.prog 203 (.pointer 260):=⟨Tryz.underlying203⟩
instance:dm Tryz.prog 203 (.pointer none) 1 8:=bG ah
instance:cJ Tryz.prog 204 (.map 131 3):=⟨Tryz.underlying204⟩
instance:dm Tryz.prog 204 (.map none) 1 8:=bG ah
instance : cJ Tryz.prog 206 (.struct #[⟨ "w", 203, 0, false, "", "helmsman/lowerbound", 0⟩, ⟨ "of", 204, 1, false, "", "helmsman/lowerbound", 8⟩]) := ⟨Tryz.underlying206⟩
instance:dm Tryz.prog 206 (.agg #[.pointer none,.map none]) 2 16:=bG ah
instance:mf Tryz.prog 206 [(0,1),(1,1)]:=⟨_,Tryz.underlying206,by kernel_rfl⟩
instance:cJ Tryz.prog 213 (.slice 270):=⟨Tryz.underlying213⟩
instance:dm Tryz.prog 213 (.slice none 0 0) 1 24:=bG ah
instance:cJ Tryz.prog 214 (.map 270 3):=⟨Tryz.underlying214⟩
instance:dm Tryz.prog 214 (.map none) 1 8:=bG ah
instance:cJ Tryz.prog 215 (.map 266 3):=⟨Tryz.underlying215⟩
instance:dm Tryz.prog 215 (.map none) 1 8:=bG ah
instance : cJ Tryz.prog 217 (.struct #[⟨ "levels", 3, 0, false, "", "helmsman/diagram", 0⟩, ⟨ "nodes", 213, 1, false, "", "helmsman/diagram", 8⟩, ⟨ "found", 214, 2, false, "", "helmsman/diagram", 32⟩, ⟨ "pairs", 215, 3, false, "", "helmsman/diagram", 40⟩]) := ⟨Tryz.underlying217⟩
instance:dm Tryz.prog 217 (.agg #[.int .i64 0,.slice none 0 0,.map none,.map none]) 4 48:=bG ah
instance:mf Tryz.prog 217 [(0,1),(1,1),(2,1),(3,1)]:=⟨_,Tryz.underlying217,by kernel_rfl⟩
instance:cJ Tryz.prog 222 (.func #[3] #[3] false):=⟨Tryz.underlying222⟩
instance:dm Tryz.prog 222 (.nilFunc) 1 8:=bG ah
instance:cJ Tryz.prog 223 (.slice 131):=⟨Tryz.underlying223⟩
instance:dm Tryz.prog 223 (.slice none 0 0) 1 24:=bG ah
instance:cJ Tryz.prog 232 (.slice 235):=⟨Tryz.underlying232⟩
instance:dm Tryz.prog 232 (.slice none 0 0) 1 24:=bG ah
instance:cJ Tryz.prog 239 (.int .u64):=⟨Tryz.underlying239⟩
instance:dm Tryz.prog 239 (.int .u64 0) 1 8:=bG ah
instance : cJ Tryz.prog 241 (.struct #[⟨ "Name", 9, 0, false, "", "", 0⟩, ⟨ "Parent", 3, 1, false, "", "", 16⟩]) := ⟨Tryz.underlying241⟩
instance:dm Tryz.prog 241 (.agg #[.string ⟨#[]⟩,.int .i64 0]) 2 24:=bG ah
instance:mf Tryz.prog 241 [(0,1),(1,1)]:=⟨_,Tryz.underlying241,by kernel_rfl⟩
instance:cJ Tryz.prog 245 (.slice 26):=⟨Tryz.underlying245⟩
instance:dm Tryz.prog 245 (.slice none 0 0) 1 24:=bG ah
instance:cJ Tryz.prog 246 (.func #[35] #[4] false):=⟨Tryz.underlying246⟩
instance:dm Tryz.prog 246 (.nilFunc) 1 8:=bG ah
instance:cJ Tryz.prog 250 (.func #[66] #[4] false):=⟨Tryz.underlying250⟩
instance:dm Tryz.prog 250 (.nilFunc) 1 8:=bG ah
instance:cJ Tryz.prog 257 (.func #[78] #[4] false):=⟨Tryz.underlying257⟩
instance:dm Tryz.prog 257 (.nilFunc) 1 8:=bG ah
instance:cJ Tryz.prog 258 (.slice 312):=⟨Tryz.underlying258⟩
instance:dm Tryz.prog 258 (.slice none 0 0) 1 24:=bG ah
instance : cJ Tryz.prog 260 (.struct #[⟨ "start", 131, 0, false, "", "helmsman/space", 0⟩, ⟨ "goal", 131, 1, false, "", "helmsman/space", 4⟩, ⟨ "ops", 258, 2, false, "", "helmsman/space", 8⟩]) := ⟨Tryz.underlying260⟩
instance:dm Tryz.prog 260 (.agg #[.int .u32 0,.int .u32 0,.slice none 0 0]) 3 32:=bG ah
instance:mf Tryz.prog 260 [(0,1),(1,1),(2,1)]:=⟨_,Tryz.underlying260,by kernel_rfl⟩
instance:cJ Tryz.prog 266 (.array 3 3):=⟨Tryz.underlying266⟩
instance:dm Tryz.prog 266 (.agg #[.int .i64 0,.int .i64 0,.int .i64 0]) 3 24:=bG ah
instance : cJ Tryz.prog 270 (.struct #[⟨ "Level", 3, 0, false, "", "", 0⟩, ⟨ "Low", 3, 1, false, "", "", 8⟩, ⟨ "High", 3, 2, false, "", "", 16⟩]) := ⟨Tryz.underlying270⟩
instance:dm Tryz.prog 270 (.agg #[.int .i64 0,.int .i64 0,.int .i64 0]) 3 24:=bG ah
instance:mf Tryz.prog 270 [(0,1),(1,1),(2,1)]:=⟨_,Tryz.underlying270,by kernel_rfl⟩
instance:cJ Tryz.prog 273 (.map 3 3):=⟨Tryz.underlying273⟩
instance:dm Tryz.prog 273 (.map none) 1 8:=bG ah
instance:cJ Tryz.prog 277 (.func #[131,131] #[3] false):=⟨Tryz.underlying277⟩
instance:dm Tryz.prog 277 (.nilFunc) 1 8:=bG ah
instance:cJ Tryz.prog 278 (.map 131 287):=⟨Tryz.underlying278⟩
instance:dm Tryz.prog 278 (.map none) 1 8:=bG ah
instance:cJ Tryz.prog 279 (.pointer 325):=⟨Tryz.underlying279⟩
instance:dm Tryz.prog 279 (.pointer none) 1 8:=bG ah
instance : cJ Tryz.prog 286 (.struct #[⟨ "Op", 3, 0, false, "", "", 0⟩, ⟨ "Cost", 3, 1, false, "", "", 8⟩, ⟨ "To", 131, 2, false, "", "", 16⟩]) := ⟨Tryz.underlying286⟩
instance:dm Tryz.prog 286 (.agg #[.int .i64 0,.int .i64 0,.int .u32 0]) 3 24:=bG ah
instance:mf Tryz.prog 286 [(0,1),(1,1),(2,1)]:=⟨_,Tryz.underlying286,by kernel_rfl⟩
instance:cJ Tryz.prog 287 (.slice 289):=⟨Tryz.underlying287⟩
instance:dm Tryz.prog 287 (.slice none 0 0) 1 24:=bG ah
instance : cJ Tryz.prog 289 (.struct #[⟨ "from", 131, 0, false, "", "helmsman/space", 0⟩, ⟨ "cost", 3, 1, false, "", "helmsman/space", 8⟩]) := ⟨Tryz.underlying289⟩
instance:dm Tryz.prog 289 (.agg #[.int .u32 0,.int .i64 0]) 2 16:=bG ah
instance:mf Tryz.prog 289 [(0,1),(1,1)]:=⟨_,Tryz.underlying289,by kernel_rfl⟩
instance:cJ Tryz.prog 299 (.struct #[]):=⟨Tryz.underlying299⟩
instance:dm Tryz.prog 299 (.agg #[]) 0 0:=bG ah
instance:mf Tryz.prog 299 []:=⟨_,Tryz.underlying299,by kernel_rfl⟩
instance:cJ Tryz.prog 300 (.struct #[]):=⟨Tryz.underlying300⟩
instance:dm Tryz.prog 300 (.agg #[]) 0 0:=bG ah
instance:mf Tryz.prog 300 []:=⟨_,Tryz.underlying300,by kernel_rfl⟩
instance : cJ Tryz.prog 302 (.struct #[⟨ "kind", 3, 0, false, "", "helmsman/planner", 0⟩]) := ⟨Tryz.underlying302⟩
instance:dm Tryz.prog 302 (.agg #[.int .i64 0]) 1 8:=bG ah
instance:mf Tryz.prog 302 [(0,1)]:=⟨_,Tryz.underlying302,by kernel_rfl⟩
instance:cJ Tryz.prog 303 (.struct #[]):=⟨Tryz.underlying303⟩
instance:dm Tryz.prog 303 (.agg #[]) 0 0:=bG ah
instance:mf Tryz.prog 303 []:=⟨_,Tryz.underlying303,by kernel_rfl⟩
instance : cJ Tryz.prog 312 (.struct #[⟨ "pre", 131, 0, false, "", "helmsman/space", 0⟩, ⟨ "add", 131, 1, false, "", "helmsman/space", 4⟩, ⟨ "del", 131, 2, false, "", "helmsman/space", 8⟩, ⟨ "cost", 3, 3, false, "", "helmsman/space", 16⟩]) := ⟨Tryz.underlying312⟩
instance:dm Tryz.prog 312 (.agg #[.int .u32 0,.int .u32 0,.int .u32 0,.int .i64 0]) 4 24:=bG ah
instance:mf Tryz.prog 312 [(0,1),(1,1),(2,1),(3,1)]:=⟨_,Tryz.underlying312,by kernel_rfl⟩
instance:cJ Tryz.prog 318 (.map 131 299):=⟨Tryz.underlying318⟩
instance:dm Tryz.prog 318 (.map none) 1 8:=bG ah
instance:cJ Tryz.prog 321 (.map 131 326):=⟨Tryz.underlying321⟩
instance:dm Tryz.prog 321 (.map none) 1 8:=bG ah
instance:cJ Tryz.prog 323 (.slice 326):=⟨Tryz.underlying323⟩
instance:dm Tryz.prog 323 (.slice none 0 0) 1 24:=bG ah
instance : cJ Tryz.prog 325 (.struct #[⟨ "heap", 323, 0, false, "", "helmsman/openlist", 0⟩, ⟨ "found", 321, 1, false, "", "helmsman/openlist", 24⟩, ⟨ "time", 3, 2, false, "", "helmsman/openlist", 32⟩]) := ⟨Tryz.underlying325⟩
instance:dm Tryz.prog 325 (.agg #[.slice none 0 0,.map none,.int .i64 0]) 3 40:=bG ah
instance:mf Tryz.prog 325 [(0,1),(1,1),(2,1)]:=⟨_,Tryz.underlying325,by kernel_rfl⟩
instance:cJ Tryz.prog 326 (.pointer 329):=⟨Tryz.underlying326⟩
instance:dm Tryz.prog 326 (.pointer none) 1 8:=bG ah
instance : cJ Tryz.prog 329 (.struct #[⟨ "item", 131, 0, false, "", "helmsman/openlist", 0⟩, ⟨ "key", 3, 1, false, "", "helmsman/openlist", 8⟩, ⟨ "time", 3, 2, false, "", "helmsman/openlist", 16⟩, ⟨ "at", 3, 3, false, "", "helmsman/openlist", 24⟩]) := ⟨Tryz.underlying329⟩
instance:dm Tryz.prog 329 (.agg #[.int .u32 0,.int .i64 0,.int .i64 0,.int .i64 0]) 4 32:=bG ah
instance:mf Tryz.prog 329 [(0,1),(1,1),(2,1),(3,1)]:=⟨_,Tryz.underlying329,by kernel_rfl⟩
instance:cJ Tryz.prog 331 (.pointer 323):=⟨Tryz.underlying331⟩
instance:dm Tryz.prog 331 (.pointer none) 1 8:=bG ah
instance:cJ Tryz.prog 336 (.func #[241] #[4] false):=⟨Tryz.underlying336⟩
instance:dm Tryz.prog 336 (.nilFunc) 1 8:=bG ah
instance:cJ Tryz.prog 338 (.func #[148] #[4] false):=⟨Tryz.underlying338⟩
instance:dm Tryz.prog 338 (.nilFunc) 1 8:=bG ah
instance:cJ Tryz.prog 340 (.func #[150] #[4] false):=⟨Tryz.underlying340⟩
instance:dm Tryz.prog 340 (.nilFunc) 1 8:=bG ah
instance:cJ Tryz.prog 342 (.func #[100] #[4] false):=⟨Tryz.underlying342⟩
instance:dm Tryz.prog 342 (.nilFunc) 1 8:=bG ah
instance:cJ Tryz.prog 347 (.int .i64):=⟨Tryz.underlying347⟩
instance:dm Tryz.prog 347 (.int .i64 0) 1 8:=bG ah
instance:cJ Tryz.prog 354 (.int .u64):=⟨Tryz.underlying354⟩
instance:dm Tryz.prog 354 (.int .u64 0) 1 8:=bG ah
instance:cJ Tryz.prog 376 (.int .u64):=⟨Tryz.underlying376⟩
instance:dm Tryz.prog 376 (.int .u64 0) 1 8:=bG ah
instance:cJ Tryz.prog 380 (.pointer 3):=⟨Tryz.underlying380⟩
instance:dm Tryz.prog 380 (.pointer none) 1 8:=bG ah
instance : cJ Tryz.prog 409 (.struct #[⟨ "state", 35, 0, false, "", "helmsman/commuting", 0⟩, ⟨ "cost", 3, 1, false, "", "helmsman/commuting", 24⟩, ⟨ "parent", 3, 2, false, "", "helmsman/commuting", 32⟩, ⟨ "op", 3, 3, false, "", "helmsman/commuting", 40⟩]) := ⟨Tryz.underlying409⟩
instance:dm Tryz.prog 409 (.agg #[.slice none 0 0,.int .i64 0,.int .i64 0,.int .i64 0]) 4 48:=bG ah
instance:mf Tryz.prog 409 [(0,1),(1,1),(2,1),(3,1)]:=⟨_,Tryz.underlying409,by kernel_rfl⟩
instance:cJ Tryz.prog 410 (.slice 409):=⟨Tryz.underlying410⟩
instance:dm Tryz.prog 410 (.slice none 0 0) 1 24:=bG ah
instance:cJ Tryz.prog 411 (.pointer 414):=⟨Tryz.underlying411⟩
instance:dm Tryz.prog 411 (.pointer none) 1 8:=bG ah
instance:cJ Tryz.prog 412 (.pointer 410):=⟨Tryz.underlying412⟩
instance:dm Tryz.prog 412 (.pointer none) 1 8:=bG ah
instance : cJ Tryz.prog 414 (.struct #[⟨ "nodes", 412, 0, false, "", "helmsman/commuting", 0⟩, ⟨ "list", 35, 1, false, "", "helmsman/commuting", 8⟩]) := ⟨Tryz.underlying414⟩
instance:dm Tryz.prog 414 (.agg #[.pointer none,.slice none 0 0]) 2 32:=bG ah
instance:mf Tryz.prog 414 [(0,1),(1,1)]:=⟨_,Tryz.underlying414,by kernel_rfl⟩
instance:FT Tryz.prog 266:=Bk inferInstance inferInstance ah ah
instance:FT Tryz.prog 270:=zp inferInstance inferInstance inferInstance inferInstance ⟨rfl,rfl,rfl⟩ ah ah
def Om:List (Nat×TI):=[(3,⟨false,1,8,[.v (.int .i64 0)],.int .i64⟩),
 (4,⟨false,1,1,[.v (.bool false)],.bool⟩),
 (5,⟨false,1,1,[.v (.int .u8 0)],.int .u8⟩),
 (9,⟨false,1,16,[.v (.string ⟨#[]⟩)],.str⟩),
 (22,⟨false,1,24,[.v (.slice none 0 0)],.sl 241⟩),
 (23,⟨false,1,24,[.v (.slice none 0 0)],.sl 148⟩),
 (24,⟨false,1,24,[.v (.slice none 0 0)],.sl 150⟩),
 (25,⟨false,1,24,[.v (.slice none 0 0)],.sl 100⟩),
 (26,⟨false,1,24,[.v (.slice none 0 0)],.sl 66⟩),
 (27,⟨false,1,24,[.v (.slice none 0 0)],.sl 68⟩),
 (29,⟨true,6,144,[.v (.slice none 0 0),.v (.slice none 0 0),.v (.slice none 0 0),.v (.slice none 0 0),.v (.slice none 0 0),.v (.slice none 0 0)],.st [(0,1),(1,1),(2,1),(3,1),(4,1),(5,1)] false⟩),
 (30,⟨false,1,24,[.v (.slice none 0 0)],.sl 52⟩),
 (31,⟨false,1,24,[.v (.slice none 0 0)],.sl 78⟩),
 (32,⟨false,1,24,[.v (.slice none 0 0)],.sl 134⟩),
 (34,⟨true,5,88,[.v (.bool false),.v (.slice none 0 0),.v (.int .i64 0),.v (.slice none 0 0),.v (.slice none 0 0)],.st [(0,1),(1,1),(2,1),(3,1),(4,1)] false⟩),
 (35,⟨false,1,24,[.v (.slice none 0 0)],.sl 3⟩),
 (36,⟨false,1,24,[.v (.slice none 0 0)],.sl 94⟩),
 (38,⟨true,4,80,[.v (.int .i64 0),.v (.slice none 0 0),.v (.slice none 0 0),.v (.slice none 0 0)],.st [(0,1),(1,1),(2,1),(3,1)] false⟩),
 (40,⟨true,6,128,[.v (.int .i64 0),.v (.slice none 0 0),.v (.slice none 0 0),.v (.slice none 0 0),.v (.slice none 0 0),.v (.slice none 0 0)],.st [(0,4),(4,1),(5,1)] false⟩),
 (42,⟨true,2,16,[.v (.int .i64 0),.v (.int .i64 0)],.st [(0,1),(1,1)] true⟩),
 (52,⟨true,2,32,[.v (.int .i64 0),.v (.slice none 0 0)],.st [(0,1),(1,1)] false⟩),
 (66,⟨true,2,32,[.v (.int .i64 0),.v (.slice none 0 0)],.st [(0,1),(1,1)] false⟩),
 (68,⟨true,3,40,[.v (.bool false),.v (.int .i64 0),.v (.slice none 0 0)],.st [(0,1),(1,2)] false⟩),
 (78,⟨true,2,32,[.v (.slice none 0 0),.v (.int .i64 0)],.st [(0,1),(1,1)] false⟩),
 (87,⟨false,1,24,[.v (.slice none 0 0)],.sl 35⟩),
 (94,⟨true,4,80,[.v (.slice none 0 0),.v (.slice none 0 0),.v (.slice none 0 0),.v (.int .i64 0)],.st [(0,1),(1,1),(2,1),(3,1)] false⟩),
 (98,⟨false,1,24,[.v (.slice none 0 0)],.sl 174⟩),
 (100,⟨true,7,144,[.v (.string ⟨#[]⟩),.v (.slice none 0 0),.v (.slice none 0 0),.v (.slice none 0 0),.v (.slice none 0 0),.v (.slice none 0 0),.v (.int .i64 0)],.st [(0,1),(1,1),(2,1),(3,1),(4,1),(5,1),(6,1)] false⟩),
 (105,⟨false,1,8,[.v (.pointer none)],.other⟩),
 (109,⟨false,1,24,[.v (.slice none 0 0)],.sl 112⟩),
 (112,⟨true,6,112,[.v (.int .i64 0),.v (.slice none 0 0),.v (.slice none 0 0),.v (.slice none 0 0),.v (.slice none 0 0),.v (.int .i64 0)],.st [(0,2),(2,1),(3,1),(4,1),(5,1)] false⟩),
 (115,⟨false,1,24,[.v (.slice none 0 0)],.sl 4⟩),
 (116,⟨false,1,8,[.v (.nilFunc)],.other⟩),
 (118,⟨false,1,8,[.v (.nilFunc)],.other⟩),
 (124,⟨false,1,8,[.v (.pointer none)],.other⟩),
 (127,⟨false,1,8,[.v (.pointer none)],.other⟩),
 (129,⟨true,2,16,[.v (.pointer none),.v (.int .i64 0)],.st [(0,1),(1,1)] false⟩),
 (131,⟨false,1,4,[.v (.int .u32 0)],.int .u32⟩),
 (134,⟨true,2,48,[.v (.slice none 0 0),.v (.slice none 0 0)],.st [(0,1),(1,1)] false⟩),
 (143,⟨true,4,48,[.v (.bool false),.v (.slice none 0 0),.v (.int .i64 0),.v (.int .i64 0)],.st [(0,1),(1,1),(2,1),(3,1)] false⟩),
 (148,⟨true,2,24,[.v (.string ⟨#[]⟩),.v (.int .i64 0)],.st [(0,1),(1,1)] false⟩),
 (150,⟨true,2,40,[.v (.string ⟨#[]⟩),.v (.slice none 0 0)],.st [(0,1),(1,1)] false⟩),
 (158,⟨false,1,8,[.v (.nilFunc)],.other⟩),
 (174,⟨true,2,16,[.v (.int .i64 0),.v (.int .i64 0)],.ar 2 3 true⟩),
 (177,⟨false,1,8,[.v (.nilFunc)],.other⟩),
 (178,⟨false,1,8,[.v (.nilFunc)],.other⟩),
 (182,⟨true,8,192,[.v (.slice none 0 0),.v (.slice none 0 0),.v (.slice none 0 0),.v (.slice none 0 0),.v (.slice none 0 0),.v (.slice none 0 0),.v (.slice none 0 0),.v (.slice none 0 0)],.st [(0,6),(6,1),(7,1)] false⟩),
 (187,⟨false,1,8,[.v (.nilFunc)],.other⟩),
 (189,⟨false,1,8,[.v (.nilFunc)],.other⟩),
 (190,⟨false,1,8,[.v (.nilFunc)],.other⟩),
 (200,⟨false,1,8,[.v (.pointer none)],.other⟩),
 (203,⟨false,1,8,[.v (.pointer none)],.other⟩),
 (204,⟨false,1,8,[.v (.map none)],.other⟩),
 (206,⟨true,2,16,[.v (.pointer none),.v (.map none)],.st [(0,1),(1,1)] false⟩),
 (213,⟨false,1,24,[.v (.slice none 0 0)],.sl 270⟩),
 (214,⟨false,1,8,[.v (.map none)],.other⟩),
 (215,⟨false,1,8,[.v (.map none)],.other⟩),
 (217,⟨true,4,48,[.v (.int .i64 0),.v (.slice none 0 0),.v (.map none),.v (.map none)],.st [(0,1),(1,1),(2,1),(3,1)] false⟩),
 (222,⟨false,1,8,[.v (.nilFunc)],.other⟩),
 (223,⟨false,1,24,[.v (.slice none 0 0)],.sl 131⟩),
 (232,⟨false,1,24,[.v (.slice none 0 0)],.sl 235⟩),
 (239,⟨false,1,8,[.v (.int .u64 0)],.int .u64⟩),
 (241,⟨true,2,24,[.v (.string ⟨#[]⟩),.v (.int .i64 0)],.st [(0,1),(1,1)] false⟩),
 (245,⟨false,1,24,[.v (.slice none 0 0)],.sl 26⟩),
 (246,⟨false,1,8,[.v (.nilFunc)],.other⟩),
 (250,⟨false,1,8,[.v (.nilFunc)],.other⟩),
 (257,⟨false,1,8,[.v (.nilFunc)],.other⟩),
 (258,⟨false,1,24,[.v (.slice none 0 0)],.sl 312⟩),
 (260,⟨true,3,32,[.v (.int .u32 0),.v (.int .u32 0),.v (.slice none 0 0)],.st [(0,1),(1,1),(2,1)] false⟩),
 (266,⟨true,3,24,[.v (.int .i64 0),.v (.int .i64 0),.v (.int .i64 0)],.ar 3 3 false⟩),
 (270,⟨true,3,24,[.v (.int .i64 0),.v (.int .i64 0),.v (.int .i64 0)],.st [(0,1),(1,1),(2,1)] false⟩),
 (273,⟨false,1,8,[.v (.map none)],.other⟩),
 (277,⟨false,1,8,[.v (.nilFunc)],.other⟩),
 (278,⟨false,1,8,[.v (.map none)],.other⟩),
 (279,⟨false,1,8,[.v (.pointer none)],.other⟩),
 (286,⟨true,3,24,[.v (.int .i64 0),.v (.int .i64 0),.v (.int .u32 0)],.st [(0,1),(1,1),(2,1)] false⟩),
 (287,⟨false,1,24,[.v (.slice none 0 0)],.sl 289⟩),
 (289,⟨true,2,16,[.v (.int .u32 0),.v (.int .i64 0)],.st [(0,1),(1,1)] true⟩),
 (299,⟨true,0,0,[],.st [] false⟩),
 (300,⟨true,0,0,[],.st [] false⟩),
 (302,⟨true,1,8,[.v (.int .i64 0)],.st [(0,1)] false⟩),
 (303,⟨true,0,0,[],.st [] false⟩),
 (312,⟨true,4,24,[.v (.int .u32 0),.v (.int .u32 0),.v (.int .u32 0),.v (.int .i64 0)],.st [(0,1),(1,1),(2,1),(3,1)] false⟩),
 (318,⟨false,1,8,[.v (.map none)],.other⟩),
 (321,⟨false,1,8,[.v (.map none)],.other⟩),
 (323,⟨false,1,24,[.v (.slice none 0 0)],.sl 326⟩),
 (325,⟨true,3,40,[.v (.slice none 0 0),.v (.map none),.v (.int .i64 0)],.st [(0,1),(1,1),(2,1)] false⟩),
 (326,⟨false,1,8,[.v (.pointer none)],.other⟩),
 (329,⟨true,4,32,[.v (.int .u32 0),.v (.int .i64 0),.v (.int .i64 0),.v (.int .i64 0)],.st [(0,1),(1,1),(2,1),(3,1)] false⟩),
 (331,⟨false,1,8,[.v (.pointer none)],.other⟩),
 (336,⟨false,1,8,[.v (.nilFunc)],.other⟩),
 (338,⟨false,1,8,[.v (.nilFunc)],.other⟩),
 (340,⟨false,1,8,[.v (.nilFunc)],.other⟩),
 (342,⟨false,1,8,[.v (.nilFunc)],.other⟩),
 (347,⟨false,1,8,[.v (.int .i64 0)],.int .i64⟩),
 (354,⟨false,1,8,[.v (.int .u64 0)],.int .u64⟩),
 (376,⟨false,1,8,[.v (.int .u64 0)],.int .u64⟩),
 (380,⟨false,1,8,[.v (.pointer none)],.other⟩),
 (409,⟨true,4,48,[.v (.slice none 0 0),.v (.int .i64 0),.v (.int .i64 0),.v (.int .i64 0)],.st [(0,1),(1,1),(2,1),(3,1)] false⟩),
 (410,⟨false,1,24,[.v (.slice none 0 0)],.sl 409⟩),
 (411,⟨false,1,8,[.v (.pointer none)],.other⟩),
 (412,⟨false,1,8,[.v (.pointer none)],.other⟩),
 (414,⟨true,2,32,[.v (.pointer none),.v (.slice none 0 0)],.st [(0,1),(1,1)] false⟩)]
def aU (t:Nat):Option TI:=Ov Om t
theorem tA {P:Program} {t:TypeId} {d:TypeDesc} {z:Value} {n b:Nat} {ag:Bool} {zs:List AV} {k:xr} [hu:cJ P t d] [hi:dm P t z n b] (h3:Dt P t d k:=by first|exact trivial|exact rfl|exact Lm inferInstance) (h1:kc d=ag:=by rfl) (h2:(AV.dA z).cells=zs:=by rfl):AT P t ⟨ag,n,b,zs,k⟩:=Fy hu hi h1 h2 h3
theorem MJ:Fw Tryz.prog Om:=⟨tA,
 tA,
 tA,
 tA,
 tA,
 tA,
 tA,
 tA,
 tA,
 tA,
 tA,
 tA,
 tA,
 tA,
 tA,
 tA,
 tA,
 tA,
 tA,
 Fy inferInstance inferInstance rfl rfl (Cs inferInstance inferInstance inferInstance ah),
 tA,
 tA,
 tA,
 tA,
 tA,
 tA,
 tA,
 tA,
 tA,
 tA,
 tA,
 tA,
 tA,
 tA,
 tA,
 tA,
 tA,
 tA,
 tA,
 tA,
 tA,
 tA,
 tA,
 Fy inferInstance inferInstance rfl rfl (⟨rfl,fun _=>⟨rfl,⟨_,inferInstance⟩,by kernel_rfl,by kernel_rfl,by kernel_rfl⟩⟩),
 tA,
 tA,
 tA,
 tA,
 tA,
 tA,
 tA,
 tA,
 tA,
 tA,
 tA,
 tA,
 tA,
 tA,
 tA,
 tA,
 tA,
 tA,
 tA,
 tA,
 tA,
 tA,
 tA,
 tA,
 tA,
 Fy inferInstance inferInstance rfl rfl (⟨rfl,fun h=>by cases h⟩),
 tA,
 tA,
 tA,
 tA,
 tA,
 tA,
 tA,
 Fy inferInstance inferInstance rfl rfl (Cs inferInstance inferInstance inferInstance ah),
 tA,
 tA,
 tA,
 tA,
 tA,
 tA,
 tA,
 tA,
 tA,
 tA,
 tA,
 tA,
 tA,
 tA,
 tA,
 tA,
 tA,
 tA,
 tA,
 tA,
 tA,
 tA,
 tA,
 tA,
 tA,trivial⟩
instance:Tb Tryz.prog aU:=⟨fun _ _ h=>Fx MJ h⟩
@[go_sem] theorem tt:aU 3=some ⟨false,1,8,[.v (.int .i64 0)],.int .i64⟩∧
 aU 4=some ⟨false,1,1,[.v (.bool false)],.bool⟩∧
 aU 5=some ⟨false,1,1,[.v (.int .u8 0)],.int .u8⟩∧
 aU 9=some ⟨false,1,16,[.v (.string ⟨#[]⟩)],.str⟩∧
 aU 22=some ⟨false,1,24,[.v (.slice none 0 0)],.sl 241⟩∧
 aU 23=some ⟨false,1,24,[.v (.slice none 0 0)],.sl 148⟩∧
 aU 24=some ⟨false,1,24,[.v (.slice none 0 0)],.sl 150⟩∧
 aU 25=some ⟨false,1,24,[.v (.slice none 0 0)],.sl 100⟩∧
 aU 26=some ⟨false,1,24,[.v (.slice none 0 0)],.sl 66⟩∧
 aU 27=some ⟨false,1,24,[.v (.slice none 0 0)],.sl 68⟩∧
 aU 29=some ⟨true,6,144,[.v (.slice none 0 0),.v (.slice none 0 0),.v (.slice none 0 0),.v (.slice none 0 0),.v (.slice none 0 0),.v (.slice none 0 0)],.st [(0,1),(1,1),(2,1),(3,1),(4,1),(5,1)] false⟩∧
 aU 30=some ⟨false,1,24,[.v (.slice none 0 0)],.sl 52⟩∧
 aU 31=some ⟨false,1,24,[.v (.slice none 0 0)],.sl 78⟩∧
 aU 32=some ⟨false,1,24,[.v (.slice none 0 0)],.sl 134⟩∧
 aU 34=some ⟨true,5,88,[.v (.bool false),.v (.slice none 0 0),.v (.int .i64 0),.v (.slice none 0 0),.v (.slice none 0 0)],.st [(0,1),(1,1),(2,1),(3,1),(4,1)] false⟩∧
 aU 35=some ⟨false,1,24,[.v (.slice none 0 0)],.sl 3⟩∧
 aU 36=some ⟨false,1,24,[.v (.slice none 0 0)],.sl 94⟩∧
 aU 38=some ⟨true,4,80,[.v (.int .i64 0),.v (.slice none 0 0),.v (.slice none 0 0),.v (.slice none 0 0)],.st [(0,1),(1,1),(2,1),(3,1)] false⟩∧
 aU 40=some ⟨true,6,128,[.v (.int .i64 0),.v (.slice none 0 0),.v (.slice none 0 0),.v (.slice none 0 0),.v (.slice none 0 0),.v (.slice none 0 0)],.st [(0,4),(4,1),(5,1)] false⟩∧
 aU 42=some ⟨true,2,16,[.v (.int .i64 0),.v (.int .i64 0)],.st [(0,1),(1,1)] true⟩∧
 aU 52=some ⟨true,2,32,[.v (.int .i64 0),.v (.slice none 0 0)],.st [(0,1),(1,1)] false⟩∧
 aU 66=some ⟨true,2,32,[.v (.int .i64 0),.v (.slice none 0 0)],.st [(0,1),(1,1)] false⟩∧
 aU 68=some ⟨true,3,40,[.v (.bool false),.v (.int .i64 0),.v (.slice none 0 0)],.st [(0,1),(1,2)] false⟩∧
 aU 78=some ⟨true,2,32,[.v (.slice none 0 0),.v (.int .i64 0)],.st [(0,1),(1,1)] false⟩∧
 aU 87=some ⟨false,1,24,[.v (.slice none 0 0)],.sl 35⟩∧
 aU 94=some ⟨true,4,80,[.v (.slice none 0 0),.v (.slice none 0 0),.v (.slice none 0 0),.v (.int .i64 0)],.st [(0,1),(1,1),(2,1),(3,1)] false⟩∧
 aU 98=some ⟨false,1,24,[.v (.slice none 0 0)],.sl 174⟩∧
 aU 100=some ⟨true,7,144,[.v (.string ⟨#[]⟩),.v (.slice none 0 0),.v (.slice none 0 0),.v (.slice none 0 0),.v (.slice none 0 0),.v (.slice none 0 0),.v (.int .i64 0)],.st [(0,1),(1,1),(2,1),(3,1),(4,1),(5,1),(6,1)] false⟩∧
 aU 105=some ⟨false,1,8,[.v (.pointer none)],.other⟩∧
 aU 109=some ⟨false,1,24,[.v (.slice none 0 0)],.sl 112⟩∧
 aU 112=some ⟨true,6,112,[.v (.int .i64 0),.v (.slice none 0 0),.v (.slice none 0 0),.v (.slice none 0 0),.v (.slice none 0 0),.v (.int .i64 0)],.st [(0,2),(2,1),(3,1),(4,1),(5,1)] false⟩∧
 aU 115=some ⟨false,1,24,[.v (.slice none 0 0)],.sl 4⟩∧
 aU 116=some ⟨false,1,8,[.v (.nilFunc)],.other⟩∧
 aU 118=some ⟨false,1,8,[.v (.nilFunc)],.other⟩∧
 aU 124=some ⟨false,1,8,[.v (.pointer none)],.other⟩∧
 aU 127=some ⟨false,1,8,[.v (.pointer none)],.other⟩∧
 aU 129=some ⟨true,2,16,[.v (.pointer none),.v (.int .i64 0)],.st [(0,1),(1,1)] false⟩∧
 aU 131=some ⟨false,1,4,[.v (.int .u32 0)],.int .u32⟩∧
 aU 134=some ⟨true,2,48,[.v (.slice none 0 0),.v (.slice none 0 0)],.st [(0,1),(1,1)] false⟩∧
 aU 143=some ⟨true,4,48,[.v (.bool false),.v (.slice none 0 0),.v (.int .i64 0),.v (.int .i64 0)],.st [(0,1),(1,1),(2,1),(3,1)] false⟩∧
 aU 148=some ⟨true,2,24,[.v (.string ⟨#[]⟩),.v (.int .i64 0)],.st [(0,1),(1,1)] false⟩∧
 aU 150=some ⟨true,2,40,[.v (.string ⟨#[]⟩),.v (.slice none 0 0)],.st [(0,1),(1,1)] false⟩∧
 aU 158=some ⟨false,1,8,[.v (.nilFunc)],.other⟩∧
 aU 174=some ⟨true,2,16,[.v (.int .i64 0),.v (.int .i64 0)],.ar 2 3 true⟩∧
 aU 177=some ⟨false,1,8,[.v (.nilFunc)],.other⟩∧
 aU 178=some ⟨false,1,8,[.v (.nilFunc)],.other⟩∧
 aU 182=some ⟨true,8,192,[.v (.slice none 0 0),.v (.slice none 0 0),.v (.slice none 0 0),.v (.slice none 0 0),.v (.slice none 0 0),.v (.slice none 0 0),.v (.slice none 0 0),.v (.slice none 0 0)],.st [(0,6),(6,1),(7,1)] false⟩∧
 aU 187=some ⟨false,1,8,[.v (.nilFunc)],.other⟩∧
 aU 189=some ⟨false,1,8,[.v (.nilFunc)],.other⟩∧
 aU 190=some ⟨false,1,8,[.v (.nilFunc)],.other⟩∧
 aU 200=some ⟨false,1,8,[.v (.pointer none)],.other⟩∧
 aU 203=some ⟨false,1,8,[.v (.pointer none)],.other⟩∧
 aU 204=some ⟨false,1,8,[.v (.map none)],.other⟩∧
 aU 206=some ⟨true,2,16,[.v (.pointer none),.v (.map none)],.st [(0,1),(1,1)] false⟩∧
 aU 213=some ⟨false,1,24,[.v (.slice none 0 0)],.sl 270⟩∧
 aU 214=some ⟨false,1,8,[.v (.map none)],.other⟩∧
 aU 215=some ⟨false,1,8,[.v (.map none)],.other⟩∧
 aU 217=some ⟨true,4,48,[.v (.int .i64 0),.v (.slice none 0 0),.v (.map none),.v (.map none)],.st [(0,1),(1,1),(2,1),(3,1)] false⟩∧
 aU 222=some ⟨false,1,8,[.v (.nilFunc)],.other⟩∧
 aU 223=some ⟨false,1,24,[.v (.slice none 0 0)],.sl 131⟩∧
 aU 232=some ⟨false,1,24,[.v (.slice none 0 0)],.sl 235⟩∧
 aU 239=some ⟨false,1,8,[.v (.int .u64 0)],.int .u64⟩∧
 aU 241=some ⟨true,2,24,[.v (.string ⟨#[]⟩),.v (.int .i64 0)],.st [(0,1),(1,1)] false⟩∧
 aU 245=some ⟨false,1,24,[.v (.slice none 0 0)],.sl 26⟩∧
 aU 246=some ⟨false,1,8,[.v (.nilFunc)],.other⟩∧
 aU 250=some ⟨false,1,8,[.v (.nilFunc)],.other⟩∧
 aU 257=some ⟨false,1,8,[.v (.nilFunc)],.other⟩∧
 aU 258=some ⟨false,1,24,[.v (.slice none 0 0)],.sl 312⟩∧
 aU 260=some ⟨true,3,32,[.v (.int .u32 0),.v (.int .u32 0),.v (.slice none 0 0)],.st [(0,1),(1,1),(2,1)] false⟩∧
 aU 266=some ⟨true,3,24,[.v (.int .i64 0),.v (.int .i64 0),.v (.int .i64 0)],.ar 3 3 false⟩∧
 aU 270=some ⟨true,3,24,[.v (.int .i64 0),.v (.int .i64 0),.v (.int .i64 0)],.st [(0,1),(1,1),(2,1)] false⟩∧
 aU 273=some ⟨false,1,8,[.v (.map none)],.other⟩∧
 aU 277=some ⟨false,1,8,[.v (.nilFunc)],.other⟩∧
 aU 278=some ⟨false,1,8,[.v (.map none)],.other⟩∧
 aU 279=some ⟨false,1,8,[.v (.pointer none)],.other⟩∧
 aU 286=some ⟨true,3,24,[.v (.int .i64 0),.v (.int .i64 0),.v (.int .u32 0)],.st [(0,1),(1,1),(2,1)] false⟩∧
 aU 287=some ⟨false,1,24,[.v (.slice none 0 0)],.sl 289⟩∧
 aU 289=some ⟨true,2,16,[.v (.int .u32 0),.v (.int .i64 0)],.st [(0,1),(1,1)] true⟩∧
 aU 299=some ⟨true,0,0,[],.st [] false⟩∧
 aU 300=some ⟨true,0,0,[],.st [] false⟩∧
 aU 302=some ⟨true,1,8,[.v (.int .i64 0)],.st [(0,1)] false⟩∧
 aU 303=some ⟨true,0,0,[],.st [] false⟩∧
 aU 312=some ⟨true,4,24,[.v (.int .u32 0),.v (.int .u32 0),.v (.int .u32 0),.v (.int .i64 0)],.st [(0,1),(1,1),(2,1),(3,1)] false⟩∧
 aU 318=some ⟨false,1,8,[.v (.map none)],.other⟩∧
 aU 321=some ⟨false,1,8,[.v (.map none)],.other⟩∧
 aU 323=some ⟨false,1,24,[.v (.slice none 0 0)],.sl 326⟩∧
 aU 325=some ⟨true,3,40,[.v (.slice none 0 0),.v (.map none),.v (.int .i64 0)],.st [(0,1),(1,1),(2,1)] false⟩∧
 aU 326=some ⟨false,1,8,[.v (.pointer none)],.other⟩∧
 aU 329=some ⟨true,4,32,[.v (.int .u32 0),.v (.int .i64 0),.v (.int .i64 0),.v (.int .i64 0)],.st [(0,1),(1,1),(2,1),(3,1)] false⟩∧
 aU 331=some ⟨false,1,8,[.v (.pointer none)],.other⟩:=by
 refine ⟨?_,?_,?_,?_,?_,?_,?_,?_,?_,?_,?_,?_,?_,?_,?_,?_,?_,?_,?_,?_,?_,?_,?_,?_,?_,?_,?_,?_,?_,?_,?_,?_,?_,?_,?_,?_,?_,?_,?_,?_,?_,?_,?_,?_,?_,?_,?_,?_,?_,?_,?_,?_,?_,?_,?_,?_,?_,?_,?_,?_,?_,?_,?_,?_,?_,?_,?_,?_,?_,?_,?_,?_,?_,?_,?_,?_,?_,?_,?_,?_,?_,?_,?_,?_,?_,?_,?_,?_,?_,?_⟩<;>rfl
@[go_sem] theorem P8:aU 336=some ⟨false,1,8,[.v (.nilFunc)],.other⟩∧
 aU 338=some ⟨false,1,8,[.v (.nilFunc)],.other⟩∧
 aU 340=some ⟨false,1,8,[.v (.nilFunc)],.other⟩∧
 aU 342=some ⟨false,1,8,[.v (.nilFunc)],.other⟩∧
 aU 347=some ⟨false,1,8,[.v (.int .i64 0)],.int .i64⟩∧
 aU 354=some ⟨false,1,8,[.v (.int .u64 0)],.int .u64⟩∧
 aU 376=some ⟨false,1,8,[.v (.int .u64 0)],.int .u64⟩∧
 aU 380=some ⟨false,1,8,[.v (.pointer none)],.other⟩∧
 aU 409=some ⟨true,4,48,[.v (.slice none 0 0),.v (.int .i64 0),.v (.int .i64 0),.v (.int .i64 0)],.st [(0,1),(1,1),(2,1),(3,1)] false⟩∧
 aU 410=some ⟨false,1,24,[.v (.slice none 0 0)],.sl 409⟩∧
 aU 411=some ⟨false,1,8,[.v (.pointer none)],.other⟩∧
 aU 412=some ⟨false,1,8,[.v (.pointer none)],.other⟩∧
 aU 414=some ⟨true,2,32,[.v (.pointer none),.v (.slice none 0 0)],.st [(0,1),(1,1)] false⟩:=by
 refine ⟨?_,?_,?_,?_,?_,?_,?_,?_,?_,?_,?_,?_,?_⟩<;>rfl
instance:cS Tryz.prog 7:=bc Tryz.func7 ah ah
instance:cS Tryz.prog 8:=bc Tryz.func8 ah ah
instance:cS Tryz.prog 22:=bc Tryz.func22 ah ah
instance:cS Tryz.prog 23:=bc Tryz.func23 ah ah
instance:cS Tryz.prog 24:=bc Tryz.func24 ah ah
instance:cS Tryz.prog 32:=bc Tryz.func32 ah ah
instance:cS Tryz.prog 49:=bc Tryz.func49 ah ah
instance:cS Tryz.prog 50:=bc Tryz.func50 ah ah
instance:cS Tryz.prog 51:=bc Tryz.func51 ah ah
instance:cS Tryz.prog 52:=bc Tryz.func52 ah ah
instance:cS Tryz.prog 53:=bc Tryz.func53 ah ah
instance:cS Tryz.prog 54:=bc Tryz.func54 ah ah
instance:cS Tryz.prog 55:=bc Tryz.func55 ah ah
instance:cS Tryz.prog 56:=bc Tryz.func56 ah ah
instance:cS Tryz.prog 57:=bc Tryz.func57 ah ah
instance:cS Tryz.prog 58:=bc Tryz.func58 ah ah
instance:cS Tryz.prog 59:=bc Tryz.func59 ah ah
instance:cS Tryz.prog 60:=bc Tryz.func60 ah ah
instance:cS Tryz.prog 61:=bc Tryz.func61 ah ah
instance:cS Tryz.prog 62:=bc Tryz.func62 ah ah
instance:cS Tryz.prog 63:=bc Tryz.func63 ah ah
instance:cS Tryz.prog 64:=bc Tryz.func64 ah ah
instance:cS Tryz.prog 65:=bc Tryz.func65 ah ah
instance:cS Tryz.prog 66:=bc Tryz.func66 ah ah
instance:cS Tryz.prog 67:=bc Tryz.func67 ah ah
instance:cS Tryz.prog 68:=bc Tryz.func68 ah ah
instance:cS Tryz.prog 84:=bc Tryz.func84 ah ah
instance:cS Tryz.prog 85:=bc Tryz.func85 ah ah
instance:cS Tryz.prog 86:=bc Tryz.func86 ah ah
instance:cS Tryz.prog 107:=bc Tryz.func107 ah ah
instance:cS Tryz.prog 108:=bc Tryz.func108 ah ah
instance:cS Tryz.prog 109:=bc Tryz.func109 ah ah
instance:cS Tryz.prog 110:=bc Tryz.func110 ah ah
instance:cS Tryz.prog 111:=bc Tryz.func111 ah ah
instance:cS Tryz.prog 112:=bc Tryz.func112 ah ah
instance:cS Tryz.prog 113:=bc Tryz.func113 ah ah
instance:cS Tryz.prog 114:=bc Tryz.func114 ah ah
instance:cS Tryz.prog 115:=bc Tryz.func115 ah ah
instance:cS Tryz.prog 116:=bc Tryz.func116 ah ah
instance:cS Tryz.prog 117:=bc Tryz.func117 ah ah
instance:cS Tryz.prog 118:=bc Tryz.func118 ah ah
instance:cS Tryz.prog 119:=bc Tryz.func119 ah ah
instance:cS Tryz.prog 120:=bc Tryz.func120 ah ah
instance:cS Tryz.prog 121:=bc Tryz.func121 ah ah
instance:cS Tryz.prog 122:=bc Tryz.func122 ah ah
instance:cS Tryz.prog 123:=bc Tryz.func123 ah ah
instance:cS Tryz.prog 124:=bc Tryz.func124 ah ah
instance:cS Tryz.prog 125:=bc Tryz.func125 ah ah
instance:cS Tryz.prog 126:=bc Tryz.func126 ah ah
instance:cS Tryz.prog 127:=bc Tryz.func127 ah ah
instance:cS Tryz.prog 128:=bc Tryz.func128 ah ah
instance:cS Tryz.prog 129:=bc Tryz.func129 ah ah
instance:cS Tryz.prog 130:=bc Tryz.func130 ah ah
instance:cS Tryz.prog 131:=bc Tryz.func131 ah ah
instance:cS Tryz.prog 132:=bc Tryz.func132 ah ah
instance:cS Tryz.prog 133:=bc Tryz.func133 ah ah
instance:cS Tryz.prog 134:=bc Tryz.func134 ah ah
instance:cS Tryz.prog 135:=bc Tryz.func135 ah ah
instance:cS Tryz.prog 136:=bc Tryz.func136 ah ah
instance:cS Tryz.prog 137:=bc Tryz.func137 ah ah
instance:cS Tryz.prog 138:=bc Tryz.func138 ah ah
instance:cS Tryz.prog 139:=bc Tryz.func139 ah ah
instance:cS Tryz.prog 143:=bc Tryz.func143 ah ah
instance:cS Tryz.prog 147:=bc Tryz.func147 ah ah
instance:cS Tryz.prog 157:=bc Tryz.func157 ah ah
instance:cS Tryz.prog 158:=bc Tryz.func158 ah ah
instance:cS Tryz.prog 159:=bc Tryz.func159 ah ah
instance:cS Tryz.prog 160:=bc Tryz.func160 ah ah
instance:cS Tryz.prog 161:=bc Tryz.func161 ah ah
instance:cS Tryz.prog 162:=bc Tryz.func162 ah ah
instance:cS Tryz.prog 163:=bc Tryz.func163 ah ah
instance:cS Tryz.prog 164:=bc Tryz.func164 ah ah
instance:cS Tryz.prog 165:=bc Tryz.func165 ah ah
instance:cS Tryz.prog 166:=bc Tryz.func166 ah ah
instance:cS Tryz.prog 167:=bc Tryz.func167 ah ah
instance:cS Tryz.prog 168:=bc Tryz.func168 ah ah
instance:cS Tryz.prog 169:=bc Tryz.func169 ah ah
instance:cS Tryz.prog 170:=bc Tryz.func170 ah ah
instance:cS Tryz.prog 171:=bc Tryz.func171 ah ah
instance:cS Tryz.prog 172:=bc Tryz.func172 ah ah
instance:cS Tryz.prog 173:=bc Tryz.func173 ah ah
instance:cS Tryz.prog 174:=bc Tryz.func174 ah ah
instance:cS Tryz.prog 175:=bc Tryz.func175 ah ah
instance:cS Tryz.prog 176:=bc Tryz.func176 ah ah
instance:cS Tryz.prog 177:=bc Tryz.func177 ah ah
instance:cS Tryz.prog 178:=bc Tryz.func178 ah ah
instance:cS Tryz.prog 179:=bc Tryz.func179 ah ah
instance:cS Tryz.prog 180:=bc Tryz.func180 ah ah
instance:cS Tryz.prog 181:=bc Tryz.func181 ah ah
instance:cS Tryz.prog 182:=bc Tryz.func182 ah ah
instance:cS Tryz.prog 183:=bc Tryz.func183 ah ah
instance:cS Tryz.prog 184:=bc Tryz.func184 ah ah
instance:cS Tryz.prog 185:=bc Tryz.func185 ah ah
instance:cS Tryz.prog 186:=bc Tryz.func186 ah ah
instance:cS Tryz.prog 187:=bc Tryz.func187 ah ah
instance:cS Tryz.prog 188:=bc Tryz.func188 ah ah
instance:cS Tryz.prog 194:=bc Tryz.func194 ah ah
instance:cS Tryz.prog 202:=bc Tryz.func202 ah ah
instance:cS Tryz.prog 203:=bc Tryz.func203 ah ah
instance:cS Tryz.prog 204:=bc Tryz.func204 ah ah
instance:cS Tryz.prog 205:=bc Tryz.func205 ah ah
instance:cS Tryz.prog 206:=bc Tryz.func206 ah ah
instance:cS Tryz.prog 207:=bc Tryz.func207 ah ah
instance:cS Tryz.prog 208:=bc Tryz.func208 ah ah
instance:cS Tryz.prog 209:=bc Tryz.func209 ah ah
instance:cS Tryz.prog 210:=bc Tryz.func210 ah ah
instance:cS Tryz.prog 211:=bc Tryz.func211 ah ah
instance:cS Tryz.prog 212:=bc Tryz.func212 ah ah
instance:cS Tryz.prog 213:=bc Tryz.func213 ah ah
instance:cS Tryz.prog 214:=bc Tryz.func214 ah ah
instance:cS Tryz.prog 215:=bc Tryz.func215 ah ah
instance:cS Tryz.prog 216:=bc Tryz.func216 ah ah
instance:cS Tryz.prog 218:=bc Tryz.func218 ah ah
instance:cS Tryz.prog 222:=bc Tryz.func222 ah ah
instance:cS Tryz.prog 226:=bc Tryz.func226 ah ah
instance:cS Tryz.prog 227:=bc Tryz.func227 ah ah
instance:cS Tryz.prog 228:=bc Tryz.func228 ah ah
instance:cS Tryz.prog 229:=bc Tryz.func229 ah ah
instance:cS Tryz.prog 230:=bc Tryz.func230 ah ah
instance:cS Tryz.prog 231:=bc Tryz.func231 ah ah
instance:cS Tryz.prog 232:=bc Tryz.func232 ah ah
instance:cS Tryz.prog 233:=bc Tryz.func233 ah ah
instance:cS Tryz.prog 234:=bc Tryz.func234 ah ah
instance:cS Tryz.prog 235:=bc Tryz.func235 ah ah
instance:cS Tryz.prog 236:=bc Tryz.func236 ah ah
instance:cS Tryz.prog 237:=bc Tryz.func237 ah ah
instance:cS Tryz.prog 238:=bc Tryz.func238 ah ah
instance:cS Tryz.prog 239:=bc Tryz.func239 ah ah
instance:cS Tryz.prog 240:=bc Tryz.func240 ah ah
instance:cS Tryz.prog 250:=bc Tryz.func250 ah ah
instance:cS Tryz.prog 262:=bc Tryz.func262 ah ah
instance:cS Tryz.prog 263:=bc Tryz.func263 ah ah
instance:cS Tryz.prog 264:=bc Tryz.func264 ah ah
instance:cS Tryz.prog 265:=bc Tryz.func265 ah ah
instance:cS Tryz.prog 266:=bc Tryz.func266 ah ah
instance:cS Tryz.prog 267:=bc Tryz.func267 ah ah
instance:cS Tryz.prog 268:=bc Tryz.func268 ah ah
instance:cS Tryz.prog 269:=bc Tryz.func269 ah ah
instance:cS Tryz.prog 285:=bc Tryz.func285 ah ah
end Go.Proofs.YtkbiagkbmodgdaaGreat
