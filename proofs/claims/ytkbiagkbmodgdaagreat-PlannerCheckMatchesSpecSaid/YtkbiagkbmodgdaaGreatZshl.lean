/- Part of a proof. No condition. -/
import Derived.Ground.Names2Prog
import Derived.Ground.SlsfProg
import Derived.Shelf.SlSortCmp.HeapSort1
import Derived.Shelf.SlSortCmp.Insertion
import Derived.Shelf.SlSortCmp.Insertion1
import Derived.Shelf.SlSortCmp.Median1
import Derived.Shelf.SlSortCmp.PartialInsertion1
import Derived.Shelf.SlSortCmp.Partition1
import Derived.Shelf.SlSortCmp.PartitionEqual1
import Derived.Shelf.SlSortCmp.Pivot1
import Derived.Shelf.SlSortCmp.ReverseRange1
import Derived.Shelf.SlSortCmp.SiftDown1
import Derived.Shelf.Slices.CompactI
import Derived.Shelf.Slices.In.SortNone
import Derived.Shelf.Sort.Plain
import Derived.Test.YtkbiagkbmodgdaaGreatProg
set_option linter.unusedSimpArgs false
set_option linter.unusedVariables false
namespace Go.Proofs
open Go.Shelf
def Tryz.lays189_ren : Go.Shelf.Ren := ⟨fun | 189 => 186 | 125 => 218 | 257 => 217 | 128 => 249 | 129 => 250 | 294 => 241 | 295 => 242 | 296 => 243 | 297 => 244 | 298 => 245 | 299 => 246 | 216 => 184 | 300 => 247 | 301 => 248 | 328 => 277 | 329 => 278 | 330 => 279 | 331 => 280 | 332 => 281 | 215 => 214 | 343 => 289 | n => n, fun | 28 => 35 | 3 => 3 | 46 => 239 | 0 => 0 | 51 => 131 | 53 => 354 | 4 => 4 | 183 => 348 | 182 => 347 | 131 => 218 | 5 => 5 | 9 => 9 | 218 => 376 | 222 => 380 | 228 => 387 | 229 => 267 | n => n, fun | n => n⟩
theorem Tryz.lays189 : Go.Proofs.Lays.n189 Tryz.prog Tryz.lays189_ren := {
 mixed := by kernel_rfl
 f125 := Tryz.func218.trans (congrArg some (by kernel_rfl))
 f128 := Tryz.func249.trans (congrArg some (by kernel_rfl))
 f129 := Tryz.func250.trans (congrArg some (by kernel_rfl))
 f189 := Tryz.func186.trans (congrArg some (by kernel_rfl))
 f215 := Tryz.func214.trans (congrArg some (by kernel_rfl))
 f216 := Tryz.func184.trans (congrArg some (by kernel_rfl))
 f257 := Tryz.func217.trans (congrArg some (by kernel_rfl))
 f294 := Tryz.func241.trans (congrArg some (by kernel_rfl))
 f295 := Tryz.func242.trans (congrArg some (by kernel_rfl))
 f296 := Tryz.func243.trans (congrArg some (by kernel_rfl))
 f297 := Tryz.func244.trans (congrArg some (by kernel_rfl))
 f298 := Tryz.func245.trans (congrArg some (by kernel_rfl))
 f299 := Tryz.func246.trans (congrArg some (by kernel_rfl))
 f300 := Tryz.func247.trans (congrArg some (by kernel_rfl))
 f301 := Tryz.func248.trans (congrArg some (by kernel_rfl))
 f328 := Tryz.func277.trans (congrArg some (by kernel_rfl))
 f329 := Tryz.func278.trans (congrArg some (by kernel_rfl))
 f330 := Tryz.func279.trans (congrArg some (by kernel_rfl))
 f331 := Tryz.func280.trans (congrArg some (by kernel_rfl))
 f332 := Tryz.func281.trans (congrArg some (by kernel_rfl))
 f343 := Tryz.func289.trans (congrArg some (by kernel_rfl))
 t0 := Tryz.underlying0
 a0 := Tryz.isAgg0
 z0 := Tryz.sizeOf0
 v0 := Tryz.zeroValue0
 t3 := Tryz.underlying3
 a3 := Tryz.isAgg3
 z3 := Tryz.sizeOf3
 v3 := Tryz.zeroValue3
 t4 := Tryz.underlying4
 a4 := Tryz.isAgg4
 z4 := Tryz.sizeOf4
 v4 := Tryz.zeroValue4
 t5 := Tryz.underlying5
 a5 := Tryz.isAgg5
 z5 := Tryz.sizeOf5
 v5 := Tryz.zeroValue5
 t9 := Tryz.underlying9
 a9 := Tryz.isAgg9
 z9 := Tryz.sizeOf9
 v9 := Tryz.zeroValue9
 t28 := Tryz.underlying35
 a28 := Tryz.isAgg35
 z28 := Tryz.sizeOf35
 v28 := Tryz.zeroValue35
 t46 := Tryz.underlying239
 a46 := Tryz.isAgg239
 z46 := Tryz.sizeOf239
 v46 := Tryz.zeroValue239
 t51 := Tryz.underlying131
 a51 := Tryz.isAgg131
 z51 := Tryz.sizeOf131
 v51 := Tryz.zeroValue131
 t53 := Tryz.underlying354
 a53 := Tryz.isAgg354
 z53 := Tryz.sizeOf354
 v53 := Tryz.zeroValue354
 t131 := Tryz.underlying218
 a131 := Tryz.isAgg218
 z131 := Tryz.sizeOf218
 v131 := Tryz.zeroValue218
 t182 := Tryz.underlying347
 a182 := Tryz.isAgg347
 z182 := Tryz.sizeOf347
 v182 := Tryz.zeroValue347
 t183 := Tryz.underlying348
 a183 := Tryz.isAgg348
 z183 := Tryz.sizeOf348
 v183 := Tryz.zeroValue348
 t218 := Tryz.underlying376
 a218 := Tryz.isAgg376
 z218 := Tryz.sizeOf376
 v218 := Tryz.zeroValue376
 t222 := Tryz.underlying380
 a222 := Tryz.isAgg380
 z222 := Tryz.sizeOf380
 v222 := Tryz.zeroValue380
 t228 := Tryz.underlying387
 a228 := Tryz.isAgg387
 z228 := Tryz.sizeOf387
 v228 := Tryz.zeroValue387
 t229 := Tryz.underlying267
 a229 := Tryz.isAgg267
 z229 := Tryz.sizeOf267
 v229 := Tryz.zeroValue267 }
open Go.Sort Go.RowKit in
theorem Tryz.slices_Sort_int (blk off cap : Nat) (zs : List Int) (w : World) (hH : Holds (Value.int .i64) w blk off zs.toArray) (hblk : blk < w.heap.size) (hsz : zs.length < 4611686018427387904) :
  Calls Tryz.prog 186 #[.slice (some ⟨blk, off, none⟩) zs.length cap] w fun e w' =>
   e = .returned (.tuple #[]) ∧ ∃ n os, w' = grow (putRow (Value.int .i64) (Sort.ahead w n) blk off (zs.mergeSort fun x y => decide (x ≤ y)).toArray) os := Any.slices_Sort_int Tryz.lays189 blk off cap zs w hH hblk hsz
def Tryz.laysNm220_ren : Go.Shelf.Ren := ⟨fun | 20 => 187 | n => n, fun | 22 => 35 | 3 => 3 | 4 => 4 | 0 => 0 | n => n, fun | n => n⟩
theorem Tryz.laysNm220 : Go.Proofs.Lays2.n20 Tryz.prog Tryz.laysNm220_ren := {
 mixed := by kernel_rfl
 f20 := Tryz.func187.trans (congrArg some (by kernel_rfl))
 t0 := Tryz.underlying0
 a0 := Tryz.isAgg0
 z0 := Tryz.sizeOf0
 v0 := Tryz.zeroValue0
 t3 := Tryz.underlying3
 a3 := Tryz.isAgg3
 z3 := Tryz.sizeOf3
 v3 := Tryz.zeroValue3
 t4 := Tryz.underlying4
 a4 := Tryz.isAgg4
 z4 := Tryz.sizeOf4
 v4 := Tryz.zeroValue4
 t22 := Tryz.underlying35
 a22 := Tryz.isAgg35
 z22 := Tryz.sizeOf35
 v22 := Tryz.zeroValue35
 i3 := by kernel_rfl }
open Go.RowKit Go.Lib Go.Sort in
theorem Tryz.slices_Compact_int (blk off cap : Nat) (zs : List Int) (w : World) (hH : Holds (Value.int .i64) w blk off zs.toArray) (hsz : zs.length ≤ 9223372036854775807) (hcap : zs.length ≤ cap) :
  Calls Tryz.prog 187 #[.slice (some ⟨blk, off, none⟩) zs.length cap] w fun e w' => e = .returned (.slice (some ⟨blk, off, none⟩) (Lib.compact zs).length cap) ∧ ∃ q, w' = putRow (Value.int .i64) (Sort.ahead w q) blk off (Lib.compact zs ++ List.replicate (zs.length - (Lib.compact zs).length) 0).toArray := Any.slices_Compact_int Tryz.laysNm220 blk off cap zs w hH hsz hcap
open Go.RowKit Go.Lib Go.Sort in
theorem Tryz.slices_Compact_int_empty (a : Option Addr) (cap : Nat) (w : World) :
  Calls Tryz.prog 187 #[.slice a 0 cap] w fun e w' => e = .returned (.slice a 0 cap) ∧ w' = w := Any.slices_Compact_int_empty Tryz.laysNm220 a cap w
open Go.RowKit Go.Sort in
theorem Tryz.slices_Sort_int_none (p : Option Addr) (cap : Nat) (w : World) :
  Calls Tryz.prog 186 #[.slice p 0 cap] w fun e w' => e = .returned (.tuple #[]) ∧ w' = w := Any.slices_Sort_int_none Tryz.lays189 p cap w
end Go.Proofs
