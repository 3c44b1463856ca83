import Derived.Test.YtokmhfjledbglaaInx
import Derived.Test.YtokmhfjledbglaaAbh



namespace Go.Proofs.Ytokmhfjledbglaa
open Go.Ab
open Go
set_option linter.unusedSimpArgs false
set_option linter.unusedVariables false
set_option maxRecDepth 10000
attribute [local irreducible] PV AOp AOps AW PCall OCall MCall WCall HCall Ab.Fin OFin OFin2 MFin HFin RV RV1 Le AStk AGrd ADr ADx ADo AOpX AAny
set_option maxHeartbeats 4000000
/-! multi-valued tasks -/
abbrev asg (p : Int × Int) : AV := .agg [.int p.1, .int p.2]
abbrev asc (p : Int × Int) : List AV := [.int p.1, .int p.2]
abbrev asgs (l : List (Int × Int)) : AV := .isl 2 16 (l.map asg)
structure MOp where
  pre : List (Int × Int)
  post : List (Int × Int)
  cost : Int
  deriving Inhabited, DecidableEq
structure MTask where
  sizes : List Int
  init : List Int
  goal : List (Int × Int)
  ops : List MOp
  deriving Inhabited, DecidableEq
abbrev MOp.av (o : MOp) : AV := .agg [asgs o.pre, asgs o.post, .int o.cost]
abbrev moc (o : MOp) : List AV := [asgs o.pre, asgs o.post, .int o.cost]
abbrev mopsA (l : List MOp) : AV := .isl 3 56 (l.map MOp.av)
abbrev MTask.av (m : MTask) : AV := .agg [ints m.sizes, ints m.init, asgs m.goal, mopsA m.ops]
abbrev MTask.cs (m : MTask) : List AV := [ints m.sizes, ints m.init, asgs m.goal, mopsA m.ops]
@[go_sem] theorem asc_flat (l : List (Int × Int)) : (l.map asg).flatMap AV.cells = l.flatMap asc := by rw [List.flatMap_map]; rfl
@[go_sem] theorem asc_app (a b : List (Int × Int)) : (a ++ b).flatMap asc = a.flatMap asc ++ b.flatMap asc := List.flatMap_append
@[go_sem] theorem asc_len (l : List (Int × Int)) : (l.flatMap asc).length = l.length * 2 := by
  induction l with
  | nil => rfl
  | cons w l ih => simp [List.flatMap_cons, ih]; omega
@[go_sem] theorem asc_purge (id : Nat) (l : List (Int × Int)) : AV.purgeL id (l.flatMap asc) = l.flatMap asc := purgeL_flat id asc l fun _ => rfl
@[go_sem] theorem asc_ment (id : Nat) (l : List (Int × Int)) : AV.mentL id (l.flatMap asc) = false := mentL_flat id asc l fun _ => rfl
theorem asc_pur (l : List (Int × Int)) : AV.purL (l.flatMap asc) = true := purL_flat asc l fun _ => rfl
@[go_sem] theorem asc_sealD (id sz bw n : Nat) (es : List AV) (l : List (Int × Int)) : AV.sealDL id sz bw n es (l.flatMap asc) = l.flatMap asc := sealDL_pur (asc_pur l)
@[go_sem] theorem asc_fix (ids pins : List Nat) (l : List (Int × Int)) : AV.fixL ids pins (l.flatMap asc) = l.flatMap asc := fixL_pur (asc_pur l)
@[go_sem] theorem asc_onl (ids : List Nat) (l : List (Int × Int)) : AV.onlL ids (l.flatMap asc) = true := onlL_pur (asc_pur l)
@[go_sem] theorem asc_mk (a b : Int) : asc (a, b) = [.int a, .int b] := rfl
@[go_sem] theorem moc_flat (l : List MOp) : (l.map MOp.av).flatMap AV.cells = l.flatMap moc := by rw [List.flatMap_map]; rfl
@[go_sem] theorem moc_app (a b : List MOp) : (a ++ b).flatMap moc = a.flatMap moc ++ b.flatMap moc := List.flatMap_append
@[go_sem] theorem moc_len (l : List MOp) : (l.flatMap moc).length = l.length * 3 := by
  induction l with
  | nil => rfl
  | cons w l ih => simp [List.flatMap_cons, ih]; omega
@[go_sem] theorem moc_purge (id : Nat) (l : List MOp) : AV.purgeL id (l.flatMap moc) = l.flatMap moc := purgeL_flat id moc l fun _ => rfl
@[go_sem] theorem moc_ment (id : Nat) (l : List MOp) : AV.mentL id (l.flatMap moc) = false := mentL_flat id moc l fun _ => rfl
theorem moc_pur (l : List MOp) : AV.purL (l.flatMap moc) = true := purL_flat moc l fun _ => rfl
@[go_sem] theorem moc_sealD (id sz bw n : Nat) (es : List AV) (l : List MOp) : AV.sealDL id sz bw n es (l.flatMap moc) = l.flatMap moc := sealDL_pur (moc_pur l)
@[go_sem] theorem moc_fix (ids pins : List Nat) (l : List MOp) : AV.fixL ids pins (l.flatMap moc) = l.flatMap moc := fixL_pur (moc_pur l)
@[go_sem] theorem moc_onl (ids : List Nat) (l : List MOp) : AV.onlL ids (l.flatMap moc) = true := onlL_pur (moc_pur l)
theorem mop_ext {a b : MOp} (h1 : a.cost = b.cost) (h2 : a.pre = b.pre) (h3 : a.post = b.post) : a = b := by cases a; cases b; simp_all
theorem mtask_ext {a b : MTask} (h1 : a.sizes = b.sizes) (h2 : a.init = b.init) (h3 : a.goal = b.goal) (h4 : a.ops = b.ops) : a = b := by cases a; cases b; simp_all
end Go.Proofs.Ytokmhfjledbglaa
