import Derived.Test.YthdlckclpmfidaaTask


namespace Go.Proofs.Ythdlckclpmfidaa
open Go.Ab
open Go
set_option linter.unusedSimpArgs false
set_option linter.unusedVariables false
set_option maxRecDepth 10000
attribute [local irreducible] PV AOp AOps AW PCall OCall MCall Ab.Fin OFin MFin RV RV1 Le AStk AGrd ADr ADx ADo AOpX AAny
set_option maxHeartbeats 2000000
/-! equality of tasks -/
theorem op_ext {a b : Op} (h1 : a.cost = b.cost) (h2 : a.pre = b.pre) (h3 : a.add = b.add) (h4 : a.del = b.del) : a = b := by cases a; cases b; simp_all
theorem task_ext {a b : Task} (h1 : a.facts = b.facts) (h2 : a.init = b.init) (h3 : a.goal = b.goal) (h4 : a.ops = b.ops) : a = b := by cases a; cases b; simp_all
/-! lists shifted -/
def shift (xs : List Int) (n : Int) : List Int := xs.map (· + n)
theorem shift_take {xs : List Int} {n : Int} {k : Nat} (h : k < xs.length) : shift (xs.take (k + 1)) n = shift (xs.take k) n ++ [xs[k] + n] := by
  unfold shift; rw [List.take_succ_eq_append_getElem h, List.map_append]; rfl
def shiftAt (xs : List Int) (n : Int) (k : Nat) : List Int := shift (xs.take k) n ++ xs.drop k
theorem shiftAt_get {xs : List Int} {n : Int} {k : Nat} (h : k < xs.length) (h2 : k < (shiftAt xs n k).length) : (shiftAt xs n k)[k] = xs[k] := by
  have hl : (shift (xs.take k) n).length = k := by simp [shift]; omega
  have e : (shiftAt xs n k)[k]? = xs[k]? := by unfold shiftAt; rw [List.getElem?_append_right (by omega), hl, Nat.sub_self, List.getElem?_drop, Nat.add_zero]
  rw [List.getElem?_eq_getElem h2, List.getElem?_eq_getElem h] at e
  exact Option.some.inj e
theorem shiftAt_set {xs : List Int} {n : Int} {k : Nat} (h : k < xs.length) : (shiftAt xs n k).set k (xs[k] + n) = shiftAt xs n (k + 1) := by
  unfold shiftAt
  have hl : (shift (xs.take k) n).length = k := by simp [shift]; omega
  rw [shift_take h, List.set_append_right _ _ (by omega), hl, Nat.sub_self, List.drop_eq_getElem_cons h, List.set_cons_zero, List.append_assoc]
  rfl
theorem shiftAt_len (xs : List Int) (n : Int) (k : Nat) : (shiftAt xs n k).length = xs.length := by simp [shiftAt, shift]; omega


end Go.Proofs.Ythdlckclpmfidaa
