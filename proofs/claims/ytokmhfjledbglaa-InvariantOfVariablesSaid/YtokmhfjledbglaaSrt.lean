import Derived.Test.YtokmhfjledbglaaAbi
import Derived.Test.YtokmhfjledbglaaShf
import Derived.WalkKit
import Derived.Deep.LoopGhost
import Derived.Deep.Draws
namespace Go.Proofs.Ytokmhfjledbglaa
open Go.Ab
open Go Go.Proofs Go.Shelf Go.RowKit Go.Lib Go.Sort
set_option linter.unusedSimpArgs false
set_option linter.unusedVariables false
/-! slices.Compare at rows of integers, walked in the model; the sort of rows by it -/
theorem cmpL_take {xs ys : List Int} : ∀ {k : Nat}, k ≤ xs.length → k ≤ ys.length → xs.take k = ys.take k → cmpL xs ys = cmpL (xs.drop k) (ys.drop k)
  | 0, _, _, _ => rfl
  | k + 1, h1, h2, h => by
    match xs, ys, h1, h2 with
    | a :: x, b :: y, h1, h2 =>
      simp only [List.take_succ_cons, List.cons.injEq] at h
      obtain ⟨rfl, h⟩ := h
      rw [cmpL, if_neg (by omega), if_neg (by omega)]
      exact cmpL_take (by simpa using h1) (by simpa using h2) h
theorem compareInt_eq (a b : Int) : Lib.compareInt a b = if a < b then -1 else if b < a then 1 else 0 := by
  unfold Lib.compareInt
  (repeat' split) <;> first | rfl | (exfalso; omega)
theorem cmpL_at {xs ys : List Int} {k : Nat} (h1 : k < xs.length) (h2 : k < ys.length) (h : xs.take k = ys.take k) : cmpL xs ys = if Lib.compareInt xs[k] ys[k] = 0 then cmpL (xs.drop (k + 1)) (ys.drop (k + 1)) else Lib.compareInt xs[k] ys[k] := by
  rw [cmpL_take (by omega) (by omega) h, List.drop_eq_getElem_cons h1, List.drop_eq_getElem_cons h2, cmpL, compareInt_eq]
  (repeat' split) <;> first | rfl | (exfalso; omega)
theorem compare_eq_iff {a b : Int} : Lib.compareInt a b = 0 ↔ a = b := by
  rw [compareInt_eq]
  (repeat' split) <;> omega
set_option maxHeartbeats 2000000 in
set_option maxRecDepth 100000 in
theorem compare_in (xs ys : List Int) (x y : Value) (w : World) (hx : RowV w x xs) (hy : RowV w y ys) : Calls Try.prog 33 #[x, y] w fun e w' => e = .returned (.int .i64 (cmpL xs ys)) ∧ ∃ q, w' = w.drewN q := by
  obtain ⟨A, c, rfl, hc, hl, hA⟩ := hx
  obtain ⟨B, d, rfl, hd, hm, hB⟩ := hy
  have hcon := Try.cmp_Compare_int
  go_enter Try.func33, Try.ntmps33
  go_wp2
  go_loopg [11] xs.length (fun g s11 wr => ∃ k : Nat, k ≤ xs.length ∧ k ≤ ys.length ∧ xs.length - k ≤ g ∧ s11 = .int .i64 k ∧ wr = w ∧ xs.take k = ys.take k)
  case atStart => exact ⟨0, Nat.zero_le _, Nat.zero_le _, by omega, rfl, rfl, rfl⟩
  case round =>
    obtain ⟨k, hk, hk2, hg, rfl, rfl, heq⟩ := hrel
    by_cases hlt : k < xs.length
    · obtain ⟨b, o, rfl, hcell⟩ := hA (by omega)
      have g1 := hcell k hlt
      clear hcell hA
      by_cases hlt2 : k < ys.length
      · obtain ⟨b2, o2, rfl, hcell2⟩ := hB (by omega)
        have g2 := hcell2 k hlt2
        have hres := cmpL_at hlt hlt2 heq
        clear hcell2 hB
        have hce := compare_eq_iff (a := xs[k]) (b := ys[k])
        have hst : xs[k] = ys[k] → xs.take (k + 1) = ys.take (k + 1) := fun h => by
          rw [List.take_succ_eq_append_getElem hlt, List.take_succ_eq_append_getElem hlt2, heq, h]
        have hc2 := hcon xs[k] ys[k] wr
        clear hcon heq
        generalize xs[k] = xk at *
        generalize ys[k] = yk at *
        generalize Lib.compareInt xk yk = ck at *
        have hz : ck = 0 ∨ ck ≠ 0 := by omega
        go_wp2_with (go_at_call 50; refine hc2.mono ?_; rintro e w' ⟨rfl, rfl⟩)
        · go_ret
          refine ⟨?_, 0, rfl⟩
          have hn : (ck != 0) = true := by assumption
          rw [hres, if_neg (by simpa using hn)]; rfl
        · have hn0 : ck = 0 := by
            rcases hz with hz | hz
            · exact hz
            · exfalso
              have hq : (ck != 0) = true := by simpa using hz
              simp_all
          go_roundg (xs.length - (k + 1))
          case measure => omega
          case rel => exact ⟨k + 1, by omega, by omega, by omega, by go_num, rfl, hst (hce.1 hn0)⟩
      · have hres := cmpL_take hk hk2 heq
        have hyk : ys.length = k := by omega
        rw [List.drop_eq_getElem_cons hlt, List.drop_eq_nil_of_le (by omega : ys.length ≤ k), cmpL] at hres
        have e1 : ys.length ≤ k := by omega
        clear hcon heq hB
        go_wp2
        go_ret
        exact ⟨by rw [hres]; rfl, 0, rfl⟩
    · have hxk : xs.length = k := by omega
      have hres := cmpL_take hk hk2 heq
      rw [List.drop_eq_nil_of_le (by omega : xs.length ≤ k)] at hres
      clear hcon heq hA hB
      by_cases hlt2 : k < ys.length
      · rw [List.drop_eq_getElem_cons hlt2, cmpL] at hres
        go_wp2
        all_goals go_ret
        all_goals exact ⟨by rw [hres]; rfl, 0, rfl⟩
      · rw [List.drop_eq_nil_of_le (by omega : ys.length ≤ k), cmpL] at hres
        go_wp2
        all_goals go_ret
        all_goals exact ⟨by rw [hres]; rfl, 0, rfl⟩
theorem sortRows_wc (ls : List (List Int)) (id bw : Nat) (T : TypeId) (fl : Bool) (hlen : ls.length ≤ 1000000) :
    WCall Try.prog 32 [.sl 1 bw id 0 ls.length, .fn 33 []] id ⟨T, ls.map fun l => .isl 1 8 (l.map AV.int), fl⟩ (fun x bk => x = .tup [] ∧ ∃ ls' : List (List Int), ls'.Perm ls ∧ ls'.Pairwise (fun a b => ¬ cmpL b a < 0) ∧ bk = ⟨T, ls'.map fun l => .isl 1 8 (l.map AV.int), false⟩) :=
  wcall_sortRows hlen
    (fun enc cf blk off cap d w h1 hO hcmp hH hblk hsz => Try.slices_SortFunc (α := Nat) enc h1 cf hO 33 #[] blk off cap d w (fun args w => enters_of Try.func33 (by kernel_rfl) rfl args w) hcmp hH hblk hsz)
    (fun p cap fv w => Try.slices_SortFunc_none (α := Nat) p cap fv w)
    (fun xs ys x y w hx hy => compare_in xs ys x y w hx hy)
end Go.Proofs.Ytokmhfjledbglaa
