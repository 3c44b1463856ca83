import Derived.Test.YtjefjhcaicohjaaNumm



theorem Go.Ab.gRx {P : Go.Program} {id : Nat} {ops : Array Go.Oper} {d : Bool} {s : Go.Ab.St} {Q : Go.Exit → Go.Ab.St → Prop} (k : Nat) (_hk : (id == k) = false) (h : Go.Ab.AW P (.region id ops d) s Q) : Go.Ab.AW P (.region id ops d) s Q := h
namespace Go.Proofs.Ytjefjhcaicohjaa
open Go.Ab
open Go
set_option linter.unusedSimpArgs false
set_option linter.unusedVariables false
set_option maxRecDepth 10000
attribute [local irreducible] PV AOp AOps AW PCall OCall Ab.Fin OFin RV RV1 Le AStk AGrd ADr ADx ADo AOpX AAny
set_option maxHeartbeats 4000000
def unitAt (m k : Nat) : List Int := (List.replicate m (0 : Int)).set k 1
theorem unit_len (m k : Nat) : (unitAt m k).length = m := by simp [unitAt]
theorem unit_av (m k : Nat) : (List.replicate m (AV.int 0)).set k (AV.int 1) = (unitAt m k).map AV.int := by simp [unitAt, List.map_set]
theorem dot_zero : ∀ (m : Nat) (v : List Int), dot (List.replicate m 0) v = 0
  | 0, v => by cases v <;> rfl
  | m+1, [] => rfl
  | m+1, y :: v => by simp [List.replicate_succ, dot, dot_zero m v]
theorem dot_unit : ∀ (m k : Nat) (v : List Int) (hk : k < v.length), k < m → dot (unitAt m k) v = v[k]
  | 0, _, _, _, h => by omega
  | m+1, 0, y :: v, _, _ => by simp [unitAt, List.replicate_succ, dot, dot_zero]
  | m+1, k+1, y :: v, hk, h => by
    have := dot_unit m k v (by simpa using hk) (by omega)
    simp only [unitAt] at this
    simp [unitAt, List.replicate_succ, dot, this]
theorem unit_bd (m k : Nat) : Bd 1000 (unitAt m k) := by
  intro y hy
  rcases List.mem_or_eq_of_mem_set hy with h | h
  · have := List.eq_of_mem_replicate h; omega
  · omega
def sumT (v : List Int) (x n : Int) : NT := ⟨v, [], [⟨[], [], 0⟩, ⟨[], [⟨x, unitAt v.length x.toNat, n⟩], 0⟩]⟩
structure SumOk (v : List Int) (x n : Int) : Prop where
  l1 : 1 ≤ v.length
  l8 : v.length ≤ 8
  x0 : 0 ≤ x
  x1 : x < v.length
  n0 : -1000 ≤ n
  n1 : n ≤ 1000
  ok : listOk 1000000 v.length v = true
theorem sum_fault {v : List Int} {x n : Int} (h : SumOk v x n) : numFault (sumT v x n) = (0, 0) := by
  obtain ⟨l1, l8, x0, x1, n0, n1, ok⟩ := h
  have hu : listOk 1000 v.length (unitAt v.length x.toNat) = true := by rw [listOk_iff]; exact ⟨by simp [unit_len], unit_bd _ _⟩
  have hc : inB n (-1000) 1000 = true := by simp [inB]; omega
  have h1 : opCode v.length ⟨[], [⟨x, unitAt v.length x.toNat, n⟩], 0⟩ = none := by
    simp [opCode, cmpCode, firstSome, chgCode, chgAt, chgCode1, costCode, hu, hc]; omega
  have h0 : opCode v.length ⟨[], [], 0⟩ = none := by simp [opCode, cmpCode, firstSome, chgCode, costCode]
  rw [nf_e (t := sumT v x n) (by simp only [sumT]; omega) (by simpa [sumT] using ok) (by simp [sumT, cmpCode, firstSome]) (by simp [sumT])]
  simp [sumT, firstSome, opAt, h0, h1]
theorem sum_a {v : List Int} {x n : Int} (h : SumOk v x n) : applyOf (sumT v x n) v 0 = (v, (0, 0)) := by
  have hf := sum_fault h
  have ok := h.ok
  have hn : nextOf ⟨[], [], 0⟩ v = (v, 0) := by simp [nextOf, sat, applyChg, ok]
  unfold applyOf
  rw [if_neg (by simp [hf])]
  simp [sumT, ok, hn]
theorem sum_b {v : List Int} {x n : Int} (h : SumOk v x n) (hx : x.toNat < v.length) : applyOf (sumT v x n) v 1 = if -1000000 ≤ v[x.toNat] + n ∧ v[x.toNat] + n ≤ 1000000 then (v.set x.toNat (v[x.toNat] + n), (0, 0)) else ([], (10, 1)) := by
  have hf := sum_fault h
  have ok := h.ok
  have hd := dot_unit v.length x.toNat v hx hx
  have hn : nextOf ⟨[], [⟨x, unitAt v.length x.toNat, n⟩], 0⟩ v = if -1000000 ≤ v[x.toNat] + n ∧ v[x.toNat] + n ≤ 1000000 then (v.set x.toNat (v[x.toNat] + n), 0) else ([], 10) := by
    have hb := (listOk_iff.1 ok).2
    by_cases hq : -1000000 ≤ v[x.toNat] + n ∧ v[x.toNat] + n ≤ 1000000
    · have : listOk 1000000 v.length (v.set x.toNat (v[x.toNat] + n)) = true := by
        rw [listOk_iff]
        refine ⟨by simp, fun y hy => ?_⟩
        rcases List.mem_or_eq_of_mem_set hy with h | h
        · exact hb y h
        · omega
      simp [nextOf, sat, applyChg, hd, this, hq]
    · have : listOk 1000000 v.length (v.set x.toNat (v[x.toNat] + n)) = false := by
        rw [← Bool.not_eq_true, listOk_iff]
        rintro ⟨_, h2⟩
        exact hq (by simpa using h2 (v[x.toNat] + n) (List.mem_set hx _))
      simp [nextOf, sat, applyChg, hd, this, hq]
  unfold applyOf
  rw [if_neg (by simp [hf])]
  by_cases hq : -1000000 ≤ v[x.toNat] + n ∧ v[x.toNat] + n ≤ 1000000
  · simp [sumT, ok, hn, hq]
  · simp [sumT, ok, hn, hq]
theorem pc_eq' {f : FuncId} {args : List AV} {a b : AV} (h : PCall Try.prog f args (fun r => r = a)) (e : a = b) : PCall Try.prog f args (fun r => r = b) := e ▸ h
theorem sum_le (v : List Int) (x n op : Int) : ALeL [.agg [ints v, .nilS, .isl 3 56 [.agg [.nilS, .nilS, .int 0], .agg [.nilS, .isl 3 40 [.agg [.int x, ints (unitAt v.length x.toNat), .int n]], .int 0]]], ints v, .int op] [(sumT v x n).av, ints v, .int op] :=
  ⟨.agg ⟨ALe.rfl' _, ALe.nil 3 40, ALe.isl rfl (by simp [sumT, AV.cells]) ⟨ALe.nil 3 40, ALe.nil 3 40, ALe.rfl' _, ALe.nil 3 40, ALe.rfl' _, ALe.rfl' _, trivial⟩, trivial⟩, ALe.rfl' _, ALe.rfl' _, trivial⟩
theorem copy_oc0 (xs : List Int) : OCall Try.prog 52 [ints xs] [6] (fun x hp => x = .sl 1 8 6 0 xs.length ∧ hp = [(6, ⟨3, xs.map AV.int, false⟩)]) := by
  (refine enterO Try.func52 Try.ntmps52 ?_)
  (refine aw_bound (i := 0) rfl (fun hb => ?_); (try simp only [List.length_map] at hb))
  (repeat' (first | (refine hK _ ?_; clear hK K) | (refine aw_seq (fun K hK => ?_)) | (refine gR ?_; refine regS ?_) | (refine gE ?_; (first | (refine exN ?_) | (refine exS (fun _ => ?_)))) | (refine stk_op (fun K hK => ?_); (first | (refine aop_append (by rfl) (by rfl) (by rfl) (by first | rfl | (simp only [go_sem, Nat.reduceAdd, Nat.reduceMul, reduceIte, Nat.reduceEqDiff, Nat.reduceLeDiff, Int.reduceBEq, Int.reduceBNe, Int.reduceLT, Int.reduceLE, decide_true, decide_false, List.length_take, List.length_map]; omega) | simp) (by rfl) (by first | exact esOne_one rfl | exact esOne_map (fun _ => rfl)) (by rfl) (by first | decide | (simp; done) | (simp; omega)) (by first | decide | (simp; done) | (simp; omega)) (by first | omega | (simp only [go_sem, Nat.reduceAdd, Nat.reduceMul, reduceIte, Nat.reduceEqDiff, Nat.reduceLeDiff, Int.reduceBEq, Int.reduceBNe, Int.reduceLT, Int.reduceLE, decide_true, decide_false]; omega)) ?_) | (refine aop_appendV (by rfl) (by rfl) (by rfl) (by first | exact esOne_one rfl | exact esOne_map (fun _ => rfl)) (by rfl) (by first | decide | (simp; done) | (simp; omega)) (by first | decide | (simp; done) | (simp; omega)) (by first | omega | (simp only [go_sem, Nat.reduceAdd, Nat.reduceMul, reduceIte, Nat.reduceEqDiff, Nat.reduceLeDiff, Int.reduceBEq, Int.reduceBNe, Int.reduceLT, Int.reduceLE, decide_true, decide_false]; omega)) ?_) | (refine aop_le (le_virt 4 6 1 8 3 (by rfl) (by first | rfl | (simp [St.free, mentHp, AV.mentL, AV.ment]))) ?_; simp only [go_sem, Nat.reduceAdd, Nat.reduceMul, reduceIte, Nat.reduceEqDiff, Nat.reduceLeDiff, Int.reduceBEq, Int.reduceBNe, Int.reduceLT, Int.reduceLE, decide_true, decide_false]; refine aop_append (by rfl) (by rfl) (by rfl) (by first | rfl | (simp only [go_sem, Nat.reduceAdd, Nat.reduceMul, reduceIte, Nat.reduceEqDiff, Nat.reduceLeDiff, Int.reduceBEq, Int.reduceBNe, Int.reduceLT, Int.reduceLE, decide_true, decide_false, List.length_take, List.length_map]; omega) | simp) (by rfl) (by first | exact esOne_one rfl | exact esOne_map (fun _ => rfl)) (by rfl) (by first | decide | (simp; done) | (simp; omega)) (by first | decide | (simp; done) | (simp; omega)) (by first | omega | (simp only [go_sem, Nat.reduceAdd, Nat.reduceMul, reduceIte, Nat.reduceEqDiff, Nat.reduceLeDiff, Int.reduceBEq, Int.reduceBNe, Int.reduceLT, Int.reduceLE, decide_true, decide_false]; omega)) ?_))) | (refine gQ ?_; (first | (refine condT ?_) | (refine condF ?_) | (refine condS (fun hc => ?_) (fun hc => ?_) <;> (try (first | contradiction | (exfalso; omega)))))) | (refine gW ?_; refine wopsS ?_) | (refine aw_block ?_) | (refine gX ?_; refine exitS ?_) | (refine gT ?_; refine retS ?_) | (refine gS ?_; refine skipS ?_) | (apply_assumption (exfalso := false) (symm := false))))
  simp only [flat_one (f := AV.int) (fun _ => rfl)]
  refine ofin_sl rfl (by rfl) (by rfl) (purL_map AV.int xs fun _ => rfl) ⟨by simp, rfl⟩
theorem copy_oc (m : Nat) (xs : List Int) : OCall Try.prog 52 [ints xs] [6 + m] (fun x hp => x = .sl 1 8 (6 + m) 0 xs.length ∧ hp = [(6 + m, ⟨3, xs.map AV.int, false⟩)]) :=
  (copy_oc0 xs).ren m fun x hp ⟨h1, h2⟩ => by subst h1; subst h2; exact ⟨rfl, by simp only [renHp, renL_pur (purL_map AV.int xs fun _ => rfl)]⟩




theorem sums_pc (v : List Int) (x n : Int) (wx : -9223372036854775808 ≤ x ∧ x ≤ 9223372036854775807) (wn : -9223372036854775808 ≤ n ∧ n ≤ 9223372036854775807) : PCall Try.prog 14 [ints v, .int x, .int n] (fun r => r = .bool true) := by
  (refine enterS Try.func14 Try.ntmps14 ?_)
  (refine aw_bound (i := 0) rfl (fun hb => ?_); (try simp only [List.length_map] at hb))
  (repeat' (first | (refine hK _ ?_; clear hK K) | (refine aw_seq (fun K hK => ?_)) | (refine gRx 5 (by rfl) ?_; refine regS ?_) | (refine gD 13 ?_; refine drS (.it 0 0 (.it 1 1 (.it 2 0 (.it 3 0 .nil)))) [0, 2, 3] ?_) | (refine gE ?_; (first | (refine exN ?_) | (refine exS (fun _ => ?_)))) | (refine gC 40 ?_; refine callS (counts_pc) ?_) | (refine gC 20 ?_; refine callS (in_pc _ _ _) ?_) | (refine gC 45 ?_; refine callS (valuesOk_pc _ _) ?_) | (refine gC 47 ?_; refine callS (cA) ?_) | (refine gC 47 ?_; refine callS (cB) ?_) | (refine gC 48 ?_; refine callS (refInts_pc _ _) ?_) | (refine gCd 21 ?_; refine callD (at_pc _ _) ?_) | (refine stk_op (fun K hK => ?_); (first | (refine aop_makeSlice (d := 42) (by rfl) (by rfl) (by omega) (by first | omega | (simp only [Int.toNat_natCast, List.length_map]; omega)) (by decide) (by rfl) 42 (by first | rfl | (simp [St.free, mentHp, AV.mentL, AV.ment])) ?_) | (refine aop_pv (pv_fieldAddrF (by rfl) (by rfl) (by first | decide | (simp; done) | (simp; omega))) ?_) | (refine aop_pv (pv_fieldAddrIF (by rfl) (by rfl) (by first | decide | (simp; done) | (simp; omega))) ?_) | (refine aop_pv (pv_neq (by rfl) (by rfl)) ?_) | (refine aop_pv (pv_neqB (by rfl) (by rfl)) ?_) | (refine aop_pv (pv_neqA (by rfl) (by rfl) (by kernel_rfl)) ?_) | (refine aop_callO (copy_oc 89000 _) (by rfl) (free_one (by first | rfl | (simp [St.free, mentHp, AV.mentL, AV.ment]))) (fun x hp hx => ?_); obtain ⟨rfl, rfl⟩ := hx) | (refine aop_pv (pv_eql (by rfl) (by rfl)) ?_) | (refine aop_pv (pv_eqlB (by rfl) (by rfl)) ?_) | (refine aop_pv (pv_eqlA (by rfl) (by rfl) (by kernel_rfl)) ?_))) | (refine adx_op (fun K hK => ?_); (first | (refine pv_eql (by rfl) (by rfl) ?_) | (refine pv_eqlB (by rfl) (by rfl) ?_) | (refine pv_eqlA (by rfl) (by rfl) (by kernel_rfl) ?_))) | (refine And.intro ?_ ?_) | (refine gDx ?_; refine adxS ?_) | (refine gQ ?_; (first | (refine condT ?_) | (refine condF ?_) | (refine condS (fun hc => ?_) (fun hc => ?_) <;> (try (first | contradiction | (exfalso; omega)))))) | (refine gG ?_; refine guardS (fun hc => ?_) (fun hc => ?_) <;> (try (first | contradiction | (exfalso; omega)))) | (refine gW ?_; refine wopsS ?_) | (refine gWd ?_; refine wdrS ?_) | (refine aw_block ?_) | (refine gX ?_; refine exitS ?_) | (refine gT ?_; refine retS ?_) | (refine gS ?_; refine skipS ?_) | (apply_assumption (exfalso := false) (symm := false))))
  · (refine fin_le (Le.refl _) (rv_one (rv1_tmp (by rfl))) (by first | rfl | (simp only [go_sem, Nat.reduceAdd, Nat.reduceMul, reduceIte, Nat.reduceEqDiff, Nat.reduceLeDiff, Int.reduceBEq, Int.reduceBNe, Int.reduceLT, Int.reduceLE, decide_true, decide_false])) ?_)
    rfl
  · (refine fin_le (Le.refl _) (rv_one (rv1_tmp (by rfl))) (by first | rfl | (simp only [go_sem, Nat.reduceAdd, Nat.reduceMul, reduceIte, Nat.reduceEqDiff, Nat.reduceLeDiff, Int.reduceBEq, Int.reduceBNe, Int.reduceLT, Int.reduceLE, decide_true, decide_false])) ?_)
    rfl
  · (refine fin_le (Le.refl _) (rv_one (rv1_tmp (by rfl))) (by first | rfl | (simp only [go_sem, Nat.reduceAdd, Nat.reduceMul, reduceIte, Nat.reduceEqDiff, Nat.reduceLeDiff, Int.reduceBEq, Int.reduceBNe, Int.reduceLT, Int.reduceLE, decide_true, decide_false])) ?_)
    rfl
  · (refine fin_le (Le.refl _) (rv_one (rv1_tmp (by rfl))) (by first | rfl | (simp only [go_sem, Nat.reduceAdd, Nat.reduceMul, reduceIte, Nat.reduceEqDiff, Nat.reduceLeDiff, Int.reduceBEq, Int.reduceBNe, Int.reduceLT, Int.reduceLE, decide_true, decide_false])) ?_)
    rfl
  rename_i h18 hxx hnn
  have hok : SumOk v x n := ⟨by omega, by omega, by omega, by omega, by omega, by omega, hc⟩
  have hx : x.toNat < v.length := by omega
  have hI := (listOk_iff.1 hc).2 v[x.toNat] (List.getElem_mem hx)
  (repeat' (first | (refine hK _ ?_; clear hK K) | (refine aw_seq (fun K hK => ?_)) | (refine gRx 7 (by rfl) ?_; refine regS ?_) | (refine gD 13 ?_; refine drS (.it 0 0 (.it 1 1 (.it 2 0 (.it 3 0 .nil)))) [0, 2, 3] ?_) | (refine gE ?_; (first | (refine exN ?_) | (refine exS (fun _ => ?_)))) | (refine gC 40 ?_; refine callS (counts_pc) ?_) | (refine gC 20 ?_; refine callS (in_pc _ _ _) ?_) | (refine gC 45 ?_; refine callS (valuesOk_pc _ _) ?_) | (refine gC 47 ?_; refine callS (cA) ?_) | (refine gC 47 ?_; refine callS (cB) ?_) | (refine gC 48 ?_; refine callS (refInts_pc _ _) ?_) | (refine gCd 21 ?_; refine callD (at_pc _ _) ?_) | (refine stk_op (fun K hK => ?_); (first | (refine aop_makeSlice (d := 42) (by rfl) (by rfl) (by omega) (by first | omega | (simp only [Int.toNat_natCast, List.length_map]; omega)) (by decide) (by rfl) 42 (by first | rfl | (simp [St.free, mentHp, AV.mentL, AV.ment])) ?_) | (refine aop_pv (pv_fieldAddrF (by rfl) (by rfl) (by first | decide | (simp; done) | (simp; omega))) ?_) | (refine aop_pv (pv_fieldAddrIF (by rfl) (by rfl) (by first | decide | (simp; done) | (simp; omega))) ?_) | (refine aop_pv (pv_neq (by rfl) (by rfl)) ?_) | (refine aop_pv (pv_neqB (by rfl) (by rfl)) ?_) | (refine aop_pv (pv_neqA (by rfl) (by rfl) (by kernel_rfl)) ?_) | (refine aop_callO (copy_oc 89000 _) (by rfl) (free_one (by first | rfl | (simp [St.free, mentHp, AV.mentL, AV.ment]))) (fun x hp hx => ?_); obtain ⟨rfl, rfl⟩ := hx) | (refine aop_pv (pv_eql (by rfl) (by rfl)) ?_) | (refine aop_pv (pv_eqlB (by rfl) (by rfl)) ?_) | (refine aop_pv (pv_eqlA (by rfl) (by rfl) (by kernel_rfl)) ?_))) | (refine adx_op (fun K hK => ?_); (first | (refine pv_eql (by rfl) (by rfl) ?_) | (refine pv_eqlB (by rfl) (by rfl) ?_) | (refine pv_eqlA (by rfl) (by rfl) (by kernel_rfl) ?_))) | (refine And.intro ?_ ?_) | (refine gDx ?_; refine adxS ?_) | (refine gQ ?_; (first | (refine condT ?_) | (refine condF ?_) | (refine condS (fun hc => ?_) (fun hc => ?_) <;> (try (first | contradiction | (exfalso; omega)))))) | (refine gG ?_; refine guardS (fun hc => ?_) (fun hc => ?_) <;> (try (first | contradiction | (exfalso; omega)))) | (refine gW ?_; refine wopsS ?_) | (refine gWd ?_; refine wdrS ?_) | (refine aw_block ?_) | (refine gX ?_; refine exitS ?_) | (refine gT ?_; refine retS ?_) | (refine gS ?_; refine skipS ?_) | (apply_assumption (exfalso := false) (symm := false))))
  have cA := pc_eq' (pcall_le (apply_pc (sumT v x n) v 0) (sum_le v x n 0)) (b := .tup [ints v, fault 0 0]) (by rw [sum_a hok])
  rw [unit_av]
  refine aw_le (le_sealMap (f := AV.int) 42 8 v.length (unitAt v.length x.toNat) (by rfl) (unit_len _ _) (fun _ => rfl) (fun _ => rfl)) ?_
  simp only [AV.sealSL, sealS_any, sealS_v, sealS_isl, sealS_iptr, sealS_ptr, sealS_sl, sealS_agg, sealS_tup, sealS_fn, purge_agg, purge_tup, purge_fn, and_self, AV.mentL, AV.ment, Bool.or_self, go_sem, Nat.reduceAdd, Nat.reduceMul, reduceIte, Nat.reduceEqDiff, Nat.reduceLeDiff, Int.reduceBEq, Int.reduceBNe, Int.reduceLT, Int.reduceLE, decide_true, decide_false]
  by_cases hq : -1000000 ≤ v[x.toNat] + n ∧ v[x.toNat] + n ≤ 1000000
  · have cB := pc_eq' (pcall_le (apply_pc (sumT v x n) v 1) (sum_le v x n 1)) (b := .tup [ints (v.set x.toNat (v[x.toNat] + n)), fault 0 0]) (by rw [sum_b hok hx, if_pos hq])
    (repeat' (first | (refine hK _ ?_; clear hK K) | (refine aw_seq (fun K hK => ?_)) | (refine gRx 16 (by rfl) ?_; refine regS ?_) | (refine gD 13 ?_; refine drS (.it 0 0 (.it 1 1 (.it 2 0 (.it 3 0 .nil)))) [0, 2, 3] ?_) | (refine gE ?_; (first | (refine exN ?_) | (refine exS (fun _ => ?_)))) | (refine gC 40 ?_; refine callS (counts_pc) ?_) | (refine gC 20 ?_; refine callS (in_pc _ _ _) ?_) | (refine gC 45 ?_; refine callS (valuesOk_pc _ _) ?_) | (refine gC 47 ?_; refine callS (cA) ?_) | (refine gC 47 ?_; refine callS (cB) ?_) | (refine gC 48 ?_; refine callS (refInts_pc _ _) ?_) | (refine gCd 21 ?_; refine callD (at_pc _ _) ?_) | (refine stk_op (fun K hK => ?_); (first | (refine aop_makeSlice (d := 42) (by rfl) (by rfl) (by omega) (by first | omega | (simp only [Int.toNat_natCast, List.length_map]; omega)) (by decide) (by rfl) 42 (by first | rfl | (simp [St.free, mentHp, AV.mentL, AV.ment])) ?_) | (refine aop_pv (pv_fieldAddrF (by rfl) (by rfl) (by first | decide | (simp; done) | (simp; omega))) ?_) | (refine aop_pv (pv_fieldAddrIF (by rfl) (by rfl) (by first | decide | (simp; done) | (simp; omega))) ?_) | (refine aop_pv (pv_neq (by rfl) (by rfl)) ?_) | (refine aop_pv (pv_neqB (by rfl) (by rfl)) ?_) | (refine aop_pv (pv_neqA (by rfl) (by rfl) (by kernel_rfl)) ?_) | (refine aop_callO (copy_oc 89000 _) (by rfl) (free_one (by first | rfl | (simp [St.free, mentHp, AV.mentL, AV.ment]))) (fun x hp hx => ?_); obtain ⟨rfl, rfl⟩ := hx) | (refine aop_pv (pv_eql (by rfl) (by rfl)) ?_) | (refine aop_pv (pv_eqlB (by rfl) (by rfl)) ?_) | (refine aop_pv (pv_eqlA (by rfl) (by rfl) (by kernel_rfl)) ?_))) | (refine adx_op (fun K hK => ?_); (first | (refine pv_eql (by rfl) (by rfl) ?_) | (refine pv_eqlB (by rfl) (by rfl) ?_) | (refine pv_eqlA (by rfl) (by rfl) (by kernel_rfl) ?_))) | (refine And.intro ?_ ?_) | (refine gDx ?_; refine adxS ?_) | (refine gQ ?_; (first | (refine condT ?_) | (refine condF ?_) | (refine condS (fun hc => ?_) (fun hc => ?_) <;> (try (first | contradiction | (exfalso; omega)))))) | (refine gG ?_; refine guardS (fun hc => ?_) (fun hc => ?_) <;> (try (first | contradiction | (exfalso; omega)))) | (refine gW ?_; refine wopsS ?_) | (refine gWd ?_; refine wdrS ?_) | (refine aw_block ?_) | (refine gX ?_; refine exitS ?_) | (refine gT ?_; refine retS ?_) | (refine gS ?_; refine skipS ?_) | (apply_assumption (exfalso := false) (symm := false))))
    rw [← List.map_set]
    refine aw_le (le_sealMap (f := AV.int) 89006 8 v.length (v.set x.toNat (v[x.toNat] + n)) (by rfl) (by simp) (fun _ => rfl) (fun _ => rfl)) ?_
    simp only [AV.sealSL, sealS_any, sealS_v, sealS_isl, sealS_iptr, sealS_ptr, sealS_sl, sealS_agg, sealS_tup, sealS_fn, purge_agg, purge_tup, purge_fn, and_self, AV.mentL, AV.ment, Bool.or_self, go_sem, Nat.reduceAdd, Nat.reduceMul, reduceIte, Nat.reduceEqDiff, Nat.reduceLeDiff, Int.reduceBEq, Int.reduceBNe, Int.reduceLT, Int.reduceLE, decide_true, decide_false]
    (repeat' (first | (refine hK _ ?_; clear hK K) | (refine aw_seq (fun K hK => ?_)) | (refine gR ?_; refine regS ?_) | (refine gD 13 ?_; refine drS (.it 0 0 (.it 1 1 (.it 2 0 (.it 3 0 .nil)))) [0, 2, 3] ?_) | (refine gE ?_; (first | (refine exN ?_) | (refine exS (fun _ => ?_)))) | (refine gC 40 ?_; refine callS (counts_pc) ?_) | (refine gC 20 ?_; refine callS (in_pc _ _ _) ?_) | (refine gC 45 ?_; refine callS (valuesOk_pc _ _) ?_) | (refine gC 47 ?_; refine callS (cA) ?_) | (refine gC 47 ?_; refine callS (cB) ?_) | (refine gC 48 ?_; refine callS (refInts_pc _ _) ?_) | (refine gCd 21 ?_; refine callD (at_pc _ _) ?_) | (refine stk_op (fun K hK => ?_); (first | (refine aop_makeSlice (d := 42) (by rfl) (by rfl) (by omega) (by first | omega | (simp only [Int.toNat_natCast, List.length_map]; omega)) (by decide) (by rfl) 42 (by first | rfl | (simp [St.free, mentHp, AV.mentL, AV.ment])) ?_) | (refine aop_pv (pv_fieldAddrF (by rfl) (by rfl) (by first | decide | (simp; done) | (simp; omega))) ?_) | (refine aop_pv (pv_fieldAddrIF (by rfl) (by rfl) (by first | decide | (simp; done) | (simp; omega))) ?_) | (refine aop_pv (pv_neq (by rfl) (by rfl)) ?_) | (refine aop_pv (pv_neqB (by rfl) (by rfl)) ?_) | (refine aop_pv (pv_neqA (by rfl) (by rfl) (by kernel_rfl)) ?_) | (refine aop_callO (copy_oc 89000 _) (by rfl) (free_one (by first | rfl | (simp [St.free, mentHp, AV.mentL, AV.ment]))) (fun x hp hx => ?_); obtain ⟨rfl, rfl⟩ := hx) | (refine aop_pv (pv_eql (by rfl) (by rfl)) ?_) | (refine aop_pv (pv_eqlB (by rfl) (by rfl)) ?_) | (refine aop_pv (pv_eqlA (by rfl) (by rfl) (by kernel_rfl)) ?_))) | (refine adx_op (fun K hK => ?_); (first | (refine pv_eql (by rfl) (by rfl) ?_) | (refine pv_eqlB (by rfl) (by rfl) ?_) | (refine pv_eqlA (by rfl) (by rfl) (by kernel_rfl) ?_))) | (refine And.intro ?_ ?_) | (refine gDx ?_; refine adxS ?_) | (refine gQ ?_; (first | (refine condT ?_) | (refine condF ?_) | (refine condS (fun hc => ?_) (fun hc => ?_) <;> (try (first | contradiction | (exfalso; omega)))))) | (refine gG ?_; refine guardS (fun hc => ?_) (fun hc => ?_) <;> (try (first | contradiction | (exfalso; omega)))) | (refine gW ?_; refine wopsS ?_) | (refine gWd ?_; refine wdrS ?_) | (refine aw_block ?_) | (refine gX ?_; refine exitS ?_) | (refine gT ?_; refine retS ?_) | (refine gS ?_; refine skipS ?_) | (apply_assumption (exfalso := false) (symm := false))))
    (refine fin_le (Le.refl _) (rv_one (rv1_tmp (by rfl))) (by first | rfl | (simp only [go_sem, Nat.reduceAdd, Nat.reduceMul, reduceIte, Nat.reduceEqDiff, Nat.reduceLeDiff, Int.reduceBEq, Int.reduceBNe, Int.reduceLT, Int.reduceLE, decide_true, decide_false])) ?_)
    simp
  · have cB := pc_eq' (pcall_le (apply_pc (sumT v x n) v 1) (sum_le v x n 1)) (b := .tup [ints [], fault 10 1]) (by rw [sum_b hok hx, if_neg hq])
    (repeat' (first | (refine hK _ ?_; clear hK K) | (refine aw_seq (fun K hK => ?_)) | (refine gR ?_; refine regS ?_) | (refine gD 13 ?_; refine drS (.it 0 0 (.it 1 1 (.it 2 0 (.it 3 0 .nil)))) [0, 2, 3] ?_) | (refine gE ?_; (first | (refine exN ?_) | (refine exS (fun _ => ?_)))) | (refine gC 40 ?_; refine callS (counts_pc) ?_) | (refine gC 20 ?_; refine callS (in_pc _ _ _) ?_) | (refine gC 45 ?_; refine callS (valuesOk_pc _ _) ?_) | (refine gC 47 ?_; refine callS (cA) ?_) | (refine gC 47 ?_; refine callS (cB) ?_) | (refine gC 48 ?_; refine callS (refInts_pc _ _) ?_) | (refine gCd 21 ?_; refine callD (at_pc _ _) ?_) | (refine stk_op (fun K hK => ?_); (first | (refine aop_makeSlice (d := 42) (by rfl) (by rfl) (by omega) (by first | omega | (simp only [Int.toNat_natCast, List.length_map]; omega)) (by decide) (by rfl) 42 (by first | rfl | (simp [St.free, mentHp, AV.mentL, AV.ment])) ?_) | (refine aop_pv (pv_fieldAddrF (by rfl) (by rfl) (by first | decide | (simp; done) | (simp; omega))) ?_) | (refine aop_pv (pv_fieldAddrIF (by rfl) (by rfl) (by first | decide | (simp; done) | (simp; omega))) ?_) | (refine aop_pv (pv_neq (by rfl) (by rfl)) ?_) | (refine aop_pv (pv_neqB (by rfl) (by rfl)) ?_) | (refine aop_pv (pv_neqA (by rfl) (by rfl) (by kernel_rfl)) ?_) | (refine aop_callO (copy_oc 89000 _) (by rfl) (free_one (by first | rfl | (simp [St.free, mentHp, AV.mentL, AV.ment]))) (fun x hp hx => ?_); obtain ⟨rfl, rfl⟩ := hx) | (refine aop_pv (pv_eql (by rfl) (by rfl)) ?_) | (refine aop_pv (pv_eqlB (by rfl) (by rfl)) ?_) | (refine aop_pv (pv_eqlA (by rfl) (by rfl) (by kernel_rfl)) ?_))) | (refine adx_op (fun K hK => ?_); (first | (refine pv_eql (by rfl) (by rfl) ?_) | (refine pv_eqlB (by rfl) (by rfl) ?_) | (refine pv_eqlA (by rfl) (by rfl) (by kernel_rfl) ?_))) | (refine And.intro ?_ ?_) | (refine gDx ?_; refine adxS ?_) | (refine gQ ?_; (first | (refine condT ?_) | (refine condF ?_) | (refine condS (fun hc => ?_) (fun hc => ?_) <;> (try (first | contradiction | (exfalso; omega)))))) | (refine gG ?_; refine guardS (fun hc => ?_) (fun hc => ?_) <;> (try (first | contradiction | (exfalso; omega)))) | (refine gW ?_; refine wopsS ?_) | (refine gWd ?_; refine wdrS ?_) | (refine aw_block ?_) | (refine gX ?_; refine exitS ?_) | (refine gT ?_; refine retS ?_) | (refine gS ?_; refine skipS ?_) | (apply_assumption (exfalso := false) (symm := false))))
    (refine fin_le (Le.refl _) (rv_one (rv1_tmp (by rfl))) (by first | rfl | (simp only [go_sem, Nat.reduceAdd, Nat.reduceMul, reduceIte, Nat.reduceEqDiff, Nat.reduceLeDiff, Int.reduceBEq, Int.reduceBNe, Int.reduceLT, Int.reduceLE, decide_true, decide_false])) ?_)
    rfl
end Go.Proofs.Ytjefjhcaicohjaa
