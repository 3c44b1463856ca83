import Derived.Test.YthndlimdehfneaaCoq



namespace Go.Proofs.Ythndlimdehfneaa
open Go.Ab
open Go
set_option linter.unusedSimpArgs false
set_option linter.unusedVariables false
set_option maxRecDepth 10000
attribute [local irreducible] PV AOp AOps AW PCall OCall MCall Ab.Fin OFin OFin2 MFin RV RV1 Le AStk AGrd ADr ADx ADo AOpX AAny
set_option maxHeartbeats 2000000
/-! the closed example -/
def stepsT : Task := ⟨3, [0], [2], [⟨[0], [1], [0], 2⟩, ⟨[1], [2], [1], 3⟩]⟩
def pairT : Task := ⟨2, [], [0, 1], [⟨[], [0], [], 1⟩, ⟨[], [1], [], 1⟩]⟩
theorem steps_pc : PCall Try.prog 57 [] (fun r => r = stepsT.av) := by
  (refine enterS Try.func57 Try.ntmps57 ?_)
  (repeat' (first | (refine hK _ ?_; clear hK K) | (refine aw_seq (fun K hK => ?_)) | (refine gR ?_; refine regS ?_) | (refine gE ?_; (first | (refine exN ?_) | (refine exS (fun _ => ?_)))) | (refine gQ ?_; (first | (refine condT ?_) | (refine condF ?_) | (refine condS (fun hc => ?_) (fun hc => ?_) <;> (try (first | contradiction | (exfalso; omega)))))) | (refine gW ?_; refine wopsS ?_) | (refine aw_block ?_) | (refine gX ?_; refine exitS ?_) | (refine gT ?_; refine retS ?_) | (refine gS ?_; refine skipS ?_) | (apply_assumption (exfalso := false) (symm := false))))
  (refine fin_le (Le.refl _) (rv_one (rv1_cell (by first | exact pv_load (by rfl) (by rfl) (by rfl) (by rfl) | exact pv_loadA (by rfl) (by rfl) (by rfl) (by first | decide | simp)))) (by first | rfl | (simp only [go_sem, Nat.reduceAdd, Nat.reduceMul, reduceIte, Nat.reduceEqDiff, Nat.reduceLeDiff, Int.reduceToNat, Int.reducePow, Int.reduceBEq, Int.reduceBNe, Int.reduceLT, Int.reduceLE, decide_true, decide_false])) ?_)
  rfl
theorem pair_pc : PCall Try.prog 68 [] (fun r => r = pairT.av) := by
  refine pcall_res (r := .agg [.int 2, .nilS, .isl 1 8 [.int 0, .int 1], .isl 4 80 [.agg [.nilS, .isl 1 8 [.int 0], .nilS, .int 1], .agg [.nilS, .isl 1 8 [.int 1], .nilS, .int 1]]]) ?_ ?_
  · (refine enterS Try.func68 Try.ntmps68 ?_)
    (repeat' (first | (refine hK _ ?_; clear hK K) | (refine aw_seq (fun K hK => ?_)) | (refine gR ?_; refine regS ?_) | (refine gE ?_; (first | (refine exN ?_) | (refine exS (fun _ => ?_)))) | (refine gQ ?_; (first | (refine condT ?_) | (refine condF ?_) | (refine condS (fun hc => ?_) (fun hc => ?_) <;> (try (first | contradiction | (exfalso; omega)))))) | (refine gW ?_; refine wopsS ?_) | (refine aw_block ?_) | (refine gX ?_; refine exitS ?_) | (refine gT ?_; refine retS ?_) | (refine gS ?_; refine skipS ?_) | (apply_assumption (exfalso := false) (symm := false))))
    (refine fin_le (Le.refl _) (rv_one (rv1_cell (by first | exact pv_load (by rfl) (by rfl) (by rfl) (by rfl) | exact pv_loadA (by rfl) (by rfl) (by rfl) (by first | decide | simp)))) (by first | rfl | (simp only [go_sem, Nat.reduceAdd, Nat.reduceMul, reduceIte, Nat.reduceEqDiff, Nat.reduceLeDiff, Int.reduceToNat, Int.reducePow, Int.reduceBEq, Int.reduceBNe, Int.reduceLT, Int.reduceLE, decide_true, decide_false])) ?_)
    rfl
  · exact .agg ⟨ALe.rfl' _, ALe.nil 1 8, ALe.rfl' _, ALe.isl rfl (by simp [AV.cells]) ⟨ALe.nil 1 8, ALe.rfl' _, ALe.nil 1 8, ALe.rfl' _, ALe.nil 1 8, ALe.rfl' _, ALe.nil 1 8, ALe.rfl' _, trivial⟩, trivial⟩


def stF : Task := ⟨3, [0], [2], [⟨[1], [2], [1], 3⟩]⟩
def stR : Task := ⟨4, [0], [2, 3], [⟨[0], [1, 3], [0], 2⟩, ⟨[1], [2], [1], 3⟩]⟩
def stX : Task := ⟨3, [0], [2], [⟨[0], [1], [], 2⟩, ⟨[1], [2], [], 3⟩]⟩
def stS : Task := ⟨3, [0], [2], [⟨[0], [1], [0], 4⟩, ⟨[1], [2], [1], 6⟩]⟩
def stP : Task := ⟨5, [0], [2, 3, 4], [⟨[0], [1], [0], 2⟩, ⟨[1], [2], [1], 3⟩, ⟨[], [3], [], 1⟩, ⟨[], [4], [], 1⟩]⟩
@[local go_sem] theorem stF_facts : stF.facts = 3 := rfl
@[local go_sem] theorem stF_goal : stF.goal = [2] := rfl
@[local go_sem] theorem stF_ops : stF.ops = [⟨[1], [2], [1], 3⟩] := rfl
@[local go_sem] theorem stR_facts : stR.facts = 4 := rfl
@[local go_sem] theorem stR_goal : stR.goal = [2, 3] := rfl
@[local go_sem] theorem stR_ops : stR.ops = [⟨[0], [1, 3], [0], 2⟩, ⟨[1], [2], [1], 3⟩] := rfl
@[local go_sem] theorem stX_facts : stX.facts = 3 := rfl
@[local go_sem] theorem stX_goal : stX.goal = [2] := rfl
@[local go_sem] theorem stX_ops : stX.ops = [⟨[0], [1], [], 2⟩, ⟨[1], [2], [], 3⟩] := rfl
@[local go_sem] theorem stS_facts : stS.facts = 3 := rfl
@[local go_sem] theorem stS_goal : stS.goal = [2] := rfl
@[local go_sem] theorem stS_ops : stS.ops = [⟨[0], [1], [0], 4⟩, ⟨[1], [2], [1], 6⟩] := rfl
@[local go_sem] theorem stP_facts : stP.facts = 5 := rfl
@[local go_sem] theorem stP_goal : stP.goal = [2, 3, 4] := rfl
@[local go_sem] theorem stP_ops : stP.ops = [⟨[0], [1], [0], 2⟩, ⟨[1], [2], [1], 3⟩, ⟨[], [3], [], 1⟩, ⟨[], [4], [], 1⟩] := rfl
@[local go_sem] theorem cast_0 : ((0 : Nat) : Int) = 0 := rfl
@[local go_sem] theorem cast_1 : ((1 : Nat) : Int) = 1 := rfl
@[local go_sem] theorem cast_2 : ((2 : Nat) : Int) = 2 := rfl
theorem c_forbid : PCall Try.prog 44 [stepsT.av, .int 0] (fun r => r = .tup [stF.av, fault 0 0]) := (forbid_pc stepsT 0).mono fun x hx => by rw [hx, show forbidOf stepsT 0 = (stF, (0, 0)) by decide]
theorem c_forbid2 : PCall Try.prog 44 [stepsT.av, .int 2] (fun r => r = .tup [zeroT.av, fault 3 (-6)]) := (forbid_pc stepsT 2).mono fun x hx => by rw [hx, show forbidOf stepsT 2 = (zeroT, (3, -6)) by decide]
theorem c_require : PCall Try.prog 43 [stepsT.av, .int 0] (fun r => r = .tup [stR.av, fault 0 0]) := (require_pc stepsT 0).mono fun x hx => by rw [hx, show requireOf stepsT 0 = (stR, (0, 0)) by decide]
theorem c_relax : PCall Try.prog 49 [stepsT.av] (fun r => r = .tup [stX.av, fault 0 0]) := (relax_pc stepsT).mono fun x hx => by rw [hx, show relaxOf stepsT = (stX, (0, 0)) by decide]
theorem c_scale : PCall Try.prog 50 [stepsT.av, .int 2] (fun r => r = .tup [stS.av, fault 0 0]) := (scale_pc stepsT 2).mono fun x hx => by rw [hx, show scaleOf stepsT 2 = (stS, (0, 0)) by decide]
theorem c_product : PCall Try.prog 47 [stepsT.av, pairT.av] (fun r => r = .tup [stP.av, fault 0 0]) := (product_pc stepsT pairT).mono fun x hx => by rw [hx, show prodOf stepsT pairT = (stP, (0, 0)) by decide]
theorem c_ints2 : PCall Try.prog 20 [ints [2, 3], ints [2, 3]] (fun r => r = .bool true) := (ints_pc [2, 3] [2, 3]).mono fun x hx => by rw [hx]; rfl
theorem c_ints3 : PCall Try.prog 20 [ints [2, 3, 4], ints [2, 3, 4]] (fun r => r = .bool true) := (ints_pc [2, 3, 4] [2, 3, 4]).mono fun x hx => by rw [hx]; rfl









set_option maxHeartbeats 20000000 in
theorem changes_pc : PCall Try.prog 45 [] (fun r => r = .bool true) := by
  (refine enterS Try.func45 Try.ntmps45 ?_)
  (repeat' (first | (refine hK _ ?_; clear hK K) | (refine aw_seq (fun K hK => ?_)) | (refine gRx 7 (by rfl) ?_; refine regS ?_) | (refine gE ?_; (first | (refine exN ?_) | (refine exS (fun _ => ?_)))) | (refine gC 57 ?_; refine callS (steps_pc) ?_) | (refine gC 44 ?_; refine callS (c_forbid) ?_) | (refine gC 44 ?_; refine callS (c_forbid2) ?_) | (refine gC 43 ?_; refine callS (c_require) ?_) | (refine gC 49 ?_; refine callS (c_relax) ?_) | (refine gC 50 ?_; refine callS (c_scale) ?_) | (refine gC 68 ?_; refine callS (pair_pc) ?_) | (refine gC 47 ?_; refine callS (c_product) ?_) | (refine gCd 28 ?_; refine callD (at_pc _ _) ?_) | (refine gCd 20 ?_; refine callD (c_ints2) ?_) | (refine gCd 20 ?_; refine callD (c_ints3) ?_) | (refine gQ ?_; (first | (refine condT ?_) | (refine condF ?_) | (refine condS (fun hc => ?_) (fun hc => ?_) <;> (try (first | contradiction | (exfalso; omega)))))) | (refine gGd ?_; refine guardD (fun hc => ?_) (fun hc => ?_) <;> (try (first | contradiction | (exfalso; omega)))) | (refine gW ?_; refine wopsS ?_) | (refine aw_block ?_) | (refine gX ?_; refine exitS ?_) | (refine gT ?_; refine retS ?_) | (refine gS ?_; refine skipS ?_) | (apply_assumption (exfalso := false) (symm := false))))
  refine aw_regL (by simp only [List.append_eq, List.cons_append, List.nil_append]; exact rfl) ?_
  (repeat' (first | (refine hK _ ?_; clear hK K) | (refine aw_seq (fun K hK => ?_)) | (refine gR ?_; refine regS ?_) | (refine gD 7 ?_; refine drS (.it 0 0 (.it 1 0 (.it 2 0 (.it 3 0 (.it 4 0 (.it 5 0 (.it 6 0 (.it 7 0 (.it 8 0 (.it 9 0 (.it 10 0 (.it 11 0 (.it 12 0 (.it 13 0 (.it 14 0 (.it 15 0 (.it 16 0 (.it 17 0 (.it 18 0 (.it 19 0 (.it 20 0 (.it 21 0 (.it 22 0 (.it 23 0 (.it 24 0 (.it 25 2 (.it 26 0 (.it 27 0 (.it 28 0 (.it 29 0 (.it 30 0 (.it 31 0 (.it 32 0 (.it 33 0 (.it 34 0 (.it 35 0 (.it 36 0 (.it 37 0 (.it 38 0 (.it 39 0 (.it 40 0 (.it 41 0 (.it 42 0 (.it 43 0 (.it 44 0 (.it 45 0 (.it 46 0 (.it 47 0 (.it 48 0 (.it 49 0 (.it 50 2 (.it 51 2 (.it 52 0 (.it 53 0 (.it 54 0 (.it 55 0 (.it 56 0 (.it 57 0 (.it 58 0 (.it 59 0 (.it 60 0 (.it 61 0 (.it 62 0 (.it 63 0 (.it 64 0 (.it 65 0 (.it 66 0 (.it 67 0 (.it 68 0 (.it 69 0 (.it 70 0 (.it 71 0 (.it 72 0 (.it 73 0 (.it 74 0 (.it 75 0 (.it 76 0 (.it 77 0 (.it 78 0 (.it 79 0 (.it 80 0 (.it 81 0 (.it 82 0 (.it 83 0 (.it 84 0 (.it 85 0 (.it 86 0 (.it 87 0 (.it 88 0 (.it 89 0 (.it 90 2 (.it 91 2 (.it 92 0 (.it 93 0 .nil)))))))))))))))))))))))))))))))))))))))))))))))))))))))))))))))))))))))))))))))))))))))))))))) [0, 1, 2, 3, 4, 5, 6, 7, 8, 9, 10, 11, 12, 13, 14, 15, 16, 17, 18, 19, 20, 21, 22, 23, 24, 25, 26, 27, 28, 29, 30, 31, 32, 33, 34, 35, 36, 37, 38, 39, 40, 41, 42, 43, 44, 45, 46, 47, 48, 49, 50, 51, 52, 53, 54, 55, 56, 57, 58, 59, 60, 61, 62, 63, 64, 65, 66, 67, 68, 69, 70, 71, 72, 73, 74, 75, 76, 77, 78, 79, 80, 81, 82, 83, 84, 85, 86, 87, 88, 89, 90, 91, 92, 93] ?_) | (refine gE ?_; (first | (refine exN ?_) | (refine exS (fun _ => ?_)))) | (refine gC 57 ?_; refine callS (steps_pc) ?_) | (refine gC 44 ?_; refine callS (c_forbid) ?_) | (refine gC 44 ?_; refine callS (c_forbid2) ?_) | (refine gC 43 ?_; refine callS (c_require) ?_) | (refine gC 49 ?_; refine callS (c_relax) ?_) | (refine gC 50 ?_; refine callS (c_scale) ?_) | (refine gC 68 ?_; refine callS (pair_pc) ?_) | (refine gC 47 ?_; refine callS (c_product) ?_) | (refine gCd 28 ?_; refine callD (at_pc _ _) ?_) | (refine gCd 20 ?_; refine callD (c_ints2) ?_) | (refine gCd 20 ?_; refine callD (c_ints3) ?_) | (refine adx_op (fun K hK => ?_); (first | (refine aopx_pv (pv_fieldAddrF (by rfl) (by rfl) (by first | decide | (simp; done) | (simp; omega))) ?_) | (refine aopx_pv (pv_fieldAddrIF (by rfl) (by rfl) (by first | decide | (simp; done) | (simp; omega))) ?_) | (refine aopx_pv (pv_eql (by rfl) (by rfl)) ?_) | (refine aopx_pv (pv_eqlB (by rfl) (by rfl)) ?_) | (refine aopx_pv (pv_eqlA (by rfl) (by rfl) (by kernel_rfl)) ?_) | (refine aopx_buildSlice (d := 94) (by exact ⟨by decide, by decide, by decide⟩) (by rfl) (by rfl) (by rfl) (by rfl) ?_) | (refine aopx_buildSlice (d := 134) (by exact ⟨by decide, by decide, by decide⟩) (by rfl) (by rfl) (by rfl) (by rfl) ?_))) | (refine And.intro ?_ ?_) | (refine gDx ?_; refine adxS ?_) | (refine gQ ?_; (first | (refine condT ?_) | (refine condF ?_) | (refine condS (fun hc => ?_) (fun hc => ?_) <;> (try (first | contradiction | (exfalso; omega)))))) | (refine gGd ?_; refine guardD (fun hc => ?_) (fun hc => ?_) <;> (try (first | contradiction | (exfalso; omega)))) | (refine gW ?_; refine wopsS ?_) | (refine gWd ?_; refine wdrS ?_) | (refine aw_block ?_) | (refine gX ?_; refine exitS ?_) | (refine gT ?_; refine retS ?_) | (refine gS ?_; refine skipS ?_) | (apply_assumption (exfalso := false) (symm := false))))
  (refine fin_le (Le.refl _) (rv_one (rv1_tmp (by rfl))) (by first | rfl | (simp only [go_sem, Nat.reduceAdd, Nat.reduceMul, reduceIte, Nat.reduceEqDiff, Nat.reduceLeDiff, Int.reduceToNat, Int.reducePow, Int.reduceBEq, Int.reduceBNe, Int.reduceLT, Int.reduceLE, decide_true, decide_false])) ?_)
  rfl



end Go.Proofs.Ythndlimdehfneaa
