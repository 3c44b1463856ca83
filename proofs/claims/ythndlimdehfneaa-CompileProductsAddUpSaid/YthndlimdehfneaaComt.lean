import Derived.Test.YthndlimdehfneaaComs


namespace Go.Proofs.Ythndlimdehfneaa
open Go.Ab
open Go
set_option linter.unusedSimpArgs false
set_option linter.unusedVariables false
set_option maxRecDepth 10000
attribute [local irreducible] PV AOp AOps AW PCall OCall MCall Ab.Fin OFin OFin2 MFin RV RV1 Le AStk AGrd ADr ADx ADo AOpX AAny
set_option maxHeartbeats 2000000
/-! an operator left out -/
theorem opc_take (l : List Op) (k : Nat) : (l.flatMap opc).take (k * 4) = (l.take k).flatMap opc := by
  induction l generalizing k with
  | nil => simp
  | cons w l ih =>
    cases k with
    | zero => simp
    | succ k =>
      simp only [List.flatMap_cons, List.take_succ_cons, ← ih k]
      rw [List.take_append, List.take_of_length_le (by simp; omega)]
      rw [show (k + 1) * 4 - (opc w).length = k * 4 by simp; omega]
theorem opc_drop (l : List Op) (k : Nat) : (l.flatMap opc).drop (k * 4) = (l.drop k).flatMap opc := by
  induction l generalizing k with
  | nil => simp
  | cons w l ih =>
    cases k with
    | zero => simp
    | succ k =>
      simp only [List.flatMap_cons, List.drop_succ_cons, ← ih k]
      rw [List.drop_append, List.drop_of_length_le (by simp; omega), List.nil_append]
      rw [show (k + 1) * 4 - (opc w).length = k * 4 by simp; omega]
theorem opc_one (l : List Op) : allOne (l.flatMap opc) = true := by
  induction l with
  | nil => rfl
  | cons w l ih => simpa [List.flatMap_cons, allOne, AV.one, Value.oneCell'] using ih
def delL (l : List Op) (i : Nat) : List Op := l.eraseIdx i ++ l.drop (l.length - 1)
theorem delL_len {l : List Op} {i : Nat} (hi : i < l.length) : (delL l i).length = l.length := by simp [delL, List.length_eraseIdx, hi]; try omega
theorem delL_take {l : List Op} {i : Nat} (hi : i < l.length) : (delL l i).take (l.length - 1) = l.eraseIdx i := by
  have h : (l.eraseIdx i).length = l.length - 1 := by simp [List.length_eraseIdx, hi]
  unfold delL; rw [List.take_append_of_le_length (by omega), List.take_of_length_le (by omega)]
theorem del_cells {l : List Op} {i : Nat} (hi : i < l.length) : (l.flatMap opc).take (i * 4) ++ ((l.flatMap opc).drop ((i + 1) * 4)).take ((l.length - (i + 1)) * 4) ++ (l.flatMap opc).drop (i * 4 + (l.length - (i + 1)) * 4) = (delL l i).flatMap opc := by
  unfold delL
  have h1 : (l.drop (i + 1)).take (l.length - (i + 1)) = l.drop (i + 1) := List.take_of_length_le (by simp)
  rw [← Nat.add_mul, opc_take, opc_drop, opc_drop, opc_take, h1, ← opc_app, ← opc_app, List.eraseIdx_eq_take_drop_succ]
  rw [show i + (l.length - (i + 1)) = l.length - 1 by omega]
@[local go_sem] theorem sop_clear (tab : Nat → Option TI) (d : Option Tmp) (s : St) (args : Array Operand) (tys : Array TypeId) : sop tab (.call { callee := .builtin .clear, args := args, argTypes := tys }) d s = .no := rfl
theorem delete_mc (l : List Op) (i : Nat) (hi : i < l.length) (hb : l.length * 80 ≤ 140737488355328) (fl : Bool) : MCall Try.prog 79 [.sl 4 80 1700100 0 l.length, .int i, .int (i + 1)] 1700100 ⟨77, l.flatMap opc, fl⟩
    (fun x bk => x = .sl 4 80 1700100 0 (l.length - 1) ∧ bk = ⟨77, (l.eraseIdx i).flatMap opc, false⟩) := by
  (refine enterM Try.func79 Try.ntmps79 ?_)
  (repeat' (first | (refine hK _ ?_; clear hK K) | (refine aw_seq (fun K hK => ?_)) | (refine gRx 6 (by rfl) ?_; refine regS ?_) | (refine gD 5 ?_; refine drS (.it 0 0 (.it 1 0 (.it 2 0 (.it 3 0 (.it 4 0 (.it 5 0 (.it 6 3 (.it 7 1 .nil)))))))) [0, 1, 2, 3, 4, 5] ?_) | (refine gE ?_; (first | (refine exN ?_) | (refine exS (fun _ => ?_)))) | (refine stk_op (fun K hK => ?_); (first | (refine aop_appendTail (j := i + 1) (by rfl) (by rfl) (by rfl) (by rfl) (opc_pur _) (opc_one _) (by omega) (by rw [opc_len]; omega) (by omega) (by omega) ?_) | (refine aop_pv (pv_eql (by rfl) (by rfl)) ?_) | (refine aop_pv (pv_eqlB (by rfl) (by rfl)) ?_) | (refine aop_pv (pv_eqlA (by rfl) (by rfl) (by kernel_rfl)) ?_))) | (refine adx_op (fun K hK => ?_); (first | (refine aop_appendTail (j := i + 1) (by rfl) (by rfl) (by rfl) (by rfl) (opc_pur _) (opc_one _) (by omega) (by rw [opc_len]; omega) (by omega) (by omega) ?_))) | (refine And.intro ?_ ?_) | (refine gDx ?_; refine adxS ?_) | (refine ado_op (fun K hK => ?_); (first | (refine aop_appendTail (j := i + 1) (by rfl) (by rfl) (by rfl) (by rfl) (opc_pur _) (opc_one _) (by omega) (by rw [opc_len]; omega) (by omega) (by omega) ?_) | (refine appendS ?_) | (refine virtS 22 26 4 80 77 ?_; refine appendS ?_))) | (refine gQ ?_; (first | (refine condT ?_) | (refine condF ?_) | (refine condS (fun hc => ?_) (fun hc => ?_) <;> (try (first | contradiction | (exfalso; omega)))))) | (refine gW ?_; refine wopsS ?_) | (refine gWd ?_; refine wdrS ?_) | (refine aw_block ?_) | (refine gX ?_; refine exitS ?_) | (refine gT ?_; refine retS ?_) | (refine gS ?_; refine skipS ?_) | (apply_assumption (exfalso := false) (symm := false))))
  have hd := delL_len hi
  have ht := delL_take hi
  rw [del_cells hi, show i + (l.length - (i + 1)) = l.length - 1 by omega]
  generalize delL l i = l2 at *
  (repeat' (first | (refine hK _ ?_; clear hK K) | (refine aw_seq (fun K hK => ?_)) | (refine gR ?_; refine regS ?_) | (refine gD 5 ?_; refine drS (.it 0 0 (.it 1 0 (.it 2 0 (.it 3 0 (.it 4 0 (.it 5 0 (.it 6 3 (.it 7 1 .nil)))))))) [0, 1, 2, 3, 4, 5] ?_) | (refine gE ?_; (first | (refine exN ?_) | (refine exS (fun _ => ?_)))) | (refine stk_op (fun K hK => ?_); (first | (refine aop_clearTail (id := 1700100) (l := l.length - 1) (by rfl) (by rfl) (by rfl) (by rfl) (by rfl) (by rw [opc_len]; omega) ?_) | (refine aop_pv (pv_eql (by rfl) (by rfl)) ?_) | (refine aop_pv (pv_eqlB (by rfl) (by rfl)) ?_) | (refine aop_pv (pv_eqlA (by rfl) (by rfl) (by kernel_rfl)) ?_))) | (refine adx_op (fun K hK => ?_); (first | (refine aop_clearTail (id := 1700100) (l := l.length - 1) (by rfl) (by rfl) (by rfl) (by rfl) (by rfl) (by rw [opc_len]; omega) ?_))) | (refine And.intro ?_ ?_) | (refine gDx ?_; refine adxS ?_) | (refine ado_op (fun K hK => ?_); (first | (refine aop_clearTail (id := 1700100) (l := l.length - 1) (by rfl) (by rfl) (by rfl) (by rfl) (by rfl) (by rw [opc_len]; omega) ?_) | (refine appendS ?_) | (refine virtS 22 26 4 80 77 ?_; refine appendS ?_))) | (refine gQ ?_; (first | (refine condT ?_) | (refine condF ?_) | (refine condS (fun hc => ?_) (fun hc => ?_) <;> (try (first | contradiction | (exfalso; omega)))))) | (refine gW ?_; refine wopsS ?_) | (refine gWd ?_; refine wdrS ?_) | (refine aw_block ?_) | (refine gX ?_; refine exitS ?_) | (refine gT ?_; refine retS ?_) | (refine gS ?_; refine skipS ?_) | (apply_assumption (exfalso := false) (symm := false))))
  refine mfin_le (Le.refl _) (rv_one (rv1_tmp (by rfl))) (by rfl) only_sl ?_ ?_
  · rw [opc_take]; exact opc_pur _
  · exact ⟨rfl, by rw [opc_take, ht]⟩
end Go.Proofs.Ythndlimdehfneaa
