import Derived.Test.YtpnpnbbanfgpgaaVal
import Derived.Test.YtpnpnbbanfgpgaaMua




namespace Go.Proofs.Ytpnpnbbanfgpgaa
open Go.Ab
open Go
set_option linter.unusedSimpArgs false
set_option linter.unusedVariables false
set_option maxRecDepth 10000
attribute [local irreducible] PV AOp AOps AW PCall OCall MCall WCall HCall Ab.Fin OFin OFin2 MFin HFin RV RV1 Le AStk AGrd ADr ADx ADo AOpX AAny
set_option maxHeartbeats 4000000
/-! what operators do to classes -/
def preL (o : Op) (c : List Int) : Int := if cntIn c o.pre = 0 then -1 else valK c o.pre c.length
def openL (o : Op) (c : List Int) : Bool := decide (preL o c < 0) && decide (0 < cntIn c o.del)
def onA (o : Op) (c : List Int) : AV :=
  if 0 < cntIn c o.add then .agg [.bool false, .int (preL o c), .fn 77 [.iptr [.int (valK c o.add c.length)]]]
  else .agg [.bool (openL o c), .int (preL o c), .fn 78 [.iptr [ints c], .iptr (opc o)]]
theorem valueS_pc (c s : List Int) (n : Int) (hs : isSet s n = true) : PCall Try.prog 37 [ints c, ints s] (fun r => r = .tup [.int (valK c s c.length), .int (cntIn c s)]) := value_pc c s (isSet_iff.1 hs).2
theorem on_pc (o : Op) (c : List Int) (n : Int) (ho : opOk o n = true) (hc : c.length ≤ 1000) : PCall Try.prog 62 [o.av, ints c] (fun r => r = onA o c) := by
  obtain ⟨p1, p2, p3, _⟩ := opOk_sets ho
  
  
  
  have hcp : preL o c = if cntIn c o.pre = 0 then -1 else valK c o.pre c.length := rfl
  (refine enterS Try.func62 Try.ntmps62 ?_)
  (repeat' (first | (refine hK _ ?_; clear hK K) | (refine aw_seq (fun K hK => ?_)) | (refine gRx 8 (by rfl) ?_; refine regS ?_) | (refine gC 37 ?_; refine callS (valueS_pc c o.pre n p1) ?_) | (refine gC 37 ?_; refine callS (valueS_pc c o.add n p2) ?_) | (refine gC 37 ?_; refine callS (valueS_pc c o.del n p3) ?_) | (refine stk_op (fun K hK => ?_); refine aop_le (le_sealPtr 7 rfl rfl rfl) ?_; simp only [go_sem, Nat.reduceAdd, Nat.reduceMul, reduceIte, Nat.reduceEqDiff, Nat.reduceLeDiff, Int.reduceToNat, Int.reducePow, Int.reduceBEq, Int.reduceBNe, Int.reduceLT, Int.reduceLE, decide_true, decide_false]; refine aop_pv pv_makeFunc ?_) | (refine gE ?_; refine exN ?_) | (refine gQ ?_; refine condS (fun hc => ?_) (fun hc => ?_) <;> (try (first | contradiction | (exfalso; omega)))) | (refine gT ?_; refine retS ?_) | (refine gS ?_; refine skipS ?_)))
  all_goals try (refine aw_le (le_sealPtr 3 rfl rfl rfl) ?_; simp only [go_sem, Nat.reduceAdd, Nat.reduceMul, reduceIte, Nat.reduceEqDiff, Nat.reduceLeDiff, Int.reduceToNat, Int.reducePow, Int.reduceBEq, Int.reduceBNe, Int.reduceLT, Int.reduceLE, decide_true, decide_false])
  all_goals try (refine aw_le (le_sealPtr 2 rfl rfl rfl) ?_; simp only [go_sem, Nat.reduceAdd, Nat.reduceMul, reduceIte, Nat.reduceEqDiff, Nat.reduceLeDiff, Int.reduceToNat, Int.reducePow, Int.reduceBEq, Int.reduceBNe, Int.reduceLT, Int.reduceLE, decide_true, decide_false])
  (repeat' (first | (refine hK _ ?_; clear hK K) | (refine gR ?_; refine regS ?_) | (refine gE ?_; refine exN ?_) | (refine gG ?_; refine guardS (fun hc => ?_) (fun hc => ?_) <;> (try (first | contradiction | (exfalso; omega)))) | (refine gT ?_; refine retS ?_)))
  all_goals (refine fin_le (Le.refl _) (rv_one (rv1_cell (by first | exact pv_load (by rfl) (by rfl) (by rfl) (by rfl) | exact pv_loadA (by rfl) (by rfl) (by rfl) (by first | decide | simp)))) (by first | rfl | (simp only [go_sem, Nat.reduceAdd, Nat.reduceMul, reduceIte, Nat.reduceEqDiff, Nat.reduceLeDiff, Int.reduceToNat, Int.reducePow, Int.reduceBEq, Int.reduceBNe, Int.reduceLT, Int.reduceLE, decide_true, decide_false])) ?_)
  all_goals (unfold onA openL; first | (rw [if_pos (by omega), hcp]) | (rw [if_neg (by omega), hcp]))
  all_goals (first | (rw [if_pos (by omega)]) | (rw [if_neg (by omega)]))
  all_goals (simp_all <;> omega)

end Go.Proofs.Ytpnpnbbanfgpgaa
