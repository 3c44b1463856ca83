import Derived.Test.YtanogjooppnihaaFmp
import Derived.Test.YtanogjooppnihaaFmy


namespace Go.Proofs.Ytanogjooppnihaa
open Go.Ab
open Go
set_option linter.unusedSimpArgs false
set_option linter.unusedVariables false
set_option maxRecDepth 10000
attribute [local irreducible] PV AOp AOps AW PCall OCall MCall WCall HCall Ab.Fin OFin OFin2 MFin HFin RV RV1 Le AStk AGrd ADr ADx ADo AOpX AAny AOpsI wops wdr wgd wdt
set_option maxHeartbeats 4000000
/-! the closed example -/
def evN : List FNode := [⟨2, [], 0⟩, ⟨2, [], 1⟩, ⟨7, [0, 1], 0⟩]
theorem eventually_pc : PCall Try.prog 22 [] (fun r => r = formA evN) := by
  refine pcall_res (r := .agg [.isl 3 40 [.agg [.int 2, .nilS, .int 0], .agg [.int 2, .nilS, .int 1], .agg [.int 7, ints [0, 1], .int 0]]]) ?_ ?_
  · (refine enterS Try.func22 Try.ntmps22 ?_)
    (repeat' (first | (refine hK _ ?_; clear hK K) | (refine aw_seq (fun K hK => ?_)) | (refine gR ?_; refine regS ?_) | (refine gE ?_; (first | (refine exN ?_) | (refine exS (fun _ => ?_)))) | (refine gQ ?_; (first | (refine condT ?_) | (refine condF ?_) | (refine condS (fun hc => ?_) (fun hc => ?_) <;> (try (first | contradiction | (exfalso; omega)))))) | (refine gW ?_; refine wopsS ?_) | (refine aw_block ?_) | (refine gX ?_; refine exitS ?_) | (refine gT ?_; refine retS ?_) | (refine gS ?_; refine skipS ?_) | (apply_assumption (exfalso := false) (symm := false))))
    (refine fin_le (Le.refl _) (rv_one (rv1_cell (by first | exact pv_load (by rfl) (by rfl) (by rfl) (by rfl) | exact pv_loadA (by rfl) (by rfl) (by rfl) (by first | decide | simp)))) (by first | rfl | (simp only [go_sem, Nat.reduceAdd, Nat.reduceMul, reduceIte, Nat.reduceEqDiff, Nat.reduceLeDiff, Int.reduceToNat, Int.reducePow, Int.reduceBEq, Int.reduceBNe, Int.reduceLT, Int.reduceLE, decide_true, decide_false])) ?_)
    rfl
  · refine ALe.agg ⟨ALe.isl rfl (fun e he => ?_) ⟨ALe.rfl' _, ALe.nil 1 8, ALe.rfl' _, ALe.rfl' _, ALe.nil 1 8, ALe.rfl' _, ALe.rfl' _, ALe.rfl' _, ALe.rfl' _, trivial⟩, trivial⟩
    obtain ⟨n, _, rfl⟩ := List.mem_map.1 he
    rfl

theorem tr_a : PCall Try.prog 14 [formA evN, .int 2, .isl 1 24 [ints [0], ints [1]]] (fun r => r = .tup [.bool true, fault 0 0]) := by
  have := eval_pc evN 2 [[0], [1]]
  rw [show evalB 2 evN [[0], [1]] = true by decide +kernel, show evalF 2 evN [[0], [1]] = (0, 0) by decide +kernel] at this
  exact this
theorem tr_b : PCall Try.prog 14 [formA evN, .int 2, .isl 1 24 [ints [0], .nilS]] (fun r => r = .tup [.bool false, fault 0 0]) := by
  have := eval_pc evN 2 [[0], []]
  rw [show evalB 2 evN [[0], []] = false by decide +kernel, show evalF 2 evN [[0], []] = (0, 0) by decide +kernel] at this
  refine pcall_le this ⟨ALe.rfl' _, ALe.rfl' _, ALe.isl rfl (fun e he => ?_) ⟨ALe.rfl' _, ALe.nil 1 8, trivial⟩, trivial⟩
  obtain ⟨n, _, rfl⟩ := List.mem_map.1 he
  rfl
theorem tr_p : PCall Try.prog 16 [formA evN, .int 2, ints [0]] (fun r => r = .tup [formA evN, fault 0 0]) := by
  have := progress_pc evN 2 [0]
  rw [show progL 2 evN [0] = evN by decide +kernel, show progF 2 evN [0] = (0, 0) by decide +kernel] at this
  exact this
def nvN : List FNode := [⟨1, [], 0⟩, ⟨3, [0], 0⟩]
theorem tr_q : PCall Try.prog 16 [formA evN, .int 2, .nilS] (fun r => r = .tup [formA nvN, fault 0 0]) := by
  have := progress_pc evN 2 []
  rw [show progL 2 evN [] = nvN by decide +kernel, show progF 2 evN [] = (0, 0) by decide +kernel] at this
  exact pcall_le this ⟨ALe.rfl' _, ALe.rfl' _, ALe.nil 1 8, trivial⟩
theorem tr_c : PCall Try.prog 14 [formA evN, .int 2, .isl 1 24 [ints [1]]] (fun r => r = .tup [.bool true, fault 0 0]) := by
  have := eval_pc evN 2 [[1]]
  rw [show evalB 2 evN [[1]] = true by decide +kernel, show evalF 2 evN [[1]] = (0, 0) by decide +kernel] at this
  exact this
theorem tr_d : PCall Try.prog 14 [formA nvN, .int 2, .isl 1 24 [ints [1]]] (fun r => r = .tup [.bool false, fault 0 0]) := by
  have := eval_pc nvN 2 [[1]]
  rw [show evalB 2 nvN [[1]] = false by decide +kernel, show evalF 2 nvN [[1]] = (0, 0) by decide +kernel] at this
  exact this
theorem tr_v : PCall Try.prog 10 [.agg [.nilS], .int 2] (fun r => r = fault 2 (-2)) :=
  pcall_le (fvalid_pc [] 2) ⟨ALe.agg ⟨ALe.nil 3 40, trivial⟩, ALe.rfl' _, trivial⟩








theorem traces_pc : PCall Try.prog 9 [] (fun r => r = .bool true) := by
  (refine enterS Try.func9 Try.ntmps9 ?_)
  (repeat' (first | (refine hK _ ?_; clear hK K) | (refine aw_seq (fun K hK => ?_)) | (refine gR ?_; refine regS ?_) | (refine gC 22 ?_; refine callS (eventually_pc) ?_) | (refine gC 14 ?_; refine callS (tr_a) ?_) | (refine gC 14 ?_; refine callS (tr_b) ?_) | (refine gC 14 ?_; refine callS (tr_c) ?_) | (refine gC 14 ?_; refine callS (tr_d) ?_) | (refine gC 16 ?_; refine callS (tr_p) ?_) | (refine gC 16 ?_; refine callS (tr_q) ?_) | (refine gC 10 ?_; refine callS (tr_v) ?_) | (refine gC 12 ?_; refine callS (at_pc _ _) ?_) | (refine stk_op (fun K hK => ?_); (first | (refine aop_pv (pv_fieldAddrF (by rfl) (by rfl) (by first | decide | (simp; done) | (simp; omega))) ?_) | (refine aop_pv (pv_fieldAddrIF (by rfl) (by rfl) (by first | decide | (simp; done) | (simp; omega))) ?_) | (refine aop_pv (pv_neq (by rfl) (by rfl)) ?_) | (refine aop_pv (pv_neqB (by rfl) (by rfl)) ?_) | (refine aop_pv (pv_neqA (by rfl) (by rfl) (by kernel_rfl)) ?_) | (refine aop_pv (pv_eql (by rfl) (by rfl)) ?_) | (refine aop_pv (pv_eqlB (by rfl) (by rfl)) ?_) | (refine aop_pv (pv_eqlA (by rfl) (by rfl) (by kernel_rfl)) ?_))) | (refine gE ?_; (first | (refine exN ?_) | (refine exS (fun _ => ?_)))) | (refine gG ?_; refine guardS (fun hc => ?_) (fun hc => ?_) <;> (try (first | contradiction | (exfalso; omega)))) | (refine gQ ?_; (first | (refine condT ?_) | (refine condF ?_) | (refine condS (fun hc => ?_) (fun hc => ?_) <;> (try (first | contradiction | (exfalso; omega)))))) | (refine gW ?_; refine wopsS ?_) | (refine aw_block ?_) | (refine gX ?_; refine exitS ?_) | (refine gT ?_; refine retS ?_) | (refine gS ?_; refine skipS ?_) | (apply_assumption (exfalso := false) (symm := false))))
  (refine fin_le (Le.refl _) (rv_one (rv1_tmp (by rfl))) (by first | rfl | (simp only [go_sem, Nat.reduceAdd, Nat.reduceMul, reduceIte, Nat.reduceEqDiff, Nat.reduceLeDiff, Int.reduceToNat, Int.reducePow, Int.reduceBEq, Int.reduceBNe, Int.reduceLT, Int.reduceLE, decide_true, decide_false])) ?_)
  rfl


end Go.Proofs.Ytanogjooppnihaa
