import Derived.Test.YtbeceabheahpnaaSyw
import Derived.Test.YtbeceabheahpnaaSys



namespace Go.Proofs.Ytbeceabheahpnaa
open Go.Ab
open Go
set_option linter.unusedSimpArgs false
set_option linter.unusedVariables false
set_option maxRecDepth 10000
attribute [local irreducible] PV AOp AOps AW PCall OCall MCall WCall HCall Ab.Fin OFin OFin2 MFin HFin RV RV1 Le AStk AGrd ADr ADx ADo AOpX AAny AOpsI wops wdr wgd wdt
set_option maxHeartbeats 4000000
/-! two guarded operations that may come in either order -/
section
variable {P : Program}
theorem aany_twoXY {ops : Array Oper} {hs : List Nat} {f : Nat} {listed : Array Bool} {s : St} {K : St → Prop} {d d' : Option Tmp} {op op' : Go.Op} {ty ty' : TypeId} {pos pos' : String} {aft aft' : Array Edge} {j t j' t' : Nat} {b b' : Bool} (i i' : Nat) (hi : ops[i]? = some ⟨d, op, ty, pos, aft, some (j, b)⟩) (hi' : ops[i']? = some ⟨d', op', ty', pos', aft', some (j', b')⟩) (hr : Region.ready .any ops listed = [i, i'])
    (ht : (ops[j]?).bind (·.dst) = some t) (hc : s.fr[t]? = some (.bool b)) (ht' : (ops[j']?).bind (·.dst) = some t') (hc' : s.fr[t']? = some (.bool b'))
    (h : ∀ K' : St → Prop, (∀ s', AAny P ops hs f (listed.setIfInBounds i true) s' K → K' s') → AOpX P ⟨d, op, ty, pos, aft, some (j, b)⟩ s K')
    (h' : ∀ K' : St → Prop, (∀ s', AAny P ops hs f (listed.setIfInBounds i' true) s' K → K' s') → AOpX P ⟨d', op', ty', pos', aft', some (j', b')⟩ s K') : AAny P ops hs (f + 1) listed s K := by
  unfold AAny
  intro R β G a w hrep hcl
  have g1 := guard_known hrep ht hc
  have g2 := guard_known hrep ht' hc'
  refine ⟨fun h => (by rw [hr] at h; cases h), fun k hk => ?_⟩
  have hmem := hk
  rw [hr] at hk
  simp only [List.mem_cons, List.not_mem_nil, or_false] at hk
  unfold wpOp
  unfold AOpX at h h'
  rcases hk with rfl | rfl
  · simp only [hi]
    rw [if_pos (by simp [Region.wanted, g1])]
    exact .inl (Oper.wp_mono (fun a' w' ⟨hx, β', G', s', hs', hr'⟩ => ⟨fun _ => hx, (by unfold AAny at hs'; exact hs' R β' G' a' w' hr' (hcl.set hmem))⟩) (h _ (fun _ h => h) R β G a w _ hrep))
  · simp only [hi']
    rw [if_pos (by simp [Region.wanted, g2])]
    exact .inl (Oper.wp_mono (fun a' w' ⟨hx, β', G', s', hs', hr'⟩ => ⟨fun _ => hx, (by unfold AAny at hs'; exact hs' R β' G' a' w' hr' (hcl.set hmem))⟩) (h' _ (fun _ h => h) R β G a w _ hrep))
theorem adr_fkg {ops : Array Oper} {hs : List Nat} {s : St} {K : St → Prop} {d d' : Option Tmp} {op op' : Go.Op} {ty ty' : TypeId} {pos pos' : String} {aft aft' : Array Edge} {j t j' t' : Nat} {b b' : Bool} {x y : Sc} {i i' : Nat} (hi : ops[i]? = some ⟨d, op, ty, pos, aft, some (j, b)⟩) (hi' : ops[i']? = some ⟨d', op', ty', pos', aft', some (j', b')⟩)
    (ht : (ops[j]?).bind (·.dst) = some t) (hc : s.fr[t]? = some (.bool b)) (ht' : (ops[j']?).bind (·.dst) = some t') (hc' : s.fr[t']? = some (.bool b'))
    (h : ADx P ops hs ⟨d, op, ty, pos, aft, none⟩ x s K) (h' : ADx P ops hs ⟨d', op', ty', pos', aft', none⟩ y s K) : ADr P ops hs (.fk i i' x y) s K := by
  unfold ADr
  unfold ADx ADr at h h'
  intro l f hok
  cases f with
  | zero => simp [schedOk] at hok
  | succ f =>
    simp only [schedOk, nxt_eq, Bool.and_eq_true, beq_iff_eq] at hok
    obtain ⟨⟨hr, ha⟩, hb⟩ := hok
    refine aany_twoXY i i' hi hi' hr ht hc ht' hc' (fun K' hK' => ?_) (fun K' hK' => ?_)
    · have := h K' (fun s' hs' => hK' _ (hs' _ _ ha))
      unfold AOpX at this ⊢
      exact this
    · have := h' K' (fun s' hs' => hK' _ (hs' _ _ hb))
      unfold AOpX at this ⊢
      exact this
theorem adr_it0 {tab : Nat → Option TI} [hT : Tb P tab] {ops : Array Oper} {hs : List Nat} {s : St} {K : St → Prop} {d : Option Tmp} {op : Go.Op} {ty : TypeId} {pos : String} {aft : Array Edge} {i : Nat} {r : Sc} {x : AV} (hi : ops[i]? = some ⟨d, op, ty, pos, aft, none⟩) (e : pvo tab op s = .ok x) (h : ADr P ops hs r (s.put d x) K) : ADr P ops hs (.it i 0 r) s K := by
  have hx := pvo_ok (P := P) (tab := tab) op s
  rw [e] at hx
  unfold ADr at h ⊢
  intro l f hok
  cases f with
  | zero => simp [schedOk] at hok
  | succ f =>
    simp only [schedOk, nxt_eq, Bool.and_eq_true] at hok
    obtain ⟨hm, hr⟩ := hok
    exact aany_pv i hi hm hx (fun K' hK' => hK' _ (h _ _ hr))
theorem adr_it0g {tab : Nat → Option TI} [hT : Tb P tab] {ops : Array Oper} {hs : List Nat} {s : St} {K : St → Prop} {d : Option Tmp} {op : Go.Op} {ty : TypeId} {pos : String} {aft : Array Edge} {i j t : Nat} {b : Bool} {r : Sc} {x : AV} (hi : ops[i]? = some ⟨d, op, ty, pos, aft, some (j, b)⟩) (ht : (ops[j]?).bind (·.dst) = some t) (hc : s.fr[t]? = some (.bool b)) (e : pvo tab op s = .ok x) (h : ADr P ops hs r (s.put d x) K) : ADr P ops hs (.it i 0 r) s K := by
  have hx := pvo_ok (P := P) (tab := tab) op s
  rw [e] at hx
  unfold ADr at h ⊢
  intro l f hok
  cases f with
  | zero => simp [schedOk] at hok
  | succ f =>
    simp only [schedOk, nxt_eq, Bool.and_eq_true] at hok
    obtain ⟨hm, hr⟩ := hok
    exact aany_pvY i hi hm ht hc hx (fun K' hK' => hK' _ (h _ _ hr))
theorem adx_callP {ops : Array Oper} {hs : List Nat} {s : St} {K : St → Prop} {d : Option Tmp} {f : FuncId} {args : Array Operand} {tys : Array TypeId} {ty : TypeId} {pos : String} {aft : Array Edge} {g : Option (Nat × Bool)} {r : Sc} {y : AV} [hc : TyC P f] (h : PCall P f (evalL s args) (fun x => x = y)) (hp : AV.purL (evalL s args) = true) (hk : ADr P ops hs r (s.put d y) K) : ADx P ops hs ⟨d, .call { callee := .value (.func f), args, argTypes := tys }, ty, pos, aft, g⟩ r s K := by
  unfold ADx
  intro K' hK'
  exact aopx_call h hp fun x hx => by subst hx; exact hK' _ hk
end
/-! the closed example -/
def stepsT : Task := ⟨3, [0], [2], [⟨[0], [1], [0], 2⟩, ⟨[1], [2], [1], 3⟩]⟩
def pairT : Task := ⟨2, [], [0, 1], [⟨[], [0], [], 1⟩, ⟨[], [1], [], 1⟩]⟩
theorem steps_pc : PCall Try.prog 36 [] (fun r => r = stepsT.av) := by
  (refine enterS Try.func36 Try.ntmps36 ?_)
  (repeat' (first | (refine hK _ ?_; clear hK K) | (refine aw_seq (fun K hK => ?_)) | (refine gR ?_; refine regS ?_) | (refine gE ?_; (first | (refine exN ?_) | (refine exS (fun _ => ?_)))) | (refine gQ ?_; (first | (refine condT ?_) | (refine condF ?_) | (refine condS (fun hc => ?_) (fun hc => ?_) <;> (try (first | contradiction | (exfalso; omega)))))) | (refine gW ?_; refine wopsS ?_) | (refine aw_block ?_) | (refine gX ?_; refine exitS ?_) | (refine gT ?_; refine retS ?_) | (refine gS ?_; refine skipS ?_) | (apply_assumption (exfalso := false) (symm := false))))
  (refine fin_le (Le.refl _) (rv_one (rv1_cell (by first | exact pv_load (by rfl) (by rfl) (by rfl) (by rfl) | exact pv_loadA (by rfl) (by rfl) (by rfl) (by first | decide | simp)))) (by first | rfl | (simp only [go_sem, Nat.reduceAdd, Nat.reduceMul, reduceIte, Nat.reduceEqDiff, Nat.reduceLeDiff, Int.reduceToNat, Int.reducePow, Int.reduceBEq, Int.reduceBNe, Int.reduceLT, Int.reduceLE, decide_true, decide_false])) ?_)
  rfl
theorem pair_pc : PCall Try.prog 35 [] (fun r => r = pairT.av) := by
  refine pcall_res (r := .agg [.int 2, .nilS, .isl 1 8 [.int 0, .int 1], .isl 4 80 [.agg [.nilS, .isl 1 8 [.int 0], .nilS, .int 1], .agg [.nilS, .isl 1 8 [.int 1], .nilS, .int 1]]]) ?_ ?_
  · (refine enterS Try.func35 Try.ntmps35 ?_)
    (repeat' (first | (refine hK _ ?_; clear hK K) | (refine aw_seq (fun K hK => ?_)) | (refine gR ?_; refine regS ?_) | (refine gE ?_; (first | (refine exN ?_) | (refine exS (fun _ => ?_)))) | (refine gQ ?_; (first | (refine condT ?_) | (refine condF ?_) | (refine condS (fun hc => ?_) (fun hc => ?_) <;> (try (first | contradiction | (exfalso; omega)))))) | (refine gW ?_; refine wopsS ?_) | (refine aw_block ?_) | (refine gX ?_; refine exitS ?_) | (refine gT ?_; refine retS ?_) | (refine gS ?_; refine skipS ?_) | (apply_assumption (exfalso := false) (symm := false))))
    (refine fin_le (Le.refl _) (rv_one (rv1_cell (by first | exact pv_load (by rfl) (by rfl) (by rfl) (by rfl) | exact pv_loadA (by rfl) (by rfl) (by rfl) (by first | decide | simp)))) (by first | rfl | (simp only [go_sem, Nat.reduceAdd, Nat.reduceMul, reduceIte, Nat.reduceEqDiff, Nat.reduceLeDiff, Int.reduceToNat, Int.reducePow, Int.reduceBEq, Int.reduceBNe, Int.reduceLT, Int.reduceLE, decide_true, decide_false])) ?_)
    rfl
  · exact .agg ⟨ALe.rfl' _, ALe.nil 1 8, ALe.rfl' _, ALe.isl rfl (by simp [AV.cells]) ⟨ALe.nil 1 8, ALe.rfl' _, ALe.nil 1 8, ALe.rfl' _, ALe.nil 1 8, ALe.rfl' _, ALe.nil 1 8, ALe.rfl' _, trivial⟩, trivial⟩
theorem px_fault : taskFault pairT = (0, 0) := by decide +kernel
theorem sx_fault : taskFault stepsT = (0, 0) := by decide +kernel
theorem px_p10 : PermP 2 [1, 0] := by unfold PermP; decide
theorem px_p01 : PermP 2 [0, 1] := by unfold PermP; decide
theorem sx_p : PermP 3 [1, 0, 2] := by unfold PermP; decide
theorem imgC {n : Nat} {perm s u : List Int} (hp : PermP n perm) (hs : isSet s n = true) (h : imgR perm s n = u) : imgF perm s = u := by rw [← imgR_eq hp hs, h]
theorem px_i0 : imgF [1, 0] [] = [] := imgC px_p10 (by decide +kernel) (by decide +kernel)
theorem px_i1 : imgF [1, 0] [0] = [1] := imgC px_p10 (by decide +kernel) (by decide +kernel)
theorem px_i2 : imgF [1, 0] [1] = [0] := imgC px_p10 (by decide +kernel) (by decide +kernel)
theorem px_i3 : imgF [1, 0] [0, 1] = [0, 1] := imgC px_p10 (by decide +kernel) (by decide +kernel)
theorem px_i4 : imgF [0, 1] [1] = [1] := imgC px_p01 (by decide +kernel) (by decide +kernel)
theorem sx_i1 : imgF [1, 0, 2] [0] = [1] := imgC sx_p (by decide +kernel) (by decide +kernel)
theorem sx_i2 : imgF [1, 0, 2] [1] = [0] := imgC sx_p (by decide +kernel) (by decide +kernel)
theorem sx_i3 : imgF [1, 0, 2] [2] = [2] := imgC sx_p (by decide +kernel) (by decide +kernel)
theorem px_ext : extG pairT [1, 0] = some [1, 0] := by
  simp [extG, grd, fndI, okG, pairT, imgOp, px_i0, px_i1, px_i2, px_i3]
theorem sx_ext : extG stepsT [1, 0, 2] = none := by
  simp [extG, grd, fndI, okG, stepsT, imgOp, sx_i1, sx_i2, sx_i3]
theorem px_perm : isPermB pairT.facts [1, 0] = true := (isPermB_iff (n := 2)).2 px_p10
theorem px_no : isPermB pairT.facts [1] = false := by
  rw [Bool.eq_false_iff]
  intro h
  have := ((isPermB_iff (n := 2)).1 h).len
  simp at this
theorem sx_perm : isPermB stepsT.facts [1, 0, 2] = true := (isPermB_iff (n := 3)).2 sx_p
theorem px_wf : WfT pairT := taskFault_ok.1 px_fault
theorem px_sym : symL pairT = [[0, 1], [1, 0]] := by
  have h0 : symB pairT [0, 1] = true := (extG_iff (t := pairT) px_p01).2 (SymP.id px_wf)
  have h1 : symB pairT [1, 0] = true := by unfold symB; rw [px_ext]; rfl
  unfold symL
  rw [show permsF pairT.facts.toNat pairT.facts.toNat [] = [[0, 1], [1, 0]] by decide +kernel, List.filter_cons_of_pos h0, List.filter_cons_of_pos h1]
  rfl
theorem px_can : canonF pairT [1] = [0] := by
  unfold canonF
  rw [px_sym]
  simp [canK, canS, px_i4, px_i2, lessB]
theorem px_st : stFault pairT [1] = (0, 0) := by decide +kernel
theorem m_ext : PCall Try.prog 12 [pairT.av, ints [1, 0]] (fun r => r = .tup [ints [1, 0], .bool true, fault 0 0]) := (extend_ok pairT [1, 0] px_fault px_perm).mono fun r hr => by rw [hr, px_ext]; rfl
theorem m_ext2 : PCall Try.prog 12 [stepsT.av, ints [1, 0, 2]] (fun r => r = .tup [.nilS, .bool false, fault 0 0]) := (extend_ok stepsT [1, 0, 2] sx_fault sx_perm).mono fun r hr => by rw [hr, sx_ext]; rfl
theorem m_ext3 : PCall Try.prog 12 [pairT.av, ints [1]] (fun r => r = .tup [.nilS, .bool false, fault 5 (-8)]) := extend_no pairT [1] px_fault px_no
theorem m_all : PCall Try.prog 16 [pairT.av] (fun r => r = .tup [rows [[0, 1], [1, 0]], fault 0 0]) := (all_ok pairT px_fault (by decide)).mono fun r hr => by rw [hr, px_sym]
theorem m_can : PCall Try.prog 17 [pairT.av, ints [1]] (fun r => r = .tup [ints [0], fault 0 0]) := (can_ok pairT [1] px_st (by decide)).mono fun r hr => by rw [hr, px_can]
theorem m_i1 : PCall Try.prog 14 [ints [1, 0], ints [1, 0]] (fun r => r = .bool true) := (ints_pc _ _).mono fun r hr => by rw [hr]; rfl
theorem m_i2 : PCall Try.prog 14 [ints [0], ints [0]] (fun r => r = .bool true) := (ints_pc _ _).mono fun r hr => by rw [hr]; rfl
theorem m_lists : PCall Try.prog 19 [rows [[0, 1], [1, 0]], rows [[0, 1], [1, 0]]] (fun r => r = .bool true) := (lists_pc _ _).mono fun r hr => by rw [hr]; rfl
@[local go_sem] theorem cast_0X : ((0 : Nat) : Int) = 0 := rfl
@[local go_sem] theorem cast_1X : ((1 : Nat) : Int) = 1 := rfl
@[local go_sem] theorem cast_2X : ((2 : Nat) : Int) = 2 := rfl











theorem mirrors_pc : PCall Try.prog 13 [] (fun r => r = .bool true) := by
  (refine enterS Try.func13 Try.ntmps13 ?_)
  
  (repeat' (first | (refine hK _ ?_; clear hK K) | (refine aw_seq (fun K hK => ?_)) | (refine gR ?_; refine regS ?_) | (refine gD 6 ?_; refine drE (s1 := ?_) (.it 0 0 (.it 1 0 (.it 2 0 (.it 3 0 (.it 4 0 (.it 5 0 (.it 6 0 (.it 7 0 (.it 8 0 (.it 9 0 (.it 10 0 (.it 11 0 (.it 12 0 (.it 13 0 (.it 14 0 (.it 15 0 (.it 16 0 (.it 17 0 (.it 18 0 (.it 19 0 (.it 20 0 (.it 21 0 (.it 22 0 (.it 23 0 (.it 24 0 (.it 25 0 (.it 26 0 (.it 27 2 (.it 28 2 (.it 29 0 (.it 30 0 (.it 31 0 (.fk 32 33 (.it 33 2 (.it 34 2 (.it 35 2 (.it 36 0 (.it 37 0 (.it 38 0 (.it 39 2 (.it 40 2 (.it 41 0 (.it 42 0 (.it 43 0 (.it 44 2 (.it 45 0 (.it 46 0 (.it 47 0 .nil))))))))))))))) (.it 32 2 (.it 34 2 (.it 35 2 (.it 36 0 (.it 37 0 (.it 38 0 (.it 39 2 (.it 40 2 (.it 41 0 (.it 42 0 (.it 43 0 (.it 44 2 (.it 45 0 (.it 46 0 (.it 47 0 .nil)))))))))))))))))))))))))))))))))))))))))))))))) [0, 1, 2, 3, 4, 5, 6, 7, 8, 9, 10, 11, 12, 13, 14, 15, 16, 17, 18, 19, 20, 21, 22, 23, 24, 25, 26, 27, 28, 29, 30, 31, 32, 33, 34, 35, 36, 37, 38, 39, 40, 41, 42, 43, 44, 45, 46, 47] ?_ ?_; rotate_left) | (refine gC 35 ?_; refine callS (pair_pc) ?_) | (refine gC 12 ?_; refine callS (m_ext) ?_) | (refine gC 12 ?_; refine callS (m_ext2) ?_) | (refine gC 12 ?_; refine callS (m_ext3) ?_) | (refine gC 16 ?_; refine callS (m_all) ?_) | (refine gC 17 ?_; refine callS (m_can) ?_) | (refine gC 36 ?_; refine callS (steps_pc) ?_) | (refine gCd 14 ?_; refine callD (m_i2) ?_) | (refine gCd 19 ?_; refine callD (m_lists) ?_) | (refine gCd 10 ?_; refine callD (at_pc _ _) ?_) | (refine adx_op (fun K hK => ?_); (first | (refine aopx_pv (pv_fieldAddrF (by rfl) (by rfl) (by first | decide | (simp; done) | (simp; omega))) ?_) | (refine aopx_pv (pv_fieldAddrIF (by rfl) (by rfl) (by first | decide | (simp; done) | (simp; omega))) ?_) | (refine aopx_pv (pv_eql (by rfl) (by rfl)) ?_) | (refine aopx_pv (pv_eqlB (by rfl) (by rfl)) ?_) | (refine aopx_pv (pv_eqlA (by rfl) (by rfl) (by kernel_rfl)) ?_) | (refine aopx_buildSlice (d := 73) (by exact ⟨by decide, by decide, by decide⟩) (by rfl) (by rfl) (by rfl) (by rfl) ?_) | (refine aopx_buildSlice (d := 78) (by exact ⟨by decide, by decide, by decide⟩) (by rfl) (by rfl) (by rfl) (by rfl) ?_) | (refine aopx_buildSlice (d := 79) (by exact ⟨by decide, by decide, by decide⟩) (by rfl) (by rfl) (by rfl) (by rfl) ?_) | (refine aopx_buildSlice (d := 80) (by exact ⟨by decide, by decide, by decide⟩) (by rfl) (by rfl) (by rfl) (by rfl) ?_) | (refine aopx_buildSlice (d := 85) (by exact ⟨by decide, by decide, by decide⟩) (by rfl) (by rfl) (by rfl) (by rfl) ?_))) | (refine And.intro ?_ ?_) | (refine gL ?_; (first | exact Le.refl _ | exact weakS)) | (refine gE ?_; (first | (refine exN ?_) | (refine exS (fun _ => ?_)))) | (refine gGd ?_; refine guardD (fun hc => ?_) (fun hc => ?_) <;> (try (first | contradiction | (exfalso; omega)))) | (refine gQ ?_; (first | (refine condT ?_) | (refine condF ?_) | (refine condS (fun hc => ?_) (fun hc => ?_) <;> (try (first | contradiction | (exfalso; omega)))))) | (refine gWd ?_; refine wdrS ?_) | (refine gW ?_; refine wopsS ?_) | (refine aw_block ?_) | (refine gX ?_; refine exitS ?_) | (refine gT ?_; refine retS ?_) | (refine gS ?_; refine skipS ?_) | (apply_assumption (exfalso := false) (symm := false))))
  
  
  refine adx_callP m_i1 rfl ?_
  refine adr_it0 rfl rfl ?_
  refine adr_it0 rfl rfl ?_
  refine adr_it0g rfl rfl rfl rfl ?_
  refine adr_fkg rfl rfl rfl rfl rfl rfl ?_ ?_
  · simp only [go_sem, Nat.reduceAdd, Nat.reduceMul, reduceIte, Nat.reduceEqDiff, Nat.reduceLeDiff, Int.reduceToNat, Int.reducePow, Int.reduceBEq, Int.reduceBNe, Int.reduceLT, Int.reduceLE, decide_true, decide_false, Nat.reduceBEq, Bool.or_self, Bool.or_true, Bool.true_or, Bool.or_false, Bool.false_or, Bool.and_true, Bool.true_and, Bool.and_false, Bool.false_and, Bool.and_self, Bool.not_true, Bool.not_false, List.cons_append, List.nil_append, List.append_nil, if_true, if_false, Bool.false_eq_true, keysH]
    (repeat' (first | (refine hK _ ?_; clear hK K) | (refine aw_seq (fun K hK => ?_)) | (refine gR ?_; refine regS ?_) | (refine gD 6 ?_; refine drE (s1 := ?_) (.it 0 0 (.it 1 0 (.it 2 0 (.it 3 0 (.it 4 0 (.it 5 0 (.it 6 0 (.it 7 0 (.it 8 0 (.it 9 0 (.it 10 0 (.it 11 0 (.it 12 0 (.it 13 0 (.it 14 0 (.it 15 0 (.it 16 0 (.it 17 0 (.it 18 0 (.it 19 0 (.it 20 0 (.it 21 0 (.it 22 0 (.it 23 0 (.it 24 0 (.it 25 0 (.it 26 0 (.it 27 2 (.it 28 2 (.it 29 0 (.it 30 0 (.it 31 0 (.fk 32 33 (.it 33 2 (.it 34 2 (.it 35 2 (.it 36 0 (.it 37 0 (.it 38 0 (.it 39 2 (.it 40 2 (.it 41 0 (.it 42 0 (.it 43 0 (.it 44 2 (.it 45 0 (.it 46 0 (.it 47 0 .nil))))))))))))))) (.it 32 2 (.it 34 2 (.it 35 2 (.it 36 0 (.it 37 0 (.it 38 0 (.it 39 2 (.it 40 2 (.it 41 0 (.it 42 0 (.it 43 0 (.it 44 2 (.it 45 0 (.it 46 0 (.it 47 0 .nil)))))))))))))))))))))))))))))))))))))))))))))))) [0, 1, 2, 3, 4, 5, 6, 7, 8, 9, 10, 11, 12, 13, 14, 15, 16, 17, 18, 19, 20, 21, 22, 23, 24, 25, 26, 27, 28, 29, 30, 31, 32, 33, 34, 35, 36, 37, 38, 39, 40, 41, 42, 43, 44, 45, 46, 47] ?_ ?_; rotate_left) | (refine gC 35 ?_; refine callS (pair_pc) ?_) | (refine gC 12 ?_; refine callS (m_ext) ?_) | (refine gC 12 ?_; refine callS (m_ext2) ?_) | (refine gC 12 ?_; refine callS (m_ext3) ?_) | (refine gC 16 ?_; refine callS (m_all) ?_) | (refine gC 17 ?_; refine callS (m_can) ?_) | (refine gC 36 ?_; refine callS (steps_pc) ?_) | (refine gCd 14 ?_; refine callD (m_i2) ?_) | (refine gCd 14 ?_; refine callD (m_i1) ?_) | (refine gCd 19 ?_; refine callD (m_lists) ?_) | (refine gCd 10 ?_; refine callD (at_pc _ _) ?_) | (refine adx_op (fun K hK => ?_); (first | (refine aopx_pv (pv_fieldAddrF (by rfl) (by rfl) (by first | decide | (simp; done) | (simp; omega))) ?_) | (refine aopx_pv (pv_fieldAddrIF (by rfl) (by rfl) (by first | decide | (simp; done) | (simp; omega))) ?_) | (refine aopx_pv (pv_eql (by rfl) (by rfl)) ?_) | (refine aopx_pv (pv_eqlB (by rfl) (by rfl)) ?_) | (refine aopx_pv (pv_eqlA (by rfl) (by rfl) (by kernel_rfl)) ?_) | (refine aopx_buildSlice (d := 73) (by exact ⟨by decide, by decide, by decide⟩) (by rfl) (by rfl) (by rfl) (by rfl) ?_) | (refine aopx_buildSlice (d := 78) (by exact ⟨by decide, by decide, by decide⟩) (by rfl) (by rfl) (by rfl) (by rfl) ?_) | (refine aopx_buildSlice (d := 79) (by exact ⟨by decide, by decide, by decide⟩) (by rfl) (by rfl) (by rfl) (by rfl) ?_) | (refine aopx_buildSlice (d := 80) (by exact ⟨by decide, by decide, by decide⟩) (by rfl) (by rfl) (by rfl) (by rfl) ?_) | (refine aopx_buildSlice (d := 85) (by exact ⟨by decide, by decide, by decide⟩) (by rfl) (by rfl) (by rfl) (by rfl) ?_))) | (refine And.intro ?_ ?_) | (refine gDx ?_; refine adxS ?_) | (refine gL ?_; (first | exact Le.refl _ | exact weakS)) | (refine gE ?_; (first | (refine exN ?_) | (refine exS (fun _ => ?_)))) | (refine gGd ?_; refine guardD (fun hc => ?_) (fun hc => ?_) <;> (try (first | contradiction | (exfalso; omega)))) | (refine gQ ?_; (first | (refine condT ?_) | (refine condF ?_) | (refine condS (fun hc => ?_) (fun hc => ?_) <;> (try (first | contradiction | (exfalso; omega)))))) | (refine gWd ?_; refine wdrS ?_) | (refine gW ?_; refine wopsS ?_) | (refine aw_block ?_) | (refine gX ?_; refine exitS ?_) | (refine gT ?_; refine retS ?_) | (refine gS ?_; refine skipS ?_) | (apply_assumption (exfalso := false) (symm := false))))
  · simp only [go_sem, Nat.reduceAdd, Nat.reduceMul, reduceIte, Nat.reduceEqDiff, Nat.reduceLeDiff, Int.reduceToNat, Int.reducePow, Int.reduceBEq, Int.reduceBNe, Int.reduceLT, Int.reduceLE, decide_true, decide_false, Nat.reduceBEq, Bool.or_self, Bool.or_true, Bool.true_or, Bool.or_false, Bool.false_or, Bool.and_true, Bool.true_and, Bool.and_false, Bool.false_and, Bool.and_self, Bool.not_true, Bool.not_false, List.cons_append, List.nil_append, List.append_nil, if_true, if_false, Bool.false_eq_true, keysH]
    (repeat' (first | (refine hK _ ?_; clear hK K) | (refine aw_seq (fun K hK => ?_)) | (refine gR ?_; refine regS ?_) | (refine gD 6 ?_; refine drE (s1 := ?_) (.it 0 0 (.it 1 0 (.it 2 0 (.it 3 0 (.it 4 0 (.it 5 0 (.it 6 0 (.it 7 0 (.it 8 0 (.it 9 0 (.it 10 0 (.it 11 0 (.it 12 0 (.it 13 0 (.it 14 0 (.it 15 0 (.it 16 0 (.it 17 0 (.it 18 0 (.it 19 0 (.it 20 0 (.it 21 0 (.it 22 0 (.it 23 0 (.it 24 0 (.it 25 0 (.it 26 0 (.it 27 2 (.it 28 2 (.it 29 0 (.it 30 0 (.it 31 0 (.fk 32 33 (.it 33 2 (.it 34 2 (.it 35 2 (.it 36 0 (.it 37 0 (.it 38 0 (.it 39 2 (.it 40 2 (.it 41 0 (.it 42 0 (.it 43 0 (.it 44 2 (.it 45 0 (.it 46 0 (.it 47 0 .nil))))))))))))))) (.it 32 2 (.it 34 2 (.it 35 2 (.it 36 0 (.it 37 0 (.it 38 0 (.it 39 2 (.it 40 2 (.it 41 0 (.it 42 0 (.it 43 0 (.it 44 2 (.it 45 0 (.it 46 0 (.it 47 0 .nil)))))))))))))))))))))))))))))))))))))))))))))))) [0, 1, 2, 3, 4, 5, 6, 7, 8, 9, 10, 11, 12, 13, 14, 15, 16, 17, 18, 19, 20, 21, 22, 23, 24, 25, 26, 27, 28, 29, 30, 31, 32, 33, 34, 35, 36, 37, 38, 39, 40, 41, 42, 43, 44, 45, 46, 47] ?_ ?_; rotate_left) | (refine gC 35 ?_; refine callS (pair_pc) ?_) | (refine gC 12 ?_; refine callS (m_ext) ?_) | (refine gC 12 ?_; refine callS (m_ext2) ?_) | (refine gC 12 ?_; refine callS (m_ext3) ?_) | (refine gC 16 ?_; refine callS (m_all) ?_) | (refine gC 17 ?_; refine callS (m_can) ?_) | (refine gC 36 ?_; refine callS (steps_pc) ?_) | (refine gCd 14 ?_; refine callD (m_i2) ?_) | (refine gCd 14 ?_; refine callD (m_i1) ?_) | (refine gCd 19 ?_; refine callD (m_lists) ?_) | (refine gCd 10 ?_; refine callD (at_pc _ _) ?_) | (refine adx_op (fun K hK => ?_); (first | (refine aopx_pv (pv_fieldAddrF (by rfl) (by rfl) (by first | decide | (simp; done) | (simp; omega))) ?_) | (refine aopx_pv (pv_fieldAddrIF (by rfl) (by rfl) (by first | decide | (simp; done) | (simp; omega))) ?_) | (refine aopx_pv (pv_eql (by rfl) (by rfl)) ?_) | (refine aopx_pv (pv_eqlB (by rfl) (by rfl)) ?_) | (refine aopx_pv (pv_eqlA (by rfl) (by rfl) (by kernel_rfl)) ?_) | (refine aopx_buildSlice (d := 73) (by exact ⟨by decide, by decide, by decide⟩) (by rfl) (by rfl) (by rfl) (by rfl) ?_) | (refine aopx_buildSlice (d := 78) (by exact ⟨by decide, by decide, by decide⟩) (by rfl) (by rfl) (by rfl) (by rfl) ?_) | (refine aopx_buildSlice (d := 79) (by exact ⟨by decide, by decide, by decide⟩) (by rfl) (by rfl) (by rfl) (by rfl) ?_) | (refine aopx_buildSlice (d := 80) (by exact ⟨by decide, by decide, by decide⟩) (by rfl) (by rfl) (by rfl) (by rfl) ?_) | (refine aopx_buildSlice (d := 85) (by exact ⟨by decide, by decide, by decide⟩) (by rfl) (by rfl) (by rfl) (by rfl) ?_))) | (refine And.intro ?_ ?_) | (refine gDx ?_; refine adxS ?_) | (refine gL ?_; (first | exact Le.refl _ | exact weakS)) | (refine gE ?_; (first | (refine exN ?_) | (refine exS (fun _ => ?_)))) | (refine gGd ?_; refine guardD (fun hc => ?_) (fun hc => ?_) <;> (try (first | contradiction | (exfalso; omega)))) | (refine gQ ?_; (first | (refine condT ?_) | (refine condF ?_) | (refine condS (fun hc => ?_) (fun hc => ?_) <;> (try (first | contradiction | (exfalso; omega)))))) | (refine gWd ?_; refine wdrS ?_) | (refine gW ?_; refine wopsS ?_) | (refine aw_block ?_) | (refine gX ?_; refine exitS ?_) | (refine gT ?_; refine retS ?_) | (refine gS ?_; refine skipS ?_) | (apply_assumption (exfalso := false) (symm := false))))
  (refine fin_le (Le.refl _) (rv_one (rv1_tmp (by rfl))) (by first | rfl | (simp only [go_sem, Nat.reduceAdd, Nat.reduceMul, reduceIte, Nat.reduceEqDiff, Nat.reduceLeDiff, Int.reduceToNat, Int.reducePow, Int.reduceBEq, Int.reduceBNe, Int.reduceLT, Int.reduceLE, decide_true, decide_false])) ?_)
  rfl





end Go.Proofs.Ytbeceabheahpnaa
