import Derived.Test.YtpnpnbbanfgpgaaMuq



namespace Go.Proofs.Ytpnpnbbanfgpgaa
open Go.Ab
open Go
set_option linter.unusedSimpArgs false
set_option linter.unusedVariables false
set_option maxRecDepth 10000
attribute [local irreducible] PV AOp AOps AW PCall OCall MCall WCall HCall Ab.Fin OFin OFin2 MFin HFin RV RV1 Le AStk AGrd ADr ADx ADo AOpX AAny
set_option maxHeartbeats 4000000
attribute [local go_sem] purge_appV cells_intsV cast_0 sealDL_app
/-! two guarded operations that may come in either order -/
section
variable {P : Program}
theorem aany_twoXY {ops : Array Oper} {hs : List Nat} {f : Nat} {listed : Array Bool} {s : St} {K : St → Prop} {d d' : Option Tmp} {op op' : Go.Op} {ty ty' : TypeId} {pos pos' : String} {aft aft' : Array Edge} {j t j' t' : Nat} {b b' : Bool} (i i' : Nat) (hi : ops[i]? = some ⟨d, op, ty, pos, aft, some (j, b)⟩) (hi' : ops[i']? = some ⟨d', op', ty', pos', aft', some (j', b')⟩) (hr : Region.ready .any ops listed = [i, i'])
    (ht : (ops[j]?).bind (·.dst) = some t) (hc : s.fr[t]? = some (.bool b)) (ht' : (ops[j']?).bind (·.dst) = some t') (hc' : s.fr[t']? = some (.bool b'))
    (h : ∀ K' : St → Prop, (∀ s', AAny P ops hs f (listed.setIfInBounds i true) s' K → K' s') → AOpX P ⟨d, op, ty, pos, aft, some (j, b)⟩ s K')
    (h' : ∀ K' : St → Prop, (∀ s', AAny P ops hs f (listed.setIfInBounds i' true) s' K → K' s') → AOpX P ⟨d', op', ty', pos', aft', some (j', b')⟩ s K') : AAny P ops hs (f + 1) listed s K := by
  unfold AAny
  intro R β G a w hrep hcl
  have g1 := guard_known hrep ht hc
  have g2 := guard_known hrep ht' hc'
  refine ⟨fun h => (by rw [hr] at h; cases h), fun k hk => ?_⟩
  have hmem := hk
  rw [hr] at hk
  simp only [List.mem_cons, List.not_mem_nil, or_false] at hk
  unfold wpOp
  unfold AOpX at h h'
  rcases hk with rfl | rfl
  · simp only [hi]
    rw [if_pos (by simp [Region.wanted, g1])]
    exact .inl (Oper.wp_mono (fun a' w' ⟨hx, β', G', s', hs', hr'⟩ => ⟨fun _ => hx, (by unfold AAny at hs'; exact hs' R β' G' a' w' hr' (hcl.set hmem))⟩) (h _ (fun _ h => h) R β G a w _ hrep))
  · simp only [hi']
    rw [if_pos (by simp [Region.wanted, g2])]
    exact .inl (Oper.wp_mono (fun a' w' ⟨hx, β', G', s', hs', hr'⟩ => ⟨fun _ => hx, (by unfold AAny at hs'; exact hs' R β' G' a' w' hr' (hcl.set hmem))⟩) (h' _ (fun _ h => h) R β G a w _ hrep))
theorem adr_fkg {ops : Array Oper} {hs : List Nat} {s : St} {K : St → Prop} {d d' : Option Tmp} {op op' : Go.Op} {ty ty' : TypeId} {pos pos' : String} {aft aft' : Array Edge} {j t j' t' : Nat} {b b' : Bool} {x y : Sc} {i i' : Nat} (hi : ops[i]? = some ⟨d, op, ty, pos, aft, some (j, b)⟩) (hi' : ops[i']? = some ⟨d', op', ty', pos', aft', some (j', b')⟩)
    (ht : (ops[j]?).bind (·.dst) = some t) (hc : s.fr[t]? = some (.bool b)) (ht' : (ops[j']?).bind (·.dst) = some t') (hc' : s.fr[t']? = some (.bool b'))
    (h : ADx P ops hs ⟨d, op, ty, pos, aft, none⟩ x s K) (h' : ADx P ops hs ⟨d', op', ty', pos', aft', none⟩ y s K) : ADr P ops hs (.fk i i' x y) s K := by
  unfold ADr
  unfold ADx ADr at h h'
  intro l f hok
  cases f with
  | zero => simp [schedOk] at hok
  | succ f =>
    simp only [schedOk, nxt_eq, Bool.and_eq_true, beq_iff_eq] at hok
    obtain ⟨⟨hr, ha⟩, hb⟩ := hok
    refine aany_twoXY i i' hi hi' hr ht hc ht' hc' (fun K' hK' => ?_) (fun K' hK' => ?_)
    · have := h K' (fun s' hs' => hK' _ (hs' _ _ ha))
      unfold AOpX at this ⊢
      exact this
    · have := h' K' (fun s' hs' => hK' _ (hs' _ _ hb))
      unfold AOpX at this ⊢
      exact this
theorem adr_it0 {tab : Nat → Option TI} [hT : Tb P tab] {ops : Array Oper} {hs : List Nat} {s : St} {K : St → Prop} {d : Option Tmp} {op : Go.Op} {ty : TypeId} {pos : String} {aft : Array Edge} {i : Nat} {r : Sc} {x : AV} (hi : ops[i]? = some ⟨d, op, ty, pos, aft, none⟩) (e : pvo tab op s = .ok x) (h : ADr P ops hs r (s.put d x) K) : ADr P ops hs (.it i 0 r) s K := by
  have hx := pvo_ok (P := P) (tab := tab) op s
  rw [e] at hx
  unfold ADr at h ⊢
  intro l f hok
  cases f with
  | zero => simp [schedOk] at hok
  | succ f =>
    simp only [schedOk, nxt_eq, Bool.and_eq_true] at hok
    obtain ⟨hm, hr⟩ := hok
    exact aany_pv i hi hm hx (fun K' hK' => hK' _ (h _ _ hr))
theorem adr_it0g {tab : Nat → Option TI} [hT : Tb P tab] {ops : Array Oper} {hs : List Nat} {s : St} {K : St → Prop} {d : Option Tmp} {op : Go.Op} {ty : TypeId} {pos : String} {aft : Array Edge} {i j t : Nat} {b : Bool} {r : Sc} {x : AV} (hi : ops[i]? = some ⟨d, op, ty, pos, aft, some (j, b)⟩) (ht : (ops[j]?).bind (·.dst) = some t) (hc : s.fr[t]? = some (.bool b)) (e : pvo tab op s = .ok x) (h : ADr P ops hs r (s.put d x) K) : ADr P ops hs (.it i 0 r) s K := by
  have hx := pvo_ok (P := P) (tab := tab) op s
  rw [e] at hx
  unfold ADr at h ⊢
  intro l f hok
  cases f with
  | zero => simp [schedOk] at hok
  | succ f =>
    simp only [schedOk, nxt_eq, Bool.and_eq_true] at hok
    obtain ⟨hm, hr⟩ := hok
    exact aany_pvY i hi hm ht hc hx (fun K' hK' => hK' _ (h _ _ hr))
theorem adx_callP {ops : Array Oper} {hs : List Nat} {s : St} {K : St → Prop} {d : Option Tmp} {f : FuncId} {args : Array Operand} {tys : Array TypeId} {ty : TypeId} {pos : String} {aft : Array Edge} {g : Option (Nat × Bool)} {r : Sc} {y : AV} [hc : TyC P f] (h : PCall P f (evalL s args) (fun x => x = y)) (hp : AV.purL (evalL s args) = true) (hk : ADr P ops hs r (s.put d y) K) : ADx P ops hs ⟨d, .call { callee := .value (.func f), args, argTypes := tys }, ty, pos, aft, g⟩ r s K := by
  unfold ADx
  intro K' hK'
  exact aopx_call h hp fun x hx => by subst hx; exact hK' _ hk
end
/-! the closed example -/
def stepsE : Task := ⟨3, [0], [2], [⟨[0], [1], [0], 2⟩, ⟨[1], [2], [1], 3⟩]⟩
theorem stepsE_pc : PCall Try.prog 26 [] (fun r => r = stepsE.av) := by
  (refine enterS Try.func26 Try.ntmps26 ?_)
  (repeat' (first | (refine hK _ ?_; clear hK K) | (refine aw_seq (fun K hK => ?_)) | (refine gR ?_; refine regS ?_) | (refine gE ?_; (first | (refine exN ?_) | (refine exS (fun _ => ?_)))) | (refine gQ ?_; (first | (refine condT ?_) | (refine condF ?_) | (refine condS (fun hc => ?_) (fun hc => ?_) <;> (try (first | contradiction | (exfalso; omega)))))) | (refine gW ?_; refine wopsS ?_) | (refine aw_block ?_) | (refine gX ?_; refine exitS ?_) | (refine gT ?_; refine retS ?_) | (refine gS ?_; refine skipS ?_) | (apply_assumption (exfalso := false) (symm := false))))
  (refine fin_le (Le.refl _) (rv_one (rv1_cell (by first | exact pv_load (by rfl) (by rfl) (by rfl) (by rfl) | exact pv_loadA (by rfl) (by rfl) (by rfl) (by first | decide | simp)))) (by first | rfl | (simp only [go_sem, Nat.reduceAdd, Nat.reduceMul, reduceIte, Nat.reduceEqDiff, Nat.reduceLeDiff, Int.reduceToNat, Int.reducePow, Int.reduceBEq, Int.reduceBNe, Int.reduceLT, Int.reduceLE, decide_true, decide_false])) ?_)
  rfl
def wantM : MTask := ⟨[3, 2], [0, 1], [(1, 0)], [⟨[(0, 0)], [(0, 1)], 2⟩, ⟨[(0, 1)], [(0, 2), (1, 0)], 3⟩]⟩
theorem gfStepsE : groupsFault stepsE [[0, 1]] = (0, 0) := by decide +kernel
theorem covStepsE : coverT stepsE.facts.toNat [[0, 1]] = [[0, 1], [2]] := by decide +kernel
theorem mulStepsE : multiF stepsE [[0, 1], [2]] = (wantM, [0, 1], 0, 0) := by
  rw [mf_ok (by rintro (h | h | ⟨c, hc, h⟩) <;> simp at * ; rcases hc with rfl | rfl <;> simp at h) (by decide +kernel) (by decide +kernel)]
  decide +kernel
theorem staStepsE : stateF stepsE [[0, 1]] [1] = ([1, 1], (0, 0)) := by decide +kernel
theorem gfBadE : groupsFault ⟨1, [], [], []⟩ [[1]] = (5, -8) := by decide +kernel
theorem cE_cover : PCall Try.prog 6 [stepsE.av, rows [[0, 1]]] (fun r => r = .tup [rows [[0, 1], [2]], fault 0 0]) := (cover_ok stepsE [[0, 1]] gfStepsE).mono fun r hr => by rw [hr, covStepsE]
theorem cE_bad : PCall Try.prog 6 [.agg [.int 1, .nilS, .nilS, .nilS], rows [[1]]] (fun r => r = .tup [rows [], fault 5 (-8)]) :=
  pcall_le ((cover_no ⟨1, [], [], []⟩ [[1]] (by rw [gfBadE]; simp)).mono fun r hr => by rw [hr, gfBadE]) ⟨ALe.agg ⟨ALe.rfl' _, ALe.nil 1 8, ALe.nil 1 8, ALe.nil 4 80, trivial⟩, ALe.rfl' _, trivial⟩
theorem cE_multi : PCall Try.prog 11 [stepsE.av, rows [[0, 1]]] (fun r => r = .tup [wantM.av, ints [0, 1], fault 0 0]) := (multi_ok stepsE [[0, 1]] gfStepsE).mono fun r hr => by rw [hr, covStepsE, mulStepsE]
theorem cE_state : PCall Try.prog 19 [stepsE.av, rows [[0, 1]], ints [1]] (fun r => r = .tup [ints [1, 1], fault 0 0]) := (state_pc stepsE [[0, 1]] [1]).mono fun r hr => by rw [hr, staStepsE]
theorem cE_lists : PCall Try.prog 28 [rows [[0, 1], [2]], rows [[0, 1], [2]]] (fun r => r = .bool true) := (lists_pc _ _).mono fun r hr => by rw [hr]; rfl
theorem cE_same : PCall Try.prog 29 [wantM.av, wantM.av] (fun r => r = .bool true) := (sameMulti_pc _ _).mono fun r hr => by rw [hr]; rfl
theorem cE_i1 : PCall Try.prog 23 [ints [0, 1], ints [0, 1]] (fun r => r = .bool true) := (ints_pc _ _).mono fun r hr => by rw [hr]; rfl
theorem cE_i2 : PCall Try.prog 23 [ints [1, 1], ints [1, 1]] (fun r => r = .bool true) := (ints_pc _ _).mono fun r hr => by rw [hr]; rfl












theorem encodes_pc : PCall Try.prog 7 [] (fun r => r = .bool true) := by
  (refine enterS Try.func7 Try.ntmps7 ?_)
  
  (repeat' (first | (refine hK _ ?_; clear hK K) | (refine aw_seq (fun K hK => ?_)) | (refine gR ?_; refine regS ?_) | (refine gD 6 ?_; refine drE (s1 := ?_) (.it 0 0 (.it 1 0 (.it 2 0 (.it 3 0 (.it 4 0 (.it 5 0 (.it 6 0 (.it 7 0 (.it 8 0 (.it 9 0 (.it 10 0 (.it 11 0 (.it 12 0 (.it 13 0 (.it 14 0 (.it 15 2 (.it 16 0 (.it 17 0 (.it 18 0 (.it 19 0 (.fk 20 21 (.it 21 2 (.it 22 2 (.it 23 2 (.it 24 0 (.it 25 0 (.it 26 0 (.it 27 0 (.it 28 2 (.it 29 0 (.it 30 0 (.it 31 0 (.it 32 2 (.it 33 2 (.it 34 0 (.it 35 0 (.it 36 0 (.it 37 2 (.it 38 2 (.it 39 0 (.it 40 0 .nil)))))))))))))))))))) (.it 20 2 (.it 22 2 (.it 23 2 (.it 24 0 (.it 25 0 (.it 26 0 (.it 27 0 (.it 28 2 (.it 29 0 (.it 30 0 (.it 31 0 (.it 32 2 (.it 33 2 (.it 34 0 (.it 35 0 (.it 36 0 (.it 37 2 (.it 38 2 (.it 39 0 (.it 40 0 .nil))))))))))))))))))))))))))))))))))))))))) [0, 1, 2, 3, 4, 5, 6, 7, 8, 9, 10, 11, 12, 13, 14, 15, 16, 17, 18, 19, 20, 21, 22, 23, 24, 25, 26, 27, 28, 29, 30, 31, 32, 33, 34, 35, 36, 37, 38, 39, 40] ?_ ?_; rotate_left) | (refine gC 26 ?_; refine callS (stepsE_pc) ?_) | (refine gC 6 ?_; refine callS (cE_bad) ?_) | (refine gC 6 ?_; refine callS (cE_cover) ?_) | (refine gC 11 ?_; refine callS (cE_multi) ?_) | (refine gC 19 ?_; refine callS (cE_state) ?_) | (refine gCd 28 ?_; refine callD (cE_lists) ?_) | (refine gCd 29 ?_; refine callD (cE_same) ?_) | (refine gCd 23 ?_; refine callD (cE_i1) ?_) | (refine gCd 23 ?_; refine callD (cE_i2) ?_) | (refine adx_op (fun K hK => ?_); (first | (refine aopx_pv (pv_fieldAddrF (by rfl) (by rfl) (by first | decide | (simp; done) | (simp; omega))) ?_) | (refine aopx_pv (pv_fieldAddrIF (by rfl) (by rfl) (by first | decide | (simp; done) | (simp; omega))) ?_) | (refine aopx_pv (pv_eql (by rfl) (by rfl)) ?_) | (refine aopx_pv (pv_eqlB (by rfl) (by rfl)) ?_) | (refine aopx_pv (pv_eqlA (by rfl) (by rfl) (by kernel_rfl)) ?_) | (refine aopx_buildSlice (d := 78) (by exact ⟨by decide, by decide, by decide⟩) (by rfl) (by rfl) (by rfl) (by rfl) ?_) | (refine aopx_buildSlice (d := 79) (by exact ⟨by decide, by decide, by decide⟩) (by rfl) (by rfl) (by rfl) (by rfl) ?_) | (refine aopx_buildSlice (d := 80) (by exact ⟨by decide, by decide, by decide⟩) (by rfl) (by rfl) (by rfl) (by rfl) ?_) | (refine aopx_buildSlice (d := 90) (by exact ⟨by decide, by decide, by decide⟩) (by rfl) (by rfl) (by rfl) (by rfl) ?_) | (refine aopx_buildSlice (d := 95) (by exact ⟨by decide, by decide, by decide⟩) (by rfl) (by rfl) (by rfl) (by rfl) ?_))) | (refine And.intro ?_ ?_) | (refine gL ?_; (first | exact Le.refl _ | exact weakS)) | (refine gE ?_; (first | (refine exN ?_) | (refine exS (fun _ => ?_)))) | (refine gGd ?_; refine guardD (fun hc => ?_) (fun hc => ?_) <;> (try (first | contradiction | (exfalso; omega)))) | (refine gQ ?_; (first | (refine condT ?_) | (refine condF ?_) | (refine condS (fun hc => ?_) (fun hc => ?_) <;> (try (first | contradiction | (exfalso; omega)))))) | (refine gWd ?_; refine wdrS ?_) | (refine gW ?_; refine wopsS ?_) | (refine aw_block ?_) | (refine gX ?_; refine exitS ?_) | (refine gT ?_; refine retS ?_) | (refine gS ?_; refine skipS ?_) | (apply_assumption (exfalso := false) (symm := false))))
  
  refine adx_callP (at_pc 5 (-8)) rfl ?_
  refine adr_it0g rfl rfl rfl rfl ?_
  refine adr_it0 rfl rfl ?_
  refine adr_it0 rfl rfl ?_
  refine adr_it0g rfl rfl rfl rfl ?_
  refine adr_fkg rfl rfl rfl rfl rfl rfl ?_ ?_
  · simp only [go_sem, Nat.reduceAdd, Nat.reduceMul, reduceIte, Nat.reduceEqDiff, Nat.reduceLeDiff, Int.reduceToNat, Int.reducePow, Int.reduceBEq, Int.reduceBNe, Int.reduceLT, Int.reduceLE, decide_true, decide_false, Nat.reduceBEq, Bool.or_self, Bool.or_true, Bool.true_or, Bool.or_false, Bool.false_or, Bool.and_true, Bool.true_and, Bool.and_false, Bool.false_and, Bool.and_self, Bool.not_true, Bool.not_false, List.cons_append, List.nil_append, List.append_nil, if_true, if_false, Bool.false_eq_true, keysH]
    (repeat' (first | (refine hK _ ?_; clear hK K) | (refine aw_seq (fun K hK => ?_)) | (refine gR ?_; refine regS ?_) | (refine gD 6 ?_; refine drE (s1 := ?_) (.it 0 0 (.it 1 0 (.it 2 0 (.it 3 0 (.it 4 0 (.it 5 0 (.it 6 0 (.it 7 0 (.it 8 0 (.it 9 0 (.it 10 0 (.it 11 0 (.it 12 0 (.it 13 0 (.it 14 0 (.it 15 2 (.it 16 0 (.it 17 0 (.it 18 0 (.it 19 0 (.fk 20 21 (.it 21 2 (.it 22 2 (.it 23 2 (.it 24 0 (.it 25 0 (.it 26 0 (.it 27 0 (.it 28 2 (.it 29 0 (.it 30 0 (.it 31 0 (.it 32 2 (.it 33 2 (.it 34 0 (.it 35 0 (.it 36 0 (.it 37 2 (.it 38 2 (.it 39 0 (.it 40 0 .nil)))))))))))))))))))) (.it 20 2 (.it 22 2 (.it 23 2 (.it 24 0 (.it 25 0 (.it 26 0 (.it 27 0 (.it 28 2 (.it 29 0 (.it 30 0 (.it 31 0 (.it 32 2 (.it 33 2 (.it 34 0 (.it 35 0 (.it 36 0 (.it 37 2 (.it 38 2 (.it 39 0 (.it 40 0 .nil))))))))))))))))))))))))))))))))))))))))) [0, 1, 2, 3, 4, 5, 6, 7, 8, 9, 10, 11, 12, 13, 14, 15, 16, 17, 18, 19, 20, 21, 22, 23, 24, 25, 26, 27, 28, 29, 30, 31, 32, 33, 34, 35, 36, 37, 38, 39, 40] ?_ ?_; rotate_left) | (refine gC 26 ?_; refine callS (stepsE_pc) ?_) | (refine gC 6 ?_; refine callS (cE_bad) ?_) | (refine gC 6 ?_; refine callS (cE_cover) ?_) | (refine gC 11 ?_; refine callS (cE_multi) ?_) | (refine gC 19 ?_; refine callS (cE_state) ?_) | (refine gCd 28 ?_; refine callD (cE_lists) ?_) | (refine gCd 29 ?_; refine callD (cE_same) ?_) | (refine gCd 23 ?_; refine callD (cE_i1) ?_) | (refine gCd 23 ?_; refine callD (cE_i2) ?_) | (refine adx_op (fun K hK => ?_); (first | (refine aopx_pv (pv_fieldAddrF (by rfl) (by rfl) (by first | decide | (simp; done) | (simp; omega))) ?_) | (refine aopx_pv (pv_fieldAddrIF (by rfl) (by rfl) (by first | decide | (simp; done) | (simp; omega))) ?_) | (refine aopx_pv (pv_eql (by rfl) (by rfl)) ?_) | (refine aopx_pv (pv_eqlB (by rfl) (by rfl)) ?_) | (refine aopx_pv (pv_eqlA (by rfl) (by rfl) (by kernel_rfl)) ?_) | (refine aopx_buildSlice (d := 78) (by exact ⟨by decide, by decide, by decide⟩) (by rfl) (by rfl) (by rfl) (by rfl) ?_) | (refine aopx_buildSlice (d := 79) (by exact ⟨by decide, by decide, by decide⟩) (by rfl) (by rfl) (by rfl) (by rfl) ?_) | (refine aopx_buildSlice (d := 80) (by exact ⟨by decide, by decide, by decide⟩) (by rfl) (by rfl) (by rfl) (by rfl) ?_) | (refine aopx_buildSlice (d := 90) (by exact ⟨by decide, by decide, by decide⟩) (by rfl) (by rfl) (by rfl) (by rfl) ?_) | (refine aopx_buildSlice (d := 95) (by exact ⟨by decide, by decide, by decide⟩) (by rfl) (by rfl) (by rfl) (by rfl) ?_))) | (refine And.intro ?_ ?_) | (refine gDx ?_; refine adxS ?_) | (refine gL ?_; (first | exact Le.refl _ | exact weakS)) | (refine gE ?_; (first | (refine exN ?_) | (refine exS (fun _ => ?_)))) | (refine gGd ?_; refine guardD (fun hc => ?_) (fun hc => ?_) <;> (try (first | contradiction | (exfalso; omega)))) | (refine gQ ?_; (first | (refine condT ?_) | (refine condF ?_) | (refine condS (fun hc => ?_) (fun hc => ?_) <;> (try (first | contradiction | (exfalso; omega)))))) | (refine gWd ?_; refine wdrS ?_) | (refine gW ?_; refine wopsS ?_) | (refine aw_block ?_) | (refine gX ?_; refine exitS ?_) | (refine gT ?_; refine retS ?_) | (refine gS ?_; refine skipS ?_) | (apply_assumption (exfalso := false) (symm := false))))
  · simp only [go_sem, Nat.reduceAdd, Nat.reduceMul, reduceIte, Nat.reduceEqDiff, Nat.reduceLeDiff, Int.reduceToNat, Int.reducePow, Int.reduceBEq, Int.reduceBNe, Int.reduceLT, Int.reduceLE, decide_true, decide_false, Nat.reduceBEq, Bool.or_self, Bool.or_true, Bool.true_or, Bool.or_false, Bool.false_or, Bool.and_true, Bool.true_and, Bool.and_false, Bool.false_and, Bool.and_self, Bool.not_true, Bool.not_false, List.cons_append, List.nil_append, List.append_nil, if_true, if_false, Bool.false_eq_true, keysH]
    (repeat' (first | (refine hK _ ?_; clear hK K) | (refine aw_seq (fun K hK => ?_)) | (refine gR ?_; refine regS ?_) | (refine gD 6 ?_; refine drE (s1 := ?_) (.it 0 0 (.it 1 0 (.it 2 0 (.it 3 0 (.it 4 0 (.it 5 0 (.it 6 0 (.it 7 0 (.it 8 0 (.it 9 0 (.it 10 0 (.it 11 0 (.it 12 0 (.it 13 0 (.it 14 0 (.it 15 2 (.it 16 0 (.it 17 0 (.it 18 0 (.it 19 0 (.fk 20 21 (.it 21 2 (.it 22 2 (.it 23 2 (.it 24 0 (.it 25 0 (.it 26 0 (.it 27 0 (.it 28 2 (.it 29 0 (.it 30 0 (.it 31 0 (.it 32 2 (.it 33 2 (.it 34 0 (.it 35 0 (.it 36 0 (.it 37 2 (.it 38 2 (.it 39 0 (.it 40 0 .nil)))))))))))))))))))) (.it 20 2 (.it 22 2 (.it 23 2 (.it 24 0 (.it 25 0 (.it 26 0 (.it 27 0 (.it 28 2 (.it 29 0 (.it 30 0 (.it 31 0 (.it 32 2 (.it 33 2 (.it 34 0 (.it 35 0 (.it 36 0 (.it 37 2 (.it 38 2 (.it 39 0 (.it 40 0 .nil))))))))))))))))))))))))))))))))))))))))) [0, 1, 2, 3, 4, 5, 6, 7, 8, 9, 10, 11, 12, 13, 14, 15, 16, 17, 18, 19, 20, 21, 22, 23, 24, 25, 26, 27, 28, 29, 30, 31, 32, 33, 34, 35, 36, 37, 38, 39, 40] ?_ ?_; rotate_left) | (refine gC 26 ?_; refine callS (stepsE_pc) ?_) | (refine gC 6 ?_; refine callS (cE_bad) ?_) | (refine gC 6 ?_; refine callS (cE_cover) ?_) | (refine gC 11 ?_; refine callS (cE_multi) ?_) | (refine gC 19 ?_; refine callS (cE_state) ?_) | (refine gCd 28 ?_; refine callD (cE_lists) ?_) | (refine gCd 29 ?_; refine callD (cE_same) ?_) | (refine gCd 23 ?_; refine callD (cE_i1) ?_) | (refine gCd 23 ?_; refine callD (cE_i2) ?_) | (refine adx_op (fun K hK => ?_); (first | (refine aopx_pv (pv_fieldAddrF (by rfl) (by rfl) (by first | decide | (simp; done) | (simp; omega))) ?_) | (refine aopx_pv (pv_fieldAddrIF (by rfl) (by rfl) (by first | decide | (simp; done) | (simp; omega))) ?_) | (refine aopx_pv (pv_eql (by rfl) (by rfl)) ?_) | (refine aopx_pv (pv_eqlB (by rfl) (by rfl)) ?_) | (refine aopx_pv (pv_eqlA (by rfl) (by rfl) (by kernel_rfl)) ?_) | (refine aopx_buildSlice (d := 78) (by exact ⟨by decide, by decide, by decide⟩) (by rfl) (by rfl) (by rfl) (by rfl) ?_) | (refine aopx_buildSlice (d := 79) (by exact ⟨by decide, by decide, by decide⟩) (by rfl) (by rfl) (by rfl) (by rfl) ?_) | (refine aopx_buildSlice (d := 80) (by exact ⟨by decide, by decide, by decide⟩) (by rfl) (by rfl) (by rfl) (by rfl) ?_) | (refine aopx_buildSlice (d := 90) (by exact ⟨by decide, by decide, by decide⟩) (by rfl) (by rfl) (by rfl) (by rfl) ?_) | (refine aopx_buildSlice (d := 95) (by exact ⟨by decide, by decide, by decide⟩) (by rfl) (by rfl) (by rfl) (by rfl) ?_))) | (refine And.intro ?_ ?_) | (refine gDx ?_; refine adxS ?_) | (refine gL ?_; (first | exact Le.refl _ | exact weakS)) | (refine gE ?_; (first | (refine exN ?_) | (refine exS (fun _ => ?_)))) | (refine gGd ?_; refine guardD (fun hc => ?_) (fun hc => ?_) <;> (try (first | contradiction | (exfalso; omega)))) | (refine gQ ?_; (first | (refine condT ?_) | (refine condF ?_) | (refine condS (fun hc => ?_) (fun hc => ?_) <;> (try (first | contradiction | (exfalso; omega)))))) | (refine gWd ?_; refine wdrS ?_) | (refine gW ?_; refine wopsS ?_) | (refine aw_block ?_) | (refine gX ?_; refine exitS ?_) | (refine gT ?_; refine retS ?_) | (refine gS ?_; refine skipS ?_) | (apply_assumption (exfalso := false) (symm := false))))
  (refine fin_le (Le.refl _) (rv_one (rv1_tmp (by rfl))) (by first | rfl | (simp only [go_sem, Nat.reduceAdd, Nat.reduceMul, reduceIte, Nat.reduceEqDiff, Nat.reduceLeDiff, Int.reduceToNat, Int.reducePow, Int.reduceBEq, Int.reduceBNe, Int.reduceLT, Int.reduceLE, decide_true, decide_false])) ?_)
  rfl







end Go.Proofs.Ytpnpnbbanfgpgaa
