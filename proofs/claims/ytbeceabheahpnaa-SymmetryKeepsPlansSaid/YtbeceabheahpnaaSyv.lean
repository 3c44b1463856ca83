import Derived.Test.YtbeceabheahpnaaKpl
import Derived.Test.YtbeceabheahpnaaAbj


namespace Go.Proofs.Ytbeceabheahpnaa
open Go.Ab
open Go
set_option linter.unusedSimpArgs false
set_option linter.unusedVariables false
set_option maxRecDepth 10000
theorem finStep {P : Program} {rs : Array ResultVar} {Q : AV → Prop} {e : Exit} {s s' : St} (hle : Le s s') (h : Ab.Fin P rs Q e s') : Ab.Fin P rs Q e s := by
  cases e with
  | normal => obtain ⟨s2, x, h1, h2⟩ := h; exact ⟨s2, x, hle.trans h1, h2⟩
  | ret => obtain ⟨s2, x, h1, h2⟩ := h; exact ⟨s2, x, hle.trans h1, h2⟩
  | _ => exact h
attribute [local irreducible] PV AOp AOps AW PCall OCall MCall WCall HCall Ab.Fin OFin OFin2 MFin HFin RV RV1 Le AStk AGrd ADr ADx ADo AOpX AAny AOpsI wops wdr wgd wdt
set_option maxHeartbeats 4000000
/-! the sorted elements of a list, by the library's iterators -/
@[local go_sem] theorem ment_ylS (i g : Nat) (y : YInfo) : AV.ment i (.yl g y) = (g == i) := rfl
theorem values_pc (xs : List Int) : PCall Try.prog 52 [ints xs] (fun r => r = .fn 67 [.iptr [ints xs]]) := by
  (refine enterS Try.func52 Try.ntmps52 ?_)
  (repeat' (first | (refine hK _ ?_; clear hK K) | (refine aw_seq (fun K hK => ?_)) | (refine gR ?_; refine regS ?_) | (refine stk_op (fun K hK => ?_); refine aop_le (le_sealPtr 1 rfl rfl rfl) ?_; simp only [go_sem, Nat.reduceAdd, Nat.reduceMul, reduceIte, Nat.reduceEqDiff, Nat.reduceLeDiff, Int.reduceToNat, Int.reducePow, Int.reduceBEq, Int.reduceBNe, Int.reduceLT, Int.reduceLE, decide_true, decide_false]; refine aop_pv pv_makeFunc ?_) | (refine gE ?_; (first | (refine exN ?_) | (refine exS (fun _ => ?_)))) | (refine gQ ?_; (first | (refine condT ?_) | (refine condF ?_) | (refine condS (fun hc => ?_) (fun hc => ?_) <;> (try (first | contradiction | (exfalso; omega)))))) | (refine gW ?_; refine wopsS ?_) | (refine aw_block ?_) | (refine gX ?_; refine exitS ?_) | (refine gT ?_; refine retS ?_) | (refine gS ?_; refine skipS ?_) | (apply_assumption (exfalso := false) (symm := false))))
  (refine fin_le (Le.refl _) (rv_one (rv1_tmp (by rfl))) (by first | rfl | (simp only [go_sem, Nat.reduceAdd, Nat.reduceMul, reduceIte, Nat.reduceEqDiff, Nat.reduceLeDiff, Int.reduceToNat, Int.reducePow, Int.reduceBEq, Int.reduceBNe, Int.reduceLT, Int.reduceLE, decide_true, decide_false])) ?_)
  rfl
theorem hfin_del {P : Program} {rs : Array ResultVar} {ids pins recs : List Nat} {Q : AV → Hp → Prop} {e : Exit} {s : St} {x : AV} (hrv : RV P rs s x) (he : e = .ret ∨ e = .normal) (hg : hget s.hp 1000000000 = some (ghBlk (pins.map fun i => AV.ptr i 0)))
    (hw : (AV.onl ids x && onlHp ids (hdel s.hp 1000000000)) = true) (hrk : recK (hdel s.hp 1000000000) recs = true) (hQ : Q x (hdel s.hp 1000000000)) : HFin P rs ids pins recs Q e s :=
  hfin_eq (Le.refl _) hrv (fun i bk hi => by
    rw [hget_hdel] at hi
    split at hi
    · cases hi
    · exact hi) hg hw hQ he hrk
def hsets : Hp → Hp → Hp
  | [], h => h
  | (i, b) :: r, h => hsets r (hset h i b)
@[local go_sem] theorem hsets_nil (h : Hp) : hsets [] h = h := rfl
@[local go_sem] theorem hsets_cons (i : Nat) (b : Blk) (r h : Hp) : hsets ((i, b) :: r) h = hsets r (hset h i b) := rfl
/-- A loop that changes these blocks alone. -/
theorem aw_loop_set {P : Program} {ι : Type} {c : Code} {fr : List AV} {hp : Hp} {Q : Exit → St → Prop} (ws : List Nat) (C : ι → Prop) (μ : ι → Nat) (sl : ι → List (Nat × AV)) (ms : ι → Hp) (i0 : ι) (h0 : C i0)
    (hs : Le ⟨fr, hp⟩ ⟨sets (sl i0) (havoc ws fr), hsets (ms i0) hp⟩)
    (hr : ∀ i, C i → ∀ K : St → Prop, (∀ s', (∃ j, C j ∧ μ j < μ i ∧ Le s' ⟨sets (sl j) (havoc ws fr), hsets (ms j) hp⟩) → K s') → AW P c ⟨sets (sl i) (havoc ws fr), hsets (ms i) hp⟩ (XThen K Q)) : AW P (.loop c) ⟨fr, hp⟩ Q :=
  aw_loop_at ws C μ sl (fun i => hsets (ms i) hp) i0 h0 hs hr
theorem appendSeq_oc (id : Nat) (xs : List Int) (hb : xs.length ≤ 17592186044416) : OCall Try.prog 79 [.nilS, .fn 67 [.iptr [ints xs]]] [100]
    (fun x hp => x = .sl 1 8 100 0 xs.length ∧ hp = [(100, ⟨3, xs.map AV.int, false⟩)]) := by
  (refine enterO Try.func79 Try.ntmps79 ?_)
  (repeat' (first | (refine hK _ ?_; clear hK K) | (refine aw_seq (fun K hK => ?_)) | (refine gR ?_; refine regS ?_) | (refine stk_op (fun K hK => ?_); (first | (refine appendS ?_) | (refine virtS 8 11 1 8 3 ?_; refine appendS ?_))) | (refine gE ?_; (first | (refine exN ?_) | (refine exS (fun _ => ?_)))) | (refine gQ ?_; (first | (refine condT ?_) | (refine condF ?_) | (refine condS (fun hc => ?_) (fun hc => ?_) <;> (try (first | contradiction | (exfalso; omega)))))) | (refine gW ?_; refine wopsS ?_) | (refine aw_block ?_) | (refine gX ?_; refine exitS ?_) | (refine gT ?_; refine retS ?_) | (refine gS ?_; refine skipS ?_) | (apply_assumption (exfalso := false) (symm := false))))
  (refine aw_le (le_virtH 2 0 100 1 8 3 (by rfl) (by rfl) (by first | rfl | (simp only [go_sem, Nat.reduceAdd, Nat.reduceMul, reduceIte, Nat.reduceEqDiff, Nat.reduceLeDiff, Int.reduceToNat, Int.reducePow, Int.reduceBEq, Int.reduceBNe, Int.reduceLT, Int.reduceLE, decide_true, decide_false]; done) | (simp only [go_sem, Nat.reduceAdd, Nat.reduceMul, reduceIte, Nat.reduceEqDiff, Nat.reduceLeDiff, Int.reduceToNat, Int.reducePow, Int.reduceBEq, Int.reduceBNe, Int.reduceLT, Int.reduceLE, decide_true, decide_false]; rfl) | (simp [St.free, mentHp, AV.mentL, AV.ment]))) ?_; simp only [go_sem, Nat.reduceAdd, Nat.reduceMul, reduceIte, Nat.reduceEqDiff, Nat.reduceLeDiff, Int.reduceToNat, Int.reducePow, Int.reduceBEq, Int.reduceBNe, Int.reduceLT, Int.reduceLE, decide_true, decide_false])
  have hK9 := hK
  refine aw_rangeFy 1000000001 (news := []) (by rfl) (by decide) (by first | rfl | (simp [AV.mentL, AV.ment]; done)) (by first | rfl | (simp [mentHp, AV.mentL, AV.ment]; done)) (by first | rfl | (simp [AV.mentL, AV.ment]; done)) (by rfl) (fun id h => by cases h) (fun y hyp hya hyb => ?_) (fun _ _ h => h)
  (refine enterH Try.func67 Try.ntmps67 ?_)
  (repeat' (first | (refine hK _ ?_; clear hK K) | (refine aw_seq (fun K hK => ?_)) | (refine gR ?_; refine regS ?_) | (refine gE ?_; (first | (refine exN ?_) | (refine exS (fun _ => ?_)))) | (refine gQ ?_; (first | (refine condT ?_) | (refine condF ?_) | (refine condS (fun hc => ?_) (fun hc => ?_) <;> (try (first | contradiction | (exfalso; omega)))))) | (refine gW ?_; refine wopsS ?_) | (refine aw_block ?_) | (refine gX ?_; refine exitS ?_) | (refine gT ?_; refine retS ?_) | (refine gS ?_; refine skipS ?_) | (apply_assumption (exfalso := false) (symm := false))))
  refine aw_loop_set [4, 7, 8, 9, 10, 11, 12, 13, 14, 15] (fun k : Nat => k ≤ xs.length) (fun k => xs.length - k) (fun k => [(7, .int k)]) (fun k => [(2, ⟨22, [.sl 1 8 100 0 k], true⟩), (100, ⟨3, (xs.take k).map AV.int, false⟩)]) 0 (by omega) ?_ ?_
  · (refine atS ?_)
    (exact weakS)
  · rintro k hk K hK
    (refine atS ?_)
    by_cases hlt : k < xs.length
    · have htk := List.take_succ_eq_append_getElem hlt
      (repeat' (first | (refine hK _ ?_; clear hK K) | (refine aw_seq (fun K hK => ?_)) | (refine gRx 3 (by rfl) ?_; refine regS ?_) | (refine gE ?_; (first | (refine exN ?_) | (refine exS (fun _ => ?_)))) | (refine gQ ?_; (first | (refine condT ?_) | (refine condF ?_) | (refine condS (fun hc => ?_) (fun hc => ?_) <;> (try (first | contradiction | (exfalso; omega)))))) | (refine gW ?_; refine wopsS ?_) | (refine aw_block ?_) | (refine gX ?_; refine exitS ?_) | (refine gT ?_; refine retS ?_) | (refine gS ?_; refine skipS ?_) | (apply_assumption (exfalso := false) (symm := false))))
      refine aw_regionI ?_
      iterate 2 ((refine aopsI_cons rfl rfl (fun K1 hK1 => ?_)); (refine aop_pv pv_move ?_); (try simp only [go_sem]); refine hK1 _ ?_; clear hK1 K1)
      refine aopsI_yieldy 1000000002 hyp hya hyb (by rfl) (by rfl) (by rfl) (by rfl) (by rfl) (by decide) (by decide) (by decide) (by rfl) (by first | rfl | (simp only [go_sem, Nat.reduceAdd, Nat.reduceMul, reduceIte, Nat.reduceEqDiff, Nat.reduceLeDiff, Int.reduceToNat, Int.reducePow, Int.reduceBEq, Int.reduceBNe, Int.reduceLT, Int.reduceLE, decide_true, decide_false, Nat.reduceBEq, Bool.or_self, Bool.or_true, Bool.true_or, Bool.or_false, Bool.false_or, Bool.and_true, Bool.true_and, Bool.and_false, Bool.false_and, Bool.and_self, Bool.not_true, Bool.not_false, List.cons_append, List.nil_append, List.append_nil, if_true, if_false, Bool.false_eq_true, keysH]; done)) (by rfl) (by rfl) ?_
      simp only [go_sem, Nat.reduceAdd, Nat.reduceMul, reduceIte, Nat.reduceEqDiff, Nat.reduceLeDiff, Int.reduceToNat, Int.reducePow, Int.reduceBEq, Int.reduceBNe, Int.reduceLT, Int.reduceLE, decide_true, decide_false]
      
      refine gR ?_; refine regS ?_
      refine ⟨_, _, Le.refl _, by rfl, by rfl, ?_⟩
      simp only [go_sem, Nat.reduceAdd, Nat.reduceMul, reduceIte, Nat.reduceEqDiff, Nat.reduceLeDiff, Int.reduceToNat, Int.reducePow, Int.reduceBEq, Int.reduceBNe, Int.reduceLT, Int.reduceLE, decide_true, decide_false]
      (repeat' (first | (refine hK _ ?_; clear hK K) | (refine aw_seq (fun K hK => ?_)) | (refine gR ?_; refine regS ?_) | (refine stk_op (fun K hK => ?_); (first | (refine appendS ?_) | (refine virtS 8 11 1 8 3 ?_; refine appendS ?_))) | (refine gE ?_; (first | (refine exN ?_) | (refine exS (fun _ => ?_)))) | (refine gQ ?_; (first | (refine condT ?_) | (refine condF ?_) | (refine condS (fun hc => ?_) (fun hc => ?_) <;> (try (first | contradiction | (exfalso; omega)))))) | (refine gW ?_; refine wopsS ?_) | (refine aw_block ?_) | (refine gX ?_; refine exitS ?_) | (refine gT ?_; refine retS ?_) | (refine gS ?_; refine skipS ?_) | (apply_assumption (exfalso := false) (symm := false))))
      
      refine ⟨_, _, _, 1000000001, Le.refl _, by rfl, by rfl, by rfl, rfl, ?_⟩
      simp only [go_sem, Nat.reduceAdd, Nat.reduceMul, reduceIte, Nat.reduceEqDiff, Nat.reduceLeDiff, Int.reduceToNat, Int.reducePow, Int.reduceBEq, Int.reduceBNe, Int.reduceLT, Int.reduceLE, decide_true, decide_false]
      refine aopsI_cons rfl rfl (fun K1 hK1 => ?_)
      refine aop_pv (pv_not (by rfl)) ?_
      (try simp only [go_sem]); refine hK1 _ ?_; clear hK1 K1
      refine aopsI_nil ?_
      (repeat' (first | (refine hK _ ?_; clear hK K) | (refine aw_seq (fun K hK => ?_)) | (refine gR ?_; refine regS ?_) | (refine gE ?_; (first | (refine exN ?_) | (refine exS (fun _ => ?_)))) | (refine gQ ?_; (first | (refine condT ?_) | (refine condF ?_) | (refine condS (fun hc => ?_) (fun hc => ?_) <;> (try (first | contradiction | (exfalso; omega)))))) | (refine gW ?_; refine wopsS ?_) | (refine aw_block ?_) | (refine gX ?_; refine exitS ?_) | (refine gT ?_; refine retS ?_) | (refine gS ?_; refine skipS ?_) | (apply_assumption (exfalso := false) (symm := false))))
      refine ⟨k + 1, by omega, by omega, ?_⟩
      rw [htk, List.map_append]
      (refine atS ?_)
      (exact weakS)
    · obtain rfl : k = xs.length := by omega
      rw [List.take_length]
      (repeat' (first | (refine hK _ ?_; clear hK K) | (refine aw_seq (fun K hK => ?_)) | (refine gR ?_; refine regS ?_) | (refine gE ?_; (first | (refine exN ?_) | (refine exS (fun _ => ?_)))) | (refine gQ ?_; (first | (refine condT ?_) | (refine condF ?_) | (refine condS (fun hc => ?_) (fun hc => ?_) <;> (try (first | contradiction | (exfalso; omega)))))) | (refine gW ?_; refine wopsS ?_) | (refine aw_block ?_) | (refine gX ?_; refine exitS ?_) | (refine gT ?_; refine retS ?_) | (refine gS ?_; refine skipS ?_) | (apply_assumption (exfalso := false) (symm := false))))
      refine hfin_del rv_zero (by first | exact .inl rfl | exact .inr rfl) (by rfl) (by first | rfl | (simp only [go_sem, Nat.reduceAdd, Nat.reduceMul, reduceIte, Nat.reduceEqDiff, Nat.reduceLeDiff, Int.reduceToNat, Int.reducePow, Int.reduceBEq, Int.reduceBNe, Int.reduceLT, Int.reduceLE, decide_true, decide_false, Nat.reduceBEq, Bool.or_self, Bool.or_true, Bool.true_or, Bool.or_false, Bool.false_or, Bool.and_true, Bool.true_and, Bool.and_false, Bool.false_and, Bool.and_self, Bool.not_true, Bool.not_false, List.cons_append, List.nil_append, List.append_nil, if_true, if_false, Bool.false_eq_true, keysH]; done)) (by rfl) ⟨.normal, 1000000001, _, rfl, by rfl, by rfl, ?_⟩
      simp only [go_sem, Nat.reduceAdd, Nat.reduceMul, reduceIte, Nat.reduceEqDiff, Nat.reduceLeDiff, Int.reduceToNat, Int.reducePow, Int.reduceBEq, Int.reduceBNe, Int.reduceLT, Int.reduceLE, decide_true, decide_false]
      refine hK9 _ ?_
      
      (repeat' (first | (refine hK _ ?_; clear hK K) | (refine aw_seq (fun K hK => ?_)) | (refine gR ?_; refine regS ?_) | (refine stk_op (fun K hK => ?_); (first | (refine appendS ?_) | (refine virtS 8 11 1 8 3 ?_; refine appendS ?_))) | (refine gE ?_; (first | (refine exN ?_) | (refine exS (fun _ => ?_)))) | (refine gQ ?_; (first | (refine condT ?_) | (refine condF ?_) | (refine condS (fun hc => ?_) (fun hc => ?_) <;> (try (first | contradiction | (exfalso; omega)))))) | (refine gW ?_; refine wopsS ?_) | (refine aw_block ?_) | (refine gX ?_; refine exitS ?_) | (refine gT ?_; refine retS ?_) | (refine gS ?_; refine skipS ?_) | (apply_assumption (exfalso := false) (symm := false))))
      refine ofin_sl rfl (by rfl) (by rfl) (purL_map AV.int xs fun _ => rfl) ⟨rfl, rfl⟩
theorem collect_oc (xs : List Int) (hb : xs.length ≤ 17592186044416) : OCall Try.prog 66 [.fn 67 [.iptr [ints xs]]] [100]
    (fun x hp => x = .sl 1 8 100 0 xs.length ∧ hp = [(100, ⟨3, xs.map AV.int, false⟩)]) := by
  
  (refine enterO Try.func66 Try.ntmps66 ?_)
  (repeat' (first | (refine hK _ ?_; clear hK K) | (refine aw_seq (fun K hK => ?_)) | (refine gR ?_; refine regS ?_) | (refine stk_op (fun K hK => ?_); refine aop_callO (d := some 4) (appendSeq_oc 0 xs hb) (by rfl) (by first | exact free_one (by first | rfl | (simp only [go_sem, Nat.reduceAdd, Nat.reduceMul, reduceIte, Nat.reduceEqDiff, Nat.reduceLeDiff, Int.reduceToNat, Int.reducePow, Int.reduceBEq, Int.reduceBNe, Int.reduceLT, Int.reduceLE, decide_true, decide_false]; done) | (simp only [go_sem, Nat.reduceAdd, Nat.reduceMul, reduceIte, Nat.reduceEqDiff, Nat.reduceLeDiff, Int.reduceToNat, Int.reducePow, Int.reduceBEq, Int.reduceBNe, Int.reduceLT, Int.reduceLE, decide_true, decide_false]; rfl) | (simp [St.free, mentHp, AV.mentL, AV.ment])) | (intro id hid; simp only [List.mem_cons, List.not_mem_nil, or_false] at hid; rcases hid with rfl | rfl | rfl | rfl <;> first | rfl | (simp only [go_sem, Nat.reduceAdd, Nat.reduceMul, reduceIte, Nat.reduceEqDiff, Nat.reduceLeDiff, Int.reduceToNat, Int.reducePow, Int.reduceBEq, Int.reduceBNe, Int.reduceLT, Int.reduceLE, decide_true, decide_false]; done) | (simp only [St.free, mentHp, go_sem, Nat.reduceAdd, Nat.reduceMul, reduceIte, Nat.reduceEqDiff, Nat.reduceLeDiff, Int.reduceToNat, Int.reducePow, Int.reduceBEq, Int.reduceBNe, Int.reduceLT, Int.reduceLE, decide_true, decide_false]; done) | (simp only [go_sem, Nat.reduceAdd, Nat.reduceMul, reduceIte, Nat.reduceEqDiff, Nat.reduceLeDiff, Int.reduceToNat, Int.reducePow, Int.reduceBEq, Int.reduceBNe, Int.reduceLT, Int.reduceLE, decide_true, decide_false]; rfl) | (simp [St.free, mentHp, AV.mentL, AV.ment]; try exact mentL_flat _ _ _ fun _ => rfl))) (fun x hp hx => ?_); obtain ⟨rfl, rfl⟩ := hx) | (refine gE ?_; (first | (refine exN ?_) | (refine exS (fun _ => ?_)))) | (refine gQ ?_; (first | (refine condT ?_) | (refine condF ?_) | (refine condS (fun hc => ?_) (fun hc => ?_) <;> (try (first | contradiction | (exfalso; omega)))))) | (refine gW ?_; refine wopsS ?_) | (refine aw_block ?_) | (refine gX ?_; refine exitS ?_) | (refine gT ?_; refine retS ?_) | (refine gS ?_; refine skipS ?_) | (apply_assumption (exfalso := false) (symm := false))))
  refine ofin_sl rfl (by rfl) (by rfl) (purL_map AV.int xs fun _ => rfl) ⟨rfl, rfl⟩
theorem sorted_pc (xs : List Int) (hb : xs.length ≤ 17592186044416) : PCall Try.prog 51 [.fn 67 [.iptr [ints xs]]] (fun r => r = ints (sortI xs)) := by
  have hsl : (sortI xs).length = xs.length := by simp [sortI]
  
  
  (refine enterS Try.func51 Try.ntmps51 ?_)
  (repeat' (first | (refine hK _ ?_; clear hK K) | (refine aw_seq (fun K hK => ?_)) | (refine gR ?_; refine regS ?_) | (refine stk_op (fun K hK => ?_); (first | (refine aop_callO (d := some 5) (collect_oc xs hb) (by rfl) (by first | exact free_one (by first | rfl | (simp only [go_sem, Nat.reduceAdd, Nat.reduceMul, reduceIte, Nat.reduceEqDiff, Nat.reduceLeDiff, Int.reduceToNat, Int.reducePow, Int.reduceBEq, Int.reduceBNe, Int.reduceLT, Int.reduceLE, decide_true, decide_false]; done) | (simp only [go_sem, Nat.reduceAdd, Nat.reduceMul, reduceIte, Nat.reduceEqDiff, Nat.reduceLeDiff, Int.reduceToNat, Int.reducePow, Int.reduceBEq, Int.reduceBNe, Int.reduceLT, Int.reduceLE, decide_true, decide_false]; rfl) | (simp [St.free, mentHp, AV.mentL, AV.ment])) | (intro id hid; simp only [List.mem_cons, List.not_mem_nil, or_false] at hid; rcases hid with rfl | rfl | rfl | rfl <;> first | rfl | (simp only [go_sem, Nat.reduceAdd, Nat.reduceMul, reduceIte, Nat.reduceEqDiff, Nat.reduceLeDiff, Int.reduceToNat, Int.reducePow, Int.reduceBEq, Int.reduceBNe, Int.reduceLT, Int.reduceLE, decide_true, decide_false]; done) | (simp only [St.free, mentHp, go_sem, Nat.reduceAdd, Nat.reduceMul, reduceIte, Nat.reduceEqDiff, Nat.reduceLeDiff, Int.reduceToNat, Int.reducePow, Int.reduceBEq, Int.reduceBNe, Int.reduceLT, Int.reduceLE, decide_true, decide_false]; done) | (simp only [go_sem, Nat.reduceAdd, Nat.reduceMul, reduceIte, Nat.reduceEqDiff, Nat.reduceLeDiff, Int.reduceToNat, Int.reducePow, Int.reduceBEq, Int.reduceBNe, Int.reduceLT, Int.reduceLE, decide_true, decide_false]; rfl) | (simp [St.free, mentHp, AV.mentL, AV.ment]; try exact mentL_flat _ _ _ fun _ => rfl))) (fun x hp hx => ?_); obtain ⟨rfl, rfl⟩ := hx) | (refine aop_callW (hT := by exact of_decide_eq_true rfl) (d := some 7) (sort_wc xs 100 _ (by omega)) (by rfl) (fun x bk hx => ?_); obtain ⟨rfl, rfl⟩ := hx; simp only [Nat.reduceBEq, Bool.or_true, Bool.or_false, Bool.false_or, Bool.true_or, go_sem, Nat.reduceAdd, Nat.reduceMul, reduceIte, Nat.reduceEqDiff, Nat.reduceLeDiff, Int.reduceToNat, Int.reducePow, Int.reduceBEq, Int.reduceBNe, Int.reduceLT, Int.reduceLE, decide_true, decide_false]))) | (refine gE ?_; (first | (refine exN ?_) | (refine exS (fun _ => ?_)))) | (refine gQ ?_; (first | (refine condT ?_) | (refine condF ?_) | (refine condS (fun hc => ?_) (fun hc => ?_) <;> (try (first | contradiction | (exfalso; omega)))))) | (refine gW ?_; refine wopsS ?_) | (refine aw_block ?_) | (refine gX ?_; refine exitS ?_) | (refine gT ?_; refine retS ?_) | (refine gS ?_; refine skipS ?_) | (apply_assumption (exfalso := false) (symm := false))))
  refine finStep (le_sealMap (f := AV.int) 100 8 xs.length (sortI xs) (by rfl) hsl (fun _ => rfl) (fun _ => rfl)) ?_
  simp only [AV.sealSL, sealS_any, sealS_v, sealS_isl, sealS_iptr, sealS_ptr, sealS_sl, sealS_agg, sealS_tup, sealS_fn, purge_agg, purge_tup, purge_fn, and_self, AV.mentL, AV.ment, Bool.or_self, go_sem, Nat.reduceAdd, Nat.reduceMul, reduceIte, Nat.reduceEqDiff, Nat.reduceLeDiff, Int.reduceToNat, Int.reducePow, Int.reduceBEq, Int.reduceBNe, Int.reduceLT, Int.reduceLE, decide_true, decide_false]
  (refine fin_le (Le.refl _) (rv_one (rv1_tmp (by rfl))) (by first | rfl | (simp only [go_sem, Nat.reduceAdd, Nat.reduceMul, reduceIte, Nat.reduceEqDiff, Nat.reduceLeDiff, Int.reduceToNat, Int.reducePow, Int.reduceBEq, Int.reduceBNe, Int.reduceLT, Int.reduceLE, decide_true, decide_false])) ?_)
  rfl


end Go.Proofs.Ytbeceabheahpnaa
