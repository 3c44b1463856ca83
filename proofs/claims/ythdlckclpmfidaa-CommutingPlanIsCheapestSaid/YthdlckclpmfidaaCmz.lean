import Derived.Test.YthdlckclpmfidaaCmq
import Derived.Test.YthdlckclpmfidaaCmh


namespace Go.Proofs.Ythdlckclpmfidaa
open Go.Ab
open Go
set_option linter.unusedSimpArgs false
set_option linter.unusedVariables false
set_option maxRecDepth 10000
set_option maxHeartbeats 4000000
/-! the nodes of the search -/
structure NdI (t : Task) (N : List Nd) : Prop where
  pos : 0 < N.length
  z1 : (N[0]!).st = t.init
  z2 : (N[0]!).c = 0
  z3 : (N[0]!).par = -1
  step : ∀ k, 0 < k → k < N.length → ∃ p q : Nat, p < k ∧ (N[k]!).par = p ∧ (N[k]!).op = q ∧ q < t.ops.length ∧ subB (t.ops[q]!).pre (N[p]!).st = true ∧ (N[k]!).st = aft t.facts (N[p]!).st t.ops[q]! ∧ (N[k]!).c = (N[p]!).c + (t.ops[q]!).cost
theorem app_at {N : List Nd} {n : Nd} {k : Nat} (h : k < N.length) : (N ++ [n])[k]! = N[k]! := by
  rw [getBang h, getBang (by simp; omega), List.getElem_append_left h]
theorem app_last {N : List Nd} {n : Nd} : (N ++ [n])[N.length]! = n := by
  rw [getBang (by simp)]; simp
theorem NdI.set {t : Task} {N : List Nd} (h : NdI t N) (hw : WfT t) {k : Nat} (hk : k < N.length) : isSet (N[k]!).st t.facts = true := by
  rcases Nat.eq_zero_or_pos k with rfl | h0
  · rw [h.z1]; exact hw.init
  · obtain ⟨p, q, _, _, _, _, _, h1, _⟩ := h.step k h0 hk
    rw [h1]; exact aft_set hw.f0 _ _
theorem NdI.cost {t : Task} {N : List Nd} (h : NdI t N) (hw : WfT t) {k : Nat} (hk : k < N.length) : 0 ≤ (N[k]!).c ∧ (N[k]!).c ≤ 100 * k := by
  induction k using Nat.strongRecOn with
  | ind k ih =>
    rcases Nat.eq_zero_or_pos k with rfl | h0
    · rw [h.z2]; simp
    · obtain ⟨p, q, hp, _, _, hq, _, _, h1⟩ := h.step k h0 hk
      have := ih p hp (by omega)
      have hc := (hw.ops t.ops[q]! (by rw [getBang hq]; exact List.getElem_mem hq)).2
      rw [h1]
      omega
theorem NdI.push {t : Task} {N : List Nd} (h : NdI t N) {p q : Nat} (hp : p < N.length) (hq : q < t.ops.length) (ha : subB (t.ops[q]!).pre (N[p]!).st = true) {n : Nd} (h1 : n.st = aft t.facts (N[p]!).st t.ops[q]!) (h2 : n.c = (N[p]!).c + (t.ops[q]!).cost) (h3 : n.par = p) (h4 : n.op = q) : NdI t (N ++ [n]) := by
  have hpos := h.pos
  refine ⟨by simp, by rw [app_at hpos]; exact h.z1, by rw [app_at hpos]; exact h.z2, by rw [app_at hpos]; exact h.z3, fun k k0 hk => ?_⟩
  rw [List.length_append, List.length_singleton] at hk
  rcases Nat.lt_or_ge k N.length with h5 | h5
  · obtain ⟨p', q', g1, g2, g3, g4, g5, g6, g7⟩ := h.step k k0 h5
    exact ⟨p', q', g1, by rw [app_at h5]; exact g2, by rw [app_at h5]; exact g3, g4, by rw [app_at (by omega)]; exact g5, by rw [app_at h5, app_at (by omega)]; exact g6, by rw [app_at h5, app_at (by omega)]; exact g7⟩
  · obtain rfl : k = N.length := by omega
    exact ⟨p, q, hp, by rw [app_last]; exact h3, by rw [app_last]; exact h4, hq, by rw [app_at hp]; exact ha, by rw [app_last, app_at hp]; exact h1, by rw [app_last, app_at hp]; exact h2⟩
/-- The operators on the way back from a node. -/
def bkL (N : List Nd) : Nat → Nat → List Int
  | 0, _ => []
  | f + 1, k => if (N[k]!).par < 0 then [] else (N[k]!).op :: bkL N f (N[k]!).par.toNat
def pathN (N : List Nd) (k : Nat) : List Int := (bkL N (k + 1) k).reverse
theorem NdI.bk {t : Task} {N : List Nd} (h : NdI t N) : ∀ (k f : Nat), k < N.length → k < f → bkL N f k = bkL N (k + 1) k := by
  intro k
  induction k using Nat.strongRecOn with
  | ind k ih =>
    intro f hk hf
    obtain ⟨g, rfl⟩ : ∃ g, f = g + 1 := ⟨f - 1, by omega⟩
    rw [bkL, bkL]
    rcases Nat.eq_zero_or_pos k with rfl | h0
    · rw [h.z3]; rfl
    · obtain ⟨p, q, hp, h1, _⟩ := h.step k h0 hk
      rw [h1, if_neg (by omega), if_neg (by omega), Int.toNat_natCast, ih p hp g (by omega) (by omega), ih p hp k (by omega) hp]
theorem NdI.bk0 {t : Task} {N : List Nd} (h : NdI t N) : bkL N 1 0 = [] := by
  rw [bkL, h.z3]; rfl
theorem NdI.bkS {t : Task} {N : List Nd} (h : NdI t N) {k : Nat} (h0 : 0 < k) (hk : k < N.length) : bkL N (k + 1) k = (N[k]!).op :: bkL N ((N[k]!).par.toNat + 1) (N[k]!).par.toNat := by
  obtain ⟨p, q, hp, h1, _⟩ := h.step k h0 hk
  rw [bkL, h1, if_neg (by omega), Int.toNat_natCast, h.bk p k (by omega) hp]
theorem NdI.bkLen {t : Task} {N : List Nd} (h : NdI t N) {k : Nat} (hk : k < N.length) : (bkL N (k + 1) k).length ≤ k := by
  induction k using Nat.strongRecOn with
  | ind k ih =>
    rcases Nat.eq_zero_or_pos k with rfl | h0
    · rw [h.bk0]; simp
    · obtain ⟨p, q, hp, h1, _⟩ := h.step k h0 hk
      rw [h.bkS h0 hk, h1, Int.toNat_natCast, List.length_cons]
      have := ih p hp (by omega)
      omega
theorem NdI.path {t : Task} {N : List Nd} (h : NdI t N) {k : Nat} (hk : k < N.length) : endsT t t.init (natP (pathN N k)) = some (N[k]!).st ∧ costT t (natP (pathN N k)) = (N[k]!).c ∧ ∀ x ∈ pathN N k, 0 ≤ x ∧ x < t.ops.length := by
  induction k using Nat.strongRecOn with
  | ind k ih =>
    rcases Nat.eq_zero_or_pos k with rfl | h0
    · have e : pathN N 0 = [] := by rw [pathN, h.bk0]; rfl
      rw [e, h.z1, h.z2]
      exact ⟨rfl, rfl, fun x hx => by cases hx⟩
    · obtain ⟨p, q, hp, h1, h2, h3, h4, h5, h6⟩ := h.step k h0 hk
      have e : pathN N k = pathN N p ++ [(q : Int)] := by
        rw [pathN, h.bkS h0 hk, h1, h2, Int.toNat_natCast, List.reverse_cons]
        rfl
      obtain ⟨i1, i2, i3⟩ := ih p hp (by omega)
      have hq : t.ops[q]? = some t.ops[q]! := by rw [getBang h3]; exact List.getElem?_eq_getElem h3
      have e2 : natP (pathN N k) = natP (pathN N p) ++ [q] := by rw [e]; simp [natP]
      rw [e2]
      refine ⟨ends_app.2 ⟨_, i1, ends_cons.2 ⟨_, hq, h4, by rw [endsT, h5]⟩⟩, ?_, fun x hx => ?_⟩
      · rw [cost_app, i2, h6]
        show _ + ((match t.ops[q]? with | some o => o.cost | none => 0) + 0) = _
        rw [hq]
        simp
      · rw [e, List.mem_append, List.mem_singleton] at hx
        rcases hx with hx | rfl
        · exact i3 x hx
        · omega
/-! the search's list of what is open and what is closed -/
structure SB (t : Task) (N : List Nd) (l : List Int) (cl : List Nat) : Prop where
  nd : NdI t N
  ref : Ref l N.length
  clr : ∀ k ∈ cl, k < N.length
  nod : (cl.map fun k => (N[k]!).st).Nodup
  cov : ∀ k, k < N.length → (k : Int) ∈ l ∨ ∃ m ∈ cl, (N[m]!).st = (N[k]!).st ∧ (N[m]!).c ≤ (N[k]!).c
  low : ∀ k ∈ cl, ∀ j ∈ l, (N[k]!).c ≤ (N[j.toNat]!).c
  goal : ∀ k ∈ cl, subB t.goal (N[k]!).st = false
/-- The operator q has been followed from node k. -/
def Exp (t : Task) (N : List Nd) (k : Nat) (q : Int) : Prop := ∃ m, m < N.length ∧ (N[m]!).st = aft t.facts (N[k]!).st t.ops[q.toNat]! ∧ (N[m]!).c = (N[k]!).c + (t.ops[q.toNat]!).cost
structure SI (t : Task) (N : List Nd) (l : List Int) (cl : List Nat) : Prop where
  b : SB t N l cl
  exp : ∀ k ∈ cl, ∀ q ∈ stubT t (N[k]!).st, Exp t N k q
  len : N.length ≤ 40 * cl.length + 1
structure SJ (t : Task) (N : List Nd) (l : List Int) (cl : List Nat) (k0 j : Nat) : Prop where
  b : SB t N l (cl ++ [k0])
  exp : ∀ k ∈ cl, ∀ q ∈ stubT t (N[k]!).st, Exp t N k q
  cur : ∀ q ∈ (stubT t (N[k0]!).st).take j, Exp t N k0 q
  top : ∀ k ∈ cl, (N[k]!).c ≤ (N[k0]!).c
  len : N.length ≤ 40 * cl.length + 1 + j
theorem SI.start {t : Task} {n : Nd} (h1 : n.st = t.init) (h2 : n.c = 0) (h3 : n.par = -1) : SI t [n] [0] [] := by
  refine ⟨⟨⟨by simp, h1, h2, h3, fun k k0 hk => by simp at hk; omega⟩, fun x hx => by simp at hx; subst hx; simp, fun k hk => (by cases hk), by simp, fun k hk => ?_, fun k hk => (by cases hk), fun k hk => (by cases hk)⟩, fun k hk => (by cases hk), by simp⟩
  simp at hk
  subst hk
  exact .inl (by simp)
/-- A popped node whose state is closed is left. -/
theorem SI.skip {t : Task} {N : List Nd} {l l' : List Int} {cl : List Nat} (h : SI t N l cl) {x : Int} (hp : (x :: l').Perm l) {m : Nat} (hm : m ∈ cl) (hs : (N[m]!).st = (N[x.toNat]!).st) : SI t N l' cl := by
  have hsub : ∀ y ∈ l', y ∈ l := fun y hy => hp.mem_iff.1 (List.mem_cons_of_mem _ hy)
  have hx : x ∈ l := hp.mem_iff.1 (List.mem_cons_self ..)
  refine ⟨⟨h.b.nd, fun y hy => h.b.ref y (hsub y hy), h.b.clr, h.b.nod, fun k hk => ?_, fun k hk j hj => h.b.low k hk j (hsub j hj), h.b.goal⟩, h.exp, h.len⟩
  rcases h.b.cov k hk with h1 | h1
  · rcases List.mem_cons.1 (hp.mem_iff.2 h1) with h2 | h2
    · refine .inr ⟨m, hm, ?_, ?_⟩
      · rw [hs, ← h2]; rfl
      · have := h.b.low m hm x hx
        rw [← h2] at this
        exact this
    · exact .inl h2
  · exact .inr h1
theorem SI.close {t : Task} {N : List Nd} {l l' : List Int} {cl : List Nat} (h : SI t N l cl) {x : Int} (hp : (x :: l').Perm l) (hmin : ∀ y ∈ l, (N[x.toNat]!).c ≤ (N[y.toNat]!).c) (hn : ∀ m ∈ cl, (N[m]!).st ≠ (N[x.toNat]!).st) (hg : subB t.goal (N[x.toNat]!).st = false) : SJ t N l' cl x.toNat 0 := by
  have hsub : ∀ y ∈ l', y ∈ l := fun y hy => hp.mem_iff.1 (List.mem_cons_of_mem _ hy)
  have hx : x ∈ l := hp.mem_iff.1 (List.mem_cons_self ..)
  have hxr := h.b.ref x hx
  refine ⟨⟨h.b.nd, fun y hy => h.b.ref y (hsub y hy), fun k hk => ?_, ?_, fun k hk => ?_, fun k hk j hj => ?_, fun k hk => ?_⟩, h.exp, fun q hq => by simp at hq, fun k hk => h.b.low k hk x hx, h.len⟩
  · rcases List.mem_append.1 hk with hk | hk
    · exact h.b.clr k hk
    · rw [List.mem_singleton] at hk; subst hk; omega
  · rw [List.map_append, List.nodup_append]
    refine ⟨h.b.nod, by simp, fun a ha b hb => ?_⟩
    simp only [List.map_cons, List.map_nil, List.mem_singleton] at hb
    subst hb
    obtain ⟨m, hm, rfl⟩ := List.mem_map.1 ha
    exact hn m hm
  · rcases h.b.cov k hk with h1 | ⟨m, h1, h2⟩
    · rcases List.mem_cons.1 (hp.mem_iff.2 h1) with h2 | h2
      · refine .inr ⟨x.toNat, by simp, ?_, ?_⟩
        · rw [← h2]; rfl
        · rw [← h2]; exact Int.le_refl _
      · exact .inl h2
    · exact .inr ⟨m, List.mem_append_left _ h1, h2⟩
  · rcases List.mem_append.1 hk with hk | hk
    · exact h.b.low k hk j (hsub j hj)
    · rw [List.mem_singleton] at hk; subst hk; exact hmin j (hsub j hj)
  · rcases List.mem_append.1 hk with hk | hk
    · exact h.b.goal k hk
    · rw [List.mem_singleton] at hk; subst hk; exact hg
theorem Exp.app {t : Task} {N : List Nd} {n : Nd} {k : Nat} {q : Int} (hk : k < N.length) (h : Exp t N k q) : Exp t (N ++ [n]) k q := by
  obtain ⟨m, h1, h2, h3⟩ := h
  exact ⟨m, by simp; omega, by rw [app_at h1, app_at hk]; exact h2, by rw [app_at h1, app_at hk]; exact h3⟩
theorem SJ.push {t : Task} (hw : WfT t) {N : List Nd} {l l' : List Int} {cl : List Nat} {k0 j : Nat} (h : SJ t N l cl k0 j) (hj : j < (stubT t (N[k0]!).st).length) {n : Nd}
    (h1 : n.st = aft t.facts (N[k0]!).st t.ops[((stubT t (N[k0]!).st)[j]).toNat]!) (h2 : n.c = (N[k0]!).c + (t.ops[((stubT t (N[k0]!).st)[j]).toNat]!).cost) (h3 : n.par = k0) (h4 : n.op = (stubT t (N[k0]!).st)[j]) (hp : l'.Perm (l ++ [(N.length : Int)])) : SJ t (N ++ [n]) l' cl k0 (j + 1) := by
  have hk0 := h.b.clr k0 (by simp)
  obtain ⟨q, hq⟩ : ∃ q, (stubT t (N[k0]!).st)[j] = q := ⟨_, rfl⟩
  have hqm : q ∈ stubT t (N[k0]!).st := by rw [← hq]; exact List.getElem_mem hj
  obtain ⟨q0, q1, q2⟩ := stub_sub hqm
  rw [hq] at h1 h2 h4
  have hc := (hw.ops t.ops[q.toNat]! (by rw [getBang (by omega)]; exact List.getElem_mem _)).2
  refine ⟨⟨h.b.nd.push hk0 (q := q.toNat) (by omega) q2 h1 h2 h3 (by rw [h4]; omega), fun y hy => ?_, fun k hk => ?_, ?_, fun k hk => ?_, fun k hk i hi => ?_, fun k hk => ?_⟩, fun k hk r hr => ?_, fun r hr => ?_, fun k hk => ?_, ?_⟩
  · rw [List.length_append, List.length_singleton]
    rcases List.mem_append.1 (hp.mem_iff.1 hy) with h5 | h5
    · have := h.b.ref y h5; omega
    · rw [List.mem_singleton] at h5; subst h5; omega
  · have := h.b.clr k hk; simp; omega
  · have e : (cl ++ [k0]).map (fun k => ((N ++ [n])[k]!).st) = (cl ++ [k0]).map fun k => (N[k]!).st := List.map_congr_left fun k hk => by rw [app_at (h.b.clr k hk)]
    rw [e]; exact h.b.nod
  · rw [List.length_append, List.length_singleton] at hk
    rcases Nat.lt_or_ge k N.length with h5 | h5
    · rcases h.b.cov k h5 with h6 | ⟨m, h6, h7, h8⟩
      · exact .inl (hp.mem_iff.2 (List.mem_append_left _ h6))
      · exact .inr ⟨m, h6, by rw [app_at h5, app_at (h.b.clr m h6)]; exact h7, by rw [app_at h5, app_at (h.b.clr m h6)]; exact h8⟩
    · obtain rfl : k = N.length := by omega
      exact .inl (hp.mem_iff.2 (by simp))
  · rw [app_at (h.b.clr k hk)]
    rcases List.mem_append.1 (hp.mem_iff.1 hi) with h5 | h5
    · have := h.b.ref i h5
      rw [app_at (by omega)]; exact h.b.low k hk i h5
    · rw [List.mem_singleton] at h5; subst h5
      rw [Int.toNat_natCast, app_last, h2]
      rcases List.mem_append.1 hk with hk | hk
      · have := h.top k hk; omega
      · rw [List.mem_singleton] at hk; subst hk; omega
  · rw [app_at (h.b.clr k hk)]; exact h.b.goal k hk
  · have hkl := h.b.clr k (List.mem_append_left _ hk)
    rw [app_at hkl] at hr
    exact (h.exp k hk r hr).app hkl
  · rw [app_at hk0, List.take_succ_eq_append_getElem hj, List.mem_append, List.mem_singleton] at hr
    rcases hr with hr | hr
    · exact (h.cur r hr).app hk0
    · rw [hq] at hr; subst hr
      exact ⟨N.length, by simp, by rw [app_last, app_at hk0]; exact h1, by rw [app_last, app_at hk0]; exact h2⟩
  · rw [app_at hk0, app_at (h.b.clr k (List.mem_append_left _ hk))]; exact h.top k hk
  · have := h.len; simp; omega
theorem stub_len {t : Task} {s : List Int} : (stubT t s).length ≤ t.ops.length := by
  unfold stubT
  split
  · simp
  · refine Nat.le_trans (List.length_filter_le _ _) ?_
    simp [upTo]
theorem SJ.done {t : Task} (hw : WfT t) {N : List Nd} {l : List Int} {cl : List Nat} {k0 : Nat} (h : SJ t N l cl k0 (stubT t (N[k0]!).st).length) : SI t N l (cl ++ [k0]) := by
  refine ⟨h.b, fun k hk q hq => ?_, ?_⟩
  · rcases List.mem_append.1 hk with hk | hk
    · exact h.exp k hk q hq
    · rw [List.mem_singleton] at hk; subst hk
      exact h.cur q (by rw [List.take_length]; exact hq)
  · have := h.len
    have := stub_len (t := t) (s := (N[k0]!).st)
    have := hw.n40
    simp; omega
/-- From a closed node, a plan leads over an open node. -/
theorem SI.over {t : Task} (hw : WfT t) {N : List Nd} {l : List Int} {cl : List Nat} (h : SI t N l cl) : ∀ (n : Nat) (r : List Nat), r.length = n → ∀ k ∈ cl, WorksT t (N[k]!).st r → ∃ j ∈ l, (N[j.toNat]!).c ≤ (N[k]!).c + costT t r := by
  intro n
  induction n with
  | zero =>
    intro r hr k hk hwk
    obtain rfl := List.eq_nil_of_length_eq_zero hr
    obtain ⟨e, he, hg⟩ := hwk
    simp only [endsT, Option.some.injEq] at he
    subst he
    rw [h.b.goal k hk] at hg
    cases hg
  | succ n ih =>
    intro r hr k hk hwk
    obtain ⟨q, r', h1, h2, h3, h4, h5⟩ := stub_step hw (h.b.nd.set hw (h.b.clr k hk)) (h.b.goal k hk) hwk
    obtain ⟨m, m1, m2, m3⟩ := h.exp k hk _ h2
    rw [Int.toNat_natCast] at m2 m3
    have hb := cost_bound hw r'
    rcases h.b.cov m m1 with h6 | ⟨k', k1, k2, k3⟩
    · refine ⟨m, h6, ?_⟩
      rw [Int.toNat_natCast]
      omega
    · obtain ⟨j, j1, j2⟩ := ih r' (by omega) k' k1 (by rw [k2, m2]; exact h3)
      exact ⟨j, j1, by omega⟩
theorem SI.open {t : Task} (hw : WfT t) {N : List Nd} {l : List Int} {cl : List Nat} (h : SI t N l cl) {r : List Nat} (hr : WorksT t t.init r) : ∃ j ∈ l, (N[j.toNat]!).c ≤ costT t r := by
  have hb := cost_bound hw r
  have z1 := h.b.nd.z1
  have z2 := h.b.nd.z2
  rcases h.b.cov 0 h.b.nd.pos with h1 | ⟨k, h1, h2, h3⟩
  · refine ⟨0, h1, ?_⟩
    show (N[0]!).c ≤ _
    omega
  · obtain ⟨j, j1, j2⟩ := h.over hw _ r rfl k h1 (by rw [h2, z1]; exact hr)
    exact ⟨j, j1, by omega⟩
theorem SI.none {t : Task} (hw : WfT t) {N : List Nd} {cl : List Nat} (h : SI t N [] cl) {z : Int} (hz : LeastC t t.init z) : z = Inf := by
  have := hz.z1
  rcases Int.lt_or_le z Inf with h1 | h1
  · obtain ⟨r, hr, _⟩ := hz.has h1
    obtain ⟨j, hj, _⟩ := h.open hw hr
    cases hj
  · omega
theorem SI.best {t : Task} (hw : WfT t) {N : List Nd} {l : List Int} {cl : List Nat} (h : SI t N l cl) {x : Int} (hx : x ∈ l) (hmin : ∀ y ∈ l, (N[x.toNat]!).c ≤ (N[y.toNat]!).c) (hg : subB t.goal (N[x.toNat]!).st = true) (hi : (N[x.toNat]!).c < Inf) {z : Int} (hz : LeastC t t.init z) : z = (N[x.toNat]!).c := by
  have hr := h.b.ref x hx
  obtain ⟨p1, p2, _⟩ := h.b.nd.path (k := x.toNat) (by omega)
  have h1 := hz.le _ ⟨_, p1, hg⟩
  rw [p2] at h1
  obtain ⟨r, hr, hc⟩ := hz.has (by omega)
  obtain ⟨j, hj, hle⟩ := h.open hw hr
  have := hmin j hj
  omega
theorem nodup_sub {α : Type} [DecidableEq α] : ∀ {a b : List α}, a.Nodup → (∀ x ∈ a, x ∈ b) → a.length ≤ b.length
  | [], b, _, _ => Nat.zero_le _
  | x :: a, b, hn, hs => by
    rw [List.nodup_cons] at hn
    have hx := hs x (by simp)
    have := nodup_sub (b := b.erase x) hn.2 fun y hy => (List.mem_erase_of_ne (fun e : y = x => hn.1 (by rw [← e]; exact hy))).2 (hs y (List.mem_cons_of_mem _ hy))
    rw [List.length_erase_of_mem hx] at this
    have := List.length_pos_of_mem hx
    rw [List.length_cons]
    omega
theorem NdI.reach {t : Task} {N : List Nd} (h : NdI t N) {k : Nat} (hk : k < N.length) : ReachT t t.init (N[k]!).st := ⟨_, (h.path hk).1⟩
theorem SB.few {t : Task} {N : List Nd} {l : List Int} {cl : List Nat} (h : SB t N l cl) {L : List (List Int)} (hL : ReachL t t.init L) : cl.length ≤ L.length := by
  have := nodup_sub (b := L) h.nod fun x hx => by
    obtain ⟨k, hk, rfl⟩ := List.mem_map.1 hx
    obtain ⟨plan, hp⟩ := h.nd.reach (h.clr k hk)
    exact hL.all (List.mem_of_getElem? hL.head) hp
  simpa using this
/-! the map of what is closed -/
def kvC (N : List Nd) (cl : List Nat) : List (Int × Int) := cl.map fun k : Nat => (((wsum (N[k]!).st : Nat) : Int), (k : Int))
theorem kvC_none {t : Task} (hw : WfT t) {N : List Nd} {l : List Int} {cl : List Nat} (h : SB t N l cl) {s : List Int} (hs : isSet s t.facts = true) (hn : Ab.look (kvC N cl) ((wsum s : Nat) : Int) = none) : ∀ m ∈ cl, (N[m]!).st ≠ s := by
  intro m hm e
  unfold Ab.look kvC at hn
  rw [Option.map_eq_none_iff, List.find?_eq_none] at hn
  have := hn _ (List.mem_map.2 ⟨m, hm, rfl⟩)
  rw [e] at this
  simp at this
theorem kvC_some {t : Task} (hw : WfT t) {N : List Nd} {l : List Int} {cl : List Nat} (h : SB t N l cl) {s : List Int} (hs : isSet s t.facts = true) {v : Int} (hn : Ab.look (kvC N cl) ((wsum s : Nat) : Int) = some v) : ∃ m ∈ cl, (N[m]!).st = s := by
  unfold Ab.look kvC at hn
  rw [Option.map_eq_some_iff] at hn
  obtain ⟨p, hp, _⟩ := hn
  have h1 := List.mem_of_find?_eq_some hp
  have h2 := List.find?_some hp
  obtain ⟨m, hm, rfl⟩ := List.mem_map.1 h1
  refine ⟨m, hm, set_inj (h.nd.set hw (h.clr m hm)) hs ?_⟩
  simp only [beq_iff_eq] at h2
  omega
theorem heapOk_congr {c d : Int → Int} {l : List Int} {n : Nat} (h : HeapOk c l n) (hn : n ≤ l.length) (he : ∀ x ∈ l, c x = d x) : HeapOk d l n := by
  intro i hi i0
  have := h i hi i0
  have h1 : l[i]! ∈ l := by rw [getBang (by omega)]; exact List.getElem_mem _
  have h2 : l[(i - 1) / 2]! ∈ l := by rw [getBang (by omega)]; exact List.getElem_mem _
  simp only [hLt, decide_eq_false_iff_not] at this ⊢
  rw [← he _ h1, ← he _ h2]
  exact this
theorem costN_app {N : List Nd} {n : Nd} {l : List Int} (hr : Ref l N.length) : ∀ x ∈ l, costN N x = costN (N ++ [n]) x := fun x hx => by
  have := hr x hx
  unfold costN
  rw [app_at (by omega)]
end Go.Proofs.Ythdlckclpmfidaa
