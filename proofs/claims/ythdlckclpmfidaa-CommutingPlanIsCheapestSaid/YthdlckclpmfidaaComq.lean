import Derived.Test.YthdlckclpmfidaaComp


namespace Go.Proofs.Ythdlckclpmfidaa
open Go.Ab
open Go
set_option linter.unusedSimpArgs false
set_option linter.unusedVariables false
set_option maxRecDepth 10000
attribute [local irreducible] PV AOp AOps AW PCall OCall MCall Ab.Fin OFin OFin2 MFin RV RV1 Le AStk AGrd ADr ADx ADo AOpX AAny
set_option maxHeartbeats 2000000
/-! copies of tasks -/
abbrev ownT (f : Int) (a n b m c k : Nat) : AV := .agg [.int f, .sl 1 8 a 0 n, .sl 1 8 b 0 m, .sl 4 80 c 0 k]
theorem within3 {a b c n m k : Nat} {f : Int} {is gs : List Int} {os : List Op} {f1 f2 f3 : Bool} {t1 t2 t3 : Nat} : Within [a, b, c] (ownT f a n b m c k) [(a, ⟨t1, is.map AV.int, f1⟩), (b, ⟨t2, gs.map AV.int, f2⟩), (c, ⟨t3, os.flatMap opc, f3⟩)] := fun id hid => by
  simp only [List.mem_cons, List.not_mem_nil, or_false, not_or] at hid
  obtain ⟨h1, h2, h3⟩ := hid
  have m1 : AV.mentL id (is.map AV.int) = false := mentL_map id AV.int is fun _ => rfl
  have m2 : AV.mentL id (gs.map AV.int) = false := mentL_map id AV.int gs fun _ => rfl
  have m3 := opc_ment id os
  simp [AV.ment, AV.mentL, mentHp, Ne.symm h1, Ne.symm h2, Ne.symm h3, m1, m2, m3]


end Go.Proofs.Ythdlckclpmfidaa
