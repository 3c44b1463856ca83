/- Part of a proof: of two right answers both have a plan, at one cost, or none. No condition. -/
import Derived.ProofKit
import Derived.Test.YtkbiagkbmodgdaaGreatZcosd
import Derived.Test.YtkbiagkbmodgdaaGreatZlpe
set_option linter.unusedSimpArgs false
set_option linter.unusedVariables false
namespace Go.Proofs.YtkbiagkbmodgdaaGreat
open Go.Ab
open Go
set_option maxRecDepth 10000
attribute [local irreducible] PV eR ef AW bg dn Ab.Fin ft RV jX Le eI fM mg gV kf dz dg
theorem mY (xs:List AV) (h:ff.BJ [CM,wV,wV] xs):bg Tryz.prog 4 xs (fun r=>r= .bool true):=by
 obtain ⟨u0,xs,rfl,h0,h⟩:=sE h
 obtain ⟨u1,xs,rfl,h1,h⟩:=sE h
 obtain ⟨u2,xs,rfl,h2,h⟩:=sE h
 obtain rfl:=Gw h
 obtain ⟨d,e0⟩:=Jr h0
 obtain ⟨a,e1⟩:=CO h1
 obtain ⟨b,e2⟩:=CO h2
 rw [e0,e1,e2]
 exact xW d a b
set_option maxRecDepth 100000 in
theorem lf (os:Os) (started:os.Started) (H:Type) (enc:TypeId×Value→H) :
  ReturnsInHanded {} Tryz.checked os 4 .any (Rows.plannerProofsDecideSpec.pre6 enc Tryz.prog Tryz.f4 Rows.plannerProofsDecideRow.domain false) (Rows.plannerProofsDecideSpec.post enc Tryz.prog Tryz.f4 false true false false):=by
 refine returnsInHanded_of_change_sized (C:=Tryz.checked) Js started ah Tryz.func4
  (ChangeSpec.witness6 (enc:=enc) (C:=Tryz.checked) false ⟨#[],#[.agg #[.slice none 0 0,.slice none 0 0,.slice none 0 0,.slice none 0 0,.slice none 0 0,.slice none 0 0],.agg #[.bool false,.slice none 0 0,.int .i64 0,.slice none 0 0,.slice none 0 0],.agg #[.bool false,.slice none 0 0,.int .i64 0,.slice none 0 0,.slice none 0 0]],[]⟩ 8 ah ah ah ah) ?_
 intro W base args ds gs before hval hW _ hsz _
 exact B9 (shs:=[CM,wV,wV]) (tb:=4) Gx ah Tryz.underlying4 ah rfl (fun ds h=>by
  match ds,h with
  |[_,_,_],_=>rfl) mY hval hW hsz
theorem plannerProofsDecide_holds:Rows.PlannerProofsDecideSaid:=
 OpenClaim.holds_of_wide_leaving 4 Tryz.f4 rfl rfl rfl rfl rfl rfl rfl ⟨rfl,rfl,rfl,rfl,rfl⟩ rfl rfl rfl rfl rfl ah Tryz.func4 pFs
  (of_decide_eq_true ah) (by unfold Func.isWrapper;first|(rw [if_pos (by decide +kernel)];kernel_rfl)|(rw [if_neg (by decide +kernel)];exact ⟨rfl,rfl⟩))
  (fun os started H enc _=>rV (lf os started H enc))
end Go.Proofs.YtkbiagkbmodgdaaGreat
