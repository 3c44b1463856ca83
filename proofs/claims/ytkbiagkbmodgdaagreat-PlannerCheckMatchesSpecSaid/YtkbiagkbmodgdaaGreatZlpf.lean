/- For every input the law PlannerCheckMatchesSpec returns true and leaves its arguments as they were. No condition. -/
import Derived.ProofKit
import Derived.Test.YtkbiagkbmodgdaaGreatZcosd
import Derived.Test.YtkbiagkbmodgdaaGreatZlpg
set_option linter.unusedSimpArgs false
set_option linter.unusedVariables false
namespace Go.Proofs.YtkbiagkbmodgdaaGreat
open Go.Ab
open Go
set_option maxRecDepth 10000
attribute [local irreducible] PV ff ew AW bm da Ab.Fin fi RV kh Le eV fL ma iG kM dJ dt
theorem mq (xs:List AV) (h:gn.EY [F9,Ga] xs):bm Tryz.prog 3 xs (fun r=>r= .bool true):=by
 obtain ⟨u0,xs,rfl,h0,h⟩:=zB h;obtain ⟨u1,xs,rfl,h1,h⟩:=zB h;obtain rfl:=Kj h;obtain ⟨d,e0⟩:=NP h0;obtain ⟨a,e1⟩:=NQ h1;rw [e0,e1];exact CK d a
set_option maxRecDepth 100000 in
theorem ld (os:Os) (started:os.Started) (H:Type) (enc:TypeId×Value→H) :
 ReturnsInHanded {} Tryz.checked os 3 .any (Rows.plannerCheckMatchesSpecSpec.pre6 enc Tryz.prog Tryz.f3 Rows.plannerCheckMatchesSpecRow.domain false) (Rows.plannerCheckMatchesSpecSpec.post enc Tryz.prog Tryz.f3 false true false false):=by
 refine returnsInHanded_of_change_sized (C:=Tryz.checked) NR started ai Tryz.func3
  (ChangeSpec.witness6 (enc:=enc) (C:=Tryz.checked) false ⟨#[],#[.agg #[.slice none 0 0,.slice none 0 0,.slice none 0 0,.slice none 0 0,.slice none 0 0,.slice none 0 0],.agg #[.bool false,.slice none 0 0,.int .i64 0,.slice none 0 0,.slice none 0 0]],[]⟩ 8 ai ai ai ai) ?_
 intro W base args ds gs before hval hW _ hsz _;exact Fp (shs:=[F9,Ga]) (tb:=4) Kk ai Tryz.underlying4 ai rfl (fun ds h=>by
  match ds,h with
  |[_,_],_=>rfl) mq hval hW hsz
theorem plannerCheckMatchesSpec_holds:Rows.PlannerCheckMatchesSpecSaid:=
 OpenClaim.holds_of_wide_leaving 3 Tryz.f3 rfl rfl rfl rfl rfl rfl rfl ⟨rfl,rfl,rfl,rfl,rfl⟩ rfl rfl rfl rfl rfl ai Tryz.func3 pFs
  (of_decide_eq_true ai) (by unfold Func.isWrapper;first|(rw [if_pos (by decide +kernel)];kernel_rfl)|(rw [if_neg (by decide +kernel)];exact ⟨rfl,rfl⟩))
  (fun os started H enc _=>uz (ld os started H enc))
end Go.Proofs.YtkbiagkbmodgdaaGreat
