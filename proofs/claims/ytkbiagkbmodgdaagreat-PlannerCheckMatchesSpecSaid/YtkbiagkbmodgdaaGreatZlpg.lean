/- Part of a proof. No condition. -/
import Derived.Test.YtkbiagkbmodgdaaGreatZph
import Derived.Conc.Holds
import Derived.KernelRfl
import Derived.ProofKit
import Derived.Test.YtkbiagkbmodgdaaGreatRows
import Derived.Test.YtkbiagkbmodgdaaGreatZgg
set_option linter.unusedSimpArgs false
set_option linter.unusedVariables false
namespace Go.Proofs.YtkbiagkbmodgdaaGreat
open Go
set_option maxRecDepth 100000
theorem pF0:(Rows.plannerCheckMatchesSpecRow.wf (OpenSpec.ofChange Rows.plannerCheckMatchesSpecSpec))=true:=by kernel_rfl
theorem pF1:(laidOutB Tryz.prog)=true:=by kernel_rfl
theorem pF2:(mapsRowed Tryz.prog)=true:=by kernel_rfl
theorem pF3:(Tryz.f3.params.all (Tryz.prog.readableRec ·))=true:=by kernel_rfl
theorem pF4:(namedTie Tryz.prog Rows.plannerCheckMatchesSpecRow.named Rows.plannerCheckMatchesSpecSpec.vars)=true:=by kernel_rfl
theorem pF5:((Rows.plannerCheckMatchesSpecRow.stops == []))=true:=by kernel_rfl
theorem pF6:((Tryz.prog.stops == []))=true:=by kernel_rfl
theorem pF7:((Rows.plannerCheckMatchesSpecRow.knobs == []))=true:=by kernel_rfl
theorem pF8:((Tryz.prog.stopKnobs == []))=true:=by kernel_rfl
theorem pF9:((Rows.plannerCheckMatchesSpecRow.inPlace == Tryz.prog.inPlace 3))=true:=by kernel_rfl
theorem pF10:((Rows.plannerCheckMatchesSpecRow.unfollowed == Tryz.prog.unfollowed 3))=true:=by kernel_rfl
theorem pF11:((Rows.plannerCheckMatchesSpecRow.recurses == Tryz.prog.recurses 3))=true:=by kernel_rfl
theorem pF12:((Rows.plannerCheckMatchesSpecRow.named == Tryz.prog.varsNamed 3))=true:=by kernel_rfl
theorem pF13:((Rows.plannerCheckMatchesSpecRow.maps == (Tryz.f3.params.toList++Rows.plannerCheckMatchesSpecSpec.plain.varTypes Tryz.prog).any (Tryz.prog.mapsRec ·)))=true:=by kernel_rfl
theorem pF14:((Rows.plannerCheckMatchesSpecRow.ifaces == (Tryz.f3.params.toList++Rows.plannerCheckMatchesSpecSpec.plain.varTypes Tryz.prog).any (Tryz.prog.ifacesRec ·)))=true:=by kernel_rfl
theorem pF15:((Rows.plannerCheckMatchesSpecRow.mapsOut == Tryz.prog.mapsAmong Tryz.f3.resultTypes.toList))=true:=by kernel_rfl
theorem pF16:((Rows.plannerCheckMatchesSpecRow.loops == (Tryz.f3.params.toList++Rows.plannerCheckMatchesSpecSpec.plain.varTypes Tryz.prog).any (Tryz.prog.loopsFrom ·)))=true:=by kernel_rfl
theorem pF17:((Rows.plannerCheckMatchesSpecRow.wideKeys == (Tryz.f3.params.toList++Rows.plannerCheckMatchesSpecSpec.plain.varTypes Tryz.prog++Tryz.f3.resultTypes.toList).any (Tryz.prog.wideKeysFrom ·)))=true:=by kernel_rfl
theorem pF18:(Rows.plannerCheckMatchesSpecSpec.vars.all (Tryz.prog.varReadable ·))=true:=by kernel_rfl
theorem pF19:(Tryz.f3.resultTypes.all (fun t=>Tryz.prog.readableRec t&&decide (t < Tryz.prog.types.size)))=true:=by kernel_rfl
theorem pF20:((Rows.plannerCheckMatchesSpecRow.ifacesOut == Tryz.f3.resultTypes.toList.any (Tryz.prog.ifacesRec ·)))=true:=by kernel_rfl
theorem pF21:((Rows.plannerCheckMatchesSpecRow.loopsOut == Tryz.f3.resultTypes.toList.any (Tryz.prog.loopsFrom ·)))=true:=by kernel_rfl
theorem pF22:((Rows.plannerCheckMatchesSpecRow.plainKeys == Tryz.prog.plainKeys))=true:=by kernel_rfl
theorem pF23:(Rows.plannerCheckMatchesSpecRow.shortTexts.isNone)=true:=by kernel_rfl
theorem pF24:(Tryz.prog.stopsHeard)=true:=by kernel_rfl
theorem pF25:(Tryz.prog.mayEnter)=true:=by kernel_rfl
theorem pF26:((Rows.plannerCheckMatchesSpecRow.lifted == Tryz.prog.liftsFinal))=true:=by kernel_rfl
theorem pF27:((Tryz.prog.make == some Rows.plannerCheckMatchesSpecRow.make))=true:=by kernel_rfl
theorem pF28 (X:List (Option IntKind)):(Rows.plannerCheckMatchesSpecRow.kinds == (if Rows.plannerCheckMatchesSpecRow.domain.isEmpty=true then [] else X))=true:=rfl
theorem pF29:((Rows.plannerCheckMatchesSpecRow.pinned == Rows.plannerCheckMatchesSpecRow.pinnedBy))=true:=by kernel_rfl
theorem pF30:((Rows.plannerCheckMatchesSpecRow.veiled == (Tryz.f3.params.toList++Rows.plannerCheckMatchesSpecSpec.plain.varTypes Tryz.prog++Tryz.f3.resultTypes.toList).any (Tryz.prog.veiledRec ·)))=true:=by kernel_rfl
theorem pF31:(Rows.plannerCheckMatchesSpecRow.veiledFits Tryz.prog Tryz.f3.params.toList (Tryz.f3.params.toList++Rows.plannerCheckMatchesSpecSpec.plain.varTypes Tryz.prog++Tryz.f3.resultTypes.toList))=true:=by kernel_rfl
theorem pFs:joinedFacts Tryz.prog 3 Tryz.f3 Rows.plannerCheckMatchesSpecSpec Rows.plannerCheckMatchesSpecRow=true:=by
 unfold joinedFacts;rw [pF0,pF1,pF2,pF3,pF4,pF5,pF6,pF7,pF8,pF9,pF10,pF11,pF12,pF13,pF14,pF15,pF16,pF17,pF18,pF19,pF20,pF21,pF22,pF23,pF24,pF25,pF26,pF27,pF28,pF29,pF30,pF31];rfl
end Go.Proofs.YtkbiagkbmodgdaaGreat
