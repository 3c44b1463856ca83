/- Part of a proof: of two right answers both have a plan, at one cost, or none. No condition. -/
import Derived.Conc.Holds
import Derived.KernelRfl
import Derived.ProofKit
import Derived.Test.YtkbiagkbmodgdaaGreatRows
set_option linter.unusedSimpArgs false
set_option linter.unusedVariables false
namespace Go.Proofs.YtkbiagkbmodgdaaGreat
open Go
set_option maxRecDepth 100000
theorem pF0:(Rows.plannerProofsDecideRow.wf (OpenSpec.ofChange Rows.plannerProofsDecideSpec))=true:=by kernel_rfl
theorem pF1:(laidOutB Tryz.prog)=true:=by kernel_rfl
theorem pF2:(mapsRowed Tryz.prog)=true:=by kernel_rfl
theorem pF3:(Tryz.f4.params.all (Tryz.prog.readableRec ·))=true:=by kernel_rfl
theorem pF4:(namedTie Tryz.prog Rows.plannerProofsDecideRow.named Rows.plannerProofsDecideSpec.vars)=true:=by kernel_rfl
theorem pF5:((Rows.plannerProofsDecideRow.stops == []))=true:=by kernel_rfl
theorem pF6:((Tryz.prog.stops == []))=true:=by kernel_rfl
theorem pF7:((Rows.plannerProofsDecideRow.knobs == []))=true:=by kernel_rfl
theorem pF8:((Tryz.prog.stopKnobs == []))=true:=by kernel_rfl
theorem pF9:((Rows.plannerProofsDecideRow.inPlace == Tryz.prog.inPlace 4))=true:=by kernel_rfl
theorem pF10:((Rows.plannerProofsDecideRow.unfollowed == Tryz.prog.unfollowed 4))=true:=by kernel_rfl
theorem pF11:((Rows.plannerProofsDecideRow.recurses == Tryz.prog.recurses 4))=true:=by kernel_rfl
theorem pF12:((Rows.plannerProofsDecideRow.named == Tryz.prog.varsNamed 4))=true:=by kernel_rfl
theorem pF13:((Rows.plannerProofsDecideRow.maps == (Tryz.f4.params.toList++Rows.plannerProofsDecideSpec.plain.varTypes Tryz.prog).any (Tryz.prog.mapsRec ·)))=true:=by kernel_rfl
theorem pF14:((Rows.plannerProofsDecideRow.ifaces == (Tryz.f4.params.toList++Rows.plannerProofsDecideSpec.plain.varTypes Tryz.prog).any (Tryz.prog.ifacesRec ·)))=true:=by kernel_rfl
theorem pF15:((Rows.plannerProofsDecideRow.mapsOut == Tryz.prog.mapsAmong Tryz.f4.resultTypes.toList))=true:=by kernel_rfl
theorem pF16:((Rows.plannerProofsDecideRow.loops == (Tryz.f4.params.toList++Rows.plannerProofsDecideSpec.plain.varTypes Tryz.prog).any (Tryz.prog.loopsFrom ·)))=true:=by kernel_rfl
theorem pF17:((Rows.plannerProofsDecideRow.wideKeys == (Tryz.f4.params.toList++Rows.plannerProofsDecideSpec.plain.varTypes Tryz.prog++Tryz.f4.resultTypes.toList).any (Tryz.prog.wideKeysFrom ·)))=true:=by kernel_rfl
theorem pF18:(Rows.plannerProofsDecideSpec.vars.all (Tryz.prog.varReadable ·))=true:=by kernel_rfl
theorem pF19:(Tryz.f4.resultTypes.all (fun t=>Tryz.prog.readableRec t&&decide (t < Tryz.prog.types.size)))=true:=by kernel_rfl
theorem pF20:((Rows.plannerProofsDecideRow.ifacesOut == Tryz.f4.resultTypes.toList.any (Tryz.prog.ifacesRec ·)))=true:=by kernel_rfl
theorem pF21:((Rows.plannerProofsDecideRow.loopsOut == Tryz.f4.resultTypes.toList.any (Tryz.prog.loopsFrom ·)))=true:=by kernel_rfl
theorem pF22:((Rows.plannerProofsDecideRow.plainKeys == Tryz.prog.plainKeys))=true:=by kernel_rfl
theorem pF23:(Rows.plannerProofsDecideRow.shortTexts.isNone)=true:=by kernel_rfl
theorem pF24:(Tryz.prog.stopsHeard)=true:=by kernel_rfl
theorem pF25:(Tryz.prog.mayEnter)=true:=by kernel_rfl
theorem pF26:((Rows.plannerProofsDecideRow.lifted == Tryz.prog.liftsFinal))=true:=by kernel_rfl
theorem pF27:((Tryz.prog.make == some Rows.plannerProofsDecideRow.make))=true:=by kernel_rfl
theorem pF28 (X:List (Option IntKind)):(Rows.plannerProofsDecideRow.kinds == (if Rows.plannerProofsDecideRow.domain.isEmpty=true then [] else X))=true:=rfl
theorem pF29:((Rows.plannerProofsDecideRow.pinned == Rows.plannerProofsDecideRow.pinnedBy))=true:=by kernel_rfl
theorem pF30:((Rows.plannerProofsDecideRow.veiled == (Tryz.f4.params.toList++Rows.plannerProofsDecideSpec.plain.varTypes Tryz.prog++Tryz.f4.resultTypes.toList).any (Tryz.prog.veiledRec ·)))=true:=by kernel_rfl
theorem pF31:(Rows.plannerProofsDecideRow.veiledFits Tryz.prog Tryz.f4.params.toList (Tryz.f4.params.toList++Rows.plannerProofsDecideSpec.plain.varTypes Tryz.prog++Tryz.f4.resultTypes.toList))=true:=by kernel_rfl
theorem pFs:joinedFacts Tryz.prog 4 Tryz.f4 Rows.plannerProofsDecideSpec Rows.plannerProofsDecideRow=true:=by
 unfold joinedFacts
 rw [pF0,pF1,pF2,pF3,pF4,pF5,pF6,pF7,pF8,pF9,pF10,pF11,pF12,pF13,pF14,pF15,pF16,pF17,pF18,pF19,pF20,pF21,pF22,pF23,pF24,pF25,pF26,pF27,pF28,pF29,pF30,pF31]
 rfl
end Go.Proofs.YtkbiagkbmodgdaaGreat
