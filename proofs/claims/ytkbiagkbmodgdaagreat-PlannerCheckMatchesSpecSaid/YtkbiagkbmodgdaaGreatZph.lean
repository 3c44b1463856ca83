/- Part of a proof. No condition. -/
import Derived.Test.YtkbiagkbmodgdaaGreatZgg
set_option linter.unusedVariables false
namespace Go.Ab
open Go
variable {P Q:Prop}
theorem VY (q:Q) (h:Hid Q→P:=by intro g1;refine aY (Le.refl _) (aX (aW aR)) ae ?_;exact g1.o):P:=h ⟨q⟩
theorem VZ (h:P:=by refine bK (Le.refl _) (aX (aW aR)) aq aR ah ⟨rfl,rfl⟩):P:=h
theorem V0 (q:Q) (h:Hid Q→P:=by intro g1;refine aY (Le.refl _) (aX (bn af)) ae ?_;exact g1.o):P:=h ⟨q⟩
theorem V1 (q:Q) (h:Hid Q→P:=by intro g1;refine DZ (.r 0 3 (.it 3 1 (.r 4 4 (.r 9 2 (.it 8 2 (.r 11 7 (.it 18 2 (.r 19 7 (.r 27 2 (.it 26 2 (.r 29 3 .nil))))))))))) [0,1,2,4,5,6,7,8,9,10,11,12,13,14,15,16,17,18,19,20,21,22,23,24,25,26,27,28,29,30,31] ?_;exact g1.o):P:=h ⟨q⟩
theorem V2 (q:Q) (h:Hid Q→P:=by intro g1;refine aY (Le.refl _) (du (bn af) (bn af)) ae ?_;exact g1.o):P:=h ⟨q⟩
theorem V3 (q:Q) (h:Hid Q→P:=by intro g1;refine dK (.r 0 3 (.it 3 1 (.r 4 4 (.it 8 2 (.r 9 7 (.it 16 2 (.r 17 13 (.it 30 2 (.r 31 3 .nil))))))))) ?_;exact g1.o):P:=h ⟨q⟩
theorem V4 (q:Q) (h:Hid Q→P:=by intro g1;refine aY (Le.refl _) (du (aW aR) (bn af)) ae ?_;exact g1.o):P:=h ⟨q⟩
theorem V5 (q:Q) (h:Hid Q→P:=by intro g1;refine dK (.r 0 5 (.it 5 1 (.r 6 5 .nil))) ?_;exact g1.o):P:=h ⟨q⟩
theorem V6 (q:Q) (h:Hid Q→P:=by intro g1;refine DZ (.r 0 7 (.it 7 1 (.r 8 15 (.r 26 5 (.it 23 2 (.it 24 2 (.it 25 0 (.r 31 2 .nil)))))))) [0,1,2,3,4,5,6,8,9,10,11,12,13,14,15,16,17,18,19,20,21,22,23,24,25,26,27,28,29,30,31,32] ?_;exact g1.o):P:=h ⟨q⟩
theorem V7 (q:Q) (h:Hid Q→P:=by intro g1;refine dK (.r 0 10 (.it 10 1 (.it 11 0 .nil))) ?_;exact g1.o):P:=h ⟨q⟩
theorem V8 (q:Q) (h:Hid Q→P:=by intro g1;refine aY (Le.refl _) (du (aW aR) (aW aR)) ae ?_;exact g1.o):P:=h ⟨q⟩
theorem V9 (q:Q) (h:Hid Q→P:=by intro g1;refine dK (.r 0 10 (.it 10 1 .nil)) ?_;exact g1.o):P:=h ⟨q⟩
theorem Wa (q:Q) (h:Hid Q→P:=by intro g1;refine dK (.r 0 7 (.it 7 1 (.r 8 9 (.it 17 2 (.r 18 13 (.it 31 2 (.r 32 2 .nil))))))) ?_;exact g1.o):P:=h ⟨q⟩
theorem Wb (q:Q) (h:Hid Q→P:=by intro g1;refine dK (.r 0 6 (.it 6 1 (.it 7 0 .nil))) ?_;exact g1.o):P:=h ⟨q⟩
theorem Wc (q:Q) (h:Hid Q→P:=by intro g1;refine dK (.r 0 7 (.r 8 2 (.it 7 1 (.it 10 0 .nil)))) ?_;exact g1.o):P:=h ⟨q⟩
theorem Wd (q:Q) (h:Hid Q→P:=by intro g1;refine cE (bR 5 rfl rfl rfl) ?_;exact g1.o):P:=h ⟨q⟩
theorem We (q:Q) (h:Hid Q→P:=by intro g1;refine bg (j3 _ _) ?_;exact g1.o):P:=h ⟨q⟩
theorem Wf (q:Q) (h:Hid Q→P:=by intro g1;refine DZ (.r 0 9 (.it 11 0 (.it 9 1 (.it 10 0 .nil)))) [0,1,2,3,4,5,6,7,8,10,11] ?_;exact g1.o):P:=h ⟨q⟩
theorem Wg (q:Q) (h:Hid Q→P:=by intro g1;refine dK (.r 0 14 (.it 14 2 (.r 15 2 .nil))) ?_;exact g1.o):P:=h ⟨q⟩
end Go.Ab
