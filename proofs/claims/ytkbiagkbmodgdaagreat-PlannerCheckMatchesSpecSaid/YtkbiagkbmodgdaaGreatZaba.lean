/- Part of a proof. No condition. -/
import Derived.Deep.AppendLies
import Derived.Great.BuildSlice
import Derived.Laws.Small
import Derived.Laws.StructEq
import Derived.Lib.SliceRun
import Derived.Maps.AppendAt
import Derived.Orders
import Derived.RangeFuncCalls
import Derived.RangeFuncLeaves
import Derived.RangeFuncRecord
import Derived.WalkKit
set_option linter.unusedSimpArgs false
set_option linter.unusedVariables false
namespace Go.Ab
theorem qa0:type_of% @List.getElem?_toArray:=@List.getElem?_toArray
theorem qa1:type_of% @Bool.and_eq_true:=@Bool.and_eq_true
theorem qa2:type_of% @List.length_map:=@List.length_map
theorem qa3:type_of% @List.length_append:=@List.length_append
theorem qa4:type_of% @List.getElem_mem:=@List.getElem_mem
theorem qa5:type_of% @List.take_succ_eq_append_getElem:=@List.take_succ_eq_append_getElem
theorem qa6:type_of% @Option.map_eq_some_iff:=@Option.map_eq_some_iff
theorem qa7:type_of% @List.getElem?_eq_getElem:=@List.getElem?_eq_getElem
theorem qa8:type_of% @Bool.false_eq_true:=@Bool.false_eq_true
theorem qa9:type_of% @List.getElem_of_mem:=@List.getElem_of_mem
theorem qb0:type_of% @Option.isSome_iff_exists:=@Option.isSome_iff_exists
theorem qb1:type_of% @Go.Result.andThen_ok:=@Go.Result.andThen_ok
theorem qb2:type_of% @List.getElem?_cons_succ:=@List.getElem?_cons_succ
theorem qb3:type_of% @Nat.le_refl:=@Nat.le_refl
theorem qb4:type_of% @List.length_singleton:=@List.length_singleton
theorem qb5:type_of% @List.map_append:=@List.map_append
theorem qb6:type_of% @Nat.eq_of_beq_eq_true:=@Nat.eq_of_beq_eq_true
theorem qb7:type_of% @Bool.not_eq_true':=@Bool.not_eq_true'
theorem qb8:type_of% @List.length_cons:=@List.length_cons
theorem qb9:type_of% @List.getElem?_cons_zero:=@List.getElem?_cons_zero
theorem qc0:type_of% @List.length_take:=@List.length_take
theorem qc1:type_of% @Bool.false_or:=@Bool.false_or
theorem qc2:type_of% @List.mem_cons:=@List.mem_cons
theorem qc3:type_of% @List.getElem?_take:=@List.getElem?_take
theorem qc4:type_of% @Nat.lt_or_ge:=@Nat.lt_or_ge
theorem qc5:type_of% @Bool.or_false:=@Bool.or_false
theorem qc6:type_of% @Nat.zero_le:=@Nat.zero_le
theorem qc7:type_of% @List.getElem?_append_right:=@List.getElem?_append_right
theorem qc8:type_of% @List.all_eq_true:=@List.all_eq_true
theorem qc9:type_of% @List.getElem?_map:=@List.getElem?_map
theorem qd0:type_of% @List.getElem?_drop:=@List.getElem?_drop
theorem qd1:type_of% @Array.getElem?_eq_getElem:=@Array.getElem?_eq_getElem
theorem qd2:type_of% @List.take_length:=@List.take_length
theorem qd3:type_of% @Nat.le_trans:=@Nat.le_trans
theorem qd4:type_of% @List.map_cons:=@List.map_cons
theorem qd5:type_of% @List.flatMap_cons:=@List.flatMap_cons
theorem qd6:type_of% @List.append_assoc:=@List.append_assoc
theorem qd7:type_of% @List.mem_singleton:=@List.mem_singleton
theorem qd8:type_of% @List.flatMap_append:=@List.flatMap_append
theorem qd9:type_of% @Option.some.injEq:=@Option.some.injEq
theorem qe0:type_of% @Bool.or_eq_true:=@Bool.or_eq_true
theorem qe1:type_of% @List.getElem?_append_left:=@List.getElem?_append_left
theorem qe2:type_of% @List.drop_eq_getElem_cons:=@List.drop_eq_getElem_cons
theorem qe3:type_of% @List.filterMap_cons:=@List.filterMap_cons
theorem qe4:type_of% @List.mem_append:=@List.mem_append
theorem qe5:type_of% @List.append_nil:=@List.append_nil
theorem qe6:type_of% @Nat.le_of_ble_eq_true:=@Nat.le_of_ble_eq_true
theorem qe7:type_of% @List.mem_map:=@List.mem_map
theorem qe8:type_of% @List.take_of_length_le:=@List.take_of_length_le
theorem qe9:type_of% @List.filterMap_nil:=@List.filterMap_nil
theorem qf0:type_of% @Bool.or_self:=@Bool.or_self
theorem qf1:type_of% @List.length_nil:=@List.length_nil
theorem qf2:type_of% @List.getElem?_of_mem:=@List.getElem?_of_mem
theorem qf3:type_of% @Option.getD_some:=@Option.getD_some
theorem qf4:type_of% @Bool.true_and:=@Bool.true_and
theorem qf5:type_of% @Array.toArray_toList:=@Array.toArray_toList
theorem qf6:type_of% @Array.getD_eq_getD_getElem?:=@Array.getD_eq_getD_getElem?
theorem qf7:type_of% @Bool.eq_iff_iff:=@Bool.eq_iff_iff
theorem qf8:type_of% @List.eq_nil_of_length_eq_zero:=@List.eq_nil_of_length_eq_zero
theorem qf9:type_of% @List.not_mem_nil:=@List.not_mem_nil
theorem qg0:type_of% @List.mem_of_getElem?:=@List.mem_of_getElem?
theorem qg1:type_of% @Decidable.not_not:=@Decidable.not_not
theorem qg2:type_of% @Option.map_some:=@Option.map_some
theorem qg3:type_of% @Int.toNat_of_nonneg:=@Int.toNat_of_nonneg
theorem qg4:type_of% @Array.getElem?_toList:=@Array.getElem?_toList
theorem qg5:type_of% @List.map_nil:=@List.map_nil
theorem qg6:type_of% @List.replicate_succ:=@List.replicate_succ
theorem qg7:type_of% @Bool.or_eq_false_iff:=@Bool.or_eq_false_iff
theorem qg8:type_of% @Prod.mk.injEq:=@Prod.mk.injEq
theorem qg9:type_of% @List.flatMap_map:=@List.flatMap_map
theorem qh0:type_of% @List.mem_flatMap:=@List.mem_flatMap
theorem qh1:type_of% @List.mem_filter:=@List.mem_filter
theorem qh2:type_of% @List.mem_range:=@List.mem_range
theorem qh3:type_of% @List.replicate_zero:=@List.replicate_zero
theorem qh4:type_of% @Array.getElem?_eq_none:=@Array.getElem?_eq_none
theorem qh5:type_of% @Nat.mul_le_mul_right:=@Nat.mul_le_mul_right
theorem qh6:type_of% @List.filter_append:=@List.filter_append
theorem qh7:type_of% @List.getD_eq_getElem?_getD:=@List.getD_eq_getElem?_getD
theorem qh8:type_of% @List.length_filter_le:=@List.length_filter_le
theorem qh9:type_of% @List.pairwise_iff_getElem:=@List.pairwise_iff_getElem
theorem qi0:type_of% @List.any_eq_true:=@List.any_eq_true
theorem qi1:type_of% @Option.none_or:=@Option.none_or
theorem qi2:type_of% @List.getElem?_set:=@List.getElem?_set
theorem qi3:type_of% @List.drop_length:=@List.drop_length
theorem qi4:type_of% @Nat.lt_of_lt_of_le:=@Nat.lt_of_lt_of_le
theorem qi5:type_of% @Array.length_toList:=@Array.length_toList
theorem qi6:type_of% @List.any_eq_false:=@List.any_eq_false
theorem qi7:type_of% @Bool.true_or:=@Bool.true_or
theorem qi8:type_of% @List.cons_append:=@List.cons_append
theorem qi9:type_of% @Nat.succ_mul:=@Nat.succ_mul
theorem qj0:type_of% @List.get_eq_getElem:=@List.get_eq_getElem
theorem qj1:type_of% @List.contains_iff_mem:=@List.contains_iff_mem
theorem qj2:type_of% @Bool.and_eq_false_iff:=@Bool.and_eq_false_iff
theorem qj3:type_of% @List.getElem?_eq_none:=@List.getElem?_eq_none
theorem qj4:type_of% @Nat.eq_zero_or_pos:=@Nat.eq_zero_or_pos
theorem qj5:type_of% @Bool.not_eq_false':=@Bool.not_eq_false'
theorem qj6:type_of% @List.mem_iff_getElem:=@List.mem_iff_getElem
theorem qj7:type_of% @Bool.not_eq_true:=@Bool.not_eq_true
theorem qj8:type_of% @List.getElem_map:=@List.getElem_map
theorem qj9:type_of% @Nat.add_mul:=@Nat.add_mul
theorem qk0:type_of% @List.nil_append:=@List.nil_append
theorem qk1:type_of% @List.length_set:=@List.length_set
theorem qk2:type_of% @List.getElem?_eq_some_iff:=@List.getElem?_eq_some_iff
theorem qk3:type_of% @List.take_append_drop:=@List.take_append_drop
theorem qk4:type_of% @Bool.true_eq_false:=@Bool.true_eq_false
theorem qk5:type_of% @List.pairwise_cons:=@List.pairwise_cons
theorem qk6:type_of% @Nat.blt_eq:=@Nat.blt_eq
theorem qk7:type_of% @Nat.pow_le_pow_right:=@Nat.pow_le_pow_right
theorem qk8:type_of% @List.mem_cons_of_mem:=@List.mem_cons_of_mem
theorem qk9:type_of% @List.getElem?_replicate:=@List.getElem?_replicate
theorem ql0:type_of% @Int.toNat_natCast:=@Int.toNat_natCast
theorem ql1:type_of% @Option.some.inj:=@Option.some.inj
theorem ql2:type_of% @Nat.mul_le_mul_left:=@Nat.mul_le_mul_left
theorem ql3:type_of% @Nat.testBit_two_pow:=@Nat.testBit_two_pow
theorem ql4:type_of% @Nat.zero_add:=@Nat.zero_add
theorem ql5:type_of% @List.getElem_zip:=@List.getElem_zip
theorem ql6:type_of% @Nat.testBit_or:=@Nat.testBit_or
theorem ql7:type_of% @Bool.false_ne_true:=@Bool.false_ne_true
theorem ql8:type_of% @Option.map_none:=@Option.map_none
theorem ql9:type_of% @Bool.or_true:=@Bool.or_true
theorem qm0:type_of% @Nat.sub_self:=@Nat.sub_self
theorem qm1:type_of% @Bool.false_and:=@Bool.false_and
end Go.Ab
namespace Go.Ab
variable {p:Prop}
theorem aR (h:p:=by rfl):p:=h
theorem ab (h:p:=by first|exact jX (tc aR aR aR aR) aR|exact jX (td aR aR aR) aR|exact jX (xh aR aR aR (by first|decide|(simp;done)|(simp;omega))) aR|exact jX (rb aR aR (by first|decide|(simp;done)|(simp;omega))) aR):p:=h
theorem ae (h:p:=by first|rfl|(simp only [go_sem,seval])):p:=h
theorem af (h:p:=by first|exact tc aR aR aR aR|exact xh aR aR aR (by first|decide|simp)):p:=h
theorem ah (h:p:=by first|rfl|(simp only [go_sem,seval,dy,bl];done)):p:=h
theorem ai (h:p:=by kernel_rfl):p:=h
theorem aj (h:p:=by first|exact jX (cf aR aR (by first|decide|(simp;done)|(simp;omega))) aR|exact jX (cQ aR aR (by first|decide|(simp;done)|(simp;omega))) aR):p:=h
theorem ak (h:p:=by omega):p:=h
theorem al (h:p:=by first|rfl|(simp only [go_sem,seval];done)|(simp only [go_sem,seval];rfl)|(simp [St.free,cz,AV.bz,AV.cq])):p:=h
theorem ao (h:p:=by (try simp only [go_sem,seval,dy,bl]);exact rfl):p:=h
theorem aq (h:p:=by (repeat refine xu aR ?_);exact fR _):p:=h
theorem au (h:p:=by (repeat (first|exact Nb|refine Jq aR ?_))):p:=h
theorem aw (h:p:=by first|trivial|rfl|omega|(unfold yK;omega)|(simp;done)|(simp;omega)):p:=h
theorem ax (h:p:=by first|exact jX (vF aR) aR|exact jX (th aR) aR|exact jX (tj aR) aR):p:=h
theorem ay (h:p:=by simp only [go_sem,seval,dy,bl];exact rfl):p:=h
theorem az (h:p:=by first|decide|(simp;done)|(simp;omega)):p:=h
theorem aA (h:p:=by repeat (first|exact all_nil|refine all_cons aR ?_)):p:=h
theorem aB (h:p:=by decide):p:=h
theorem aC (h:p:=by simp):p:=h
theorem aD (h:p:=by simp only [wu,kg,qa0,qb9,qb2,Option.bind_some,qf3,List.set_cons_zero,List.set_cons_succ,qb8,qf1,Nat.reduceAdd,ql4];exact rfl):p:=h
theorem aE (h:p:=by assumption):p:=h
theorem aG (h:p:=by first|exact jX (jh) aR):p:=h
theorem aH (h:p:=by first|rfl|omega|(simp;done)|(simp;omega)):p:=h
theorem aI (h:p:=by (repeat refine ia aR (by first|rfl|(simp)) ?_);exact fR _):p:=h
theorem aJ (h:p:=by exact ⟨by decide,by decide,by decide⟩):p:=h
theorem aL (h:p:=by first|omega|(simp only [ql0,qa2];omega)):p:=h
theorem aM (h:p:=by first|trivial|decide|(simp;done)|omega):p:=h
theorem aN (h:p:=by first|rfl|simp):p:=h
theorem aO (h:p:=by simp;omega):p:=h
theorem aP (h:p:=by first|rfl|assumption|simp):p:=h
theorem aQ (h:p:=by simp only;omega):p:=h
theorem aS (h:p:=by first|rfl|(simp)):p:=h
theorem aT (h:p:=by simp [c9.set]):p:=h
theorem aU (h:p:=by simp only [go_sem,seval,dy,bl];first|done|rfl):p:=h
theorem aV (h:p:=by first|rfl|(first|rfl|simp)):p:=h
end Go.Ab
namespace Go.Ab
@[go_sem] theorem VS:(decide True=true)∧(decide False=false):=⟨rfl,rfl⟩
theorem dy:(∀ a:Bool,(a|| a)=a)∧(∀ a:Bool,(a|| true)=true)∧(∀ a:Bool,(true|| a)=true)∧(∀ a:Bool,(a|| false)=a)∧(∀ a:Bool,(false|| a)=a)∧(∀ a:Bool,(a&&true)=a)∧(∀ a:Bool,(true&&a)=a)∧(∀ a:Bool,(a&&false)=false)∧(∀ a:Bool,(false&&a)=false)∧(∀ a:Bool,(a&&a)=a)∧((!true)=false)∧((!false)=true)∧(∀ (α:Type) (a:α) (l m:List α),(a::l)++m=a::(l++m))∧(∀ (α:Type) (l:List α),[]++l=l)∧(∀ (α:Type) (l:List α),l++[]=l)∧(∀ (α:Type) (d:Decidable True) (a b:α),@ite α True d a b=a)∧(∀ (α:Type) (d:Decidable False) (a b:α),@ite α False d a b=b)∧((false=true)=False):=by
 refine ⟨?_,?_,?_,?_,?_,?_,?_,?_,?_,?_,rfl,rfl,?_,?_,?_,?_,?_,?_⟩<;>intros<;>simp
end Go.Ab
namespace Go.Ab
open Go.RowKit
structure cF where
 ps:Array Tmp
 assign:Code
 body:Code
 mp:Bool:=false
def wv:cF:={ps:=#[],assign:=.skip,body:=.skip,mp:=true}
inductive AV where
 |any
 |v (x:Value)
 |agg (cs:List AV)
 |dC (cs:List AV)
 |cD (sz bw:Nat) (es:List AV)
 |bC (cs:List AV)
 |ptr (id off:Nat)
 |sl (sz bw id off n:Nat)
 |fn (f:FuncId) (caps:List AV)
 |yl (id:Nat) (y:cF)
 deriving Inhabited
namespace AV
abbrev int (n:Int):AV:=.v (.int .i64 n)
abbrev bool (b:Bool):AV:=.v (.bool b)
abbrev fO:AV:=.v (.slice none 0 0)
def cells:AV→List AV
 | .agg cs=>cs
 |x=>[x]
def dY:Value→AV
 | .agg cs=>.agg (cs.toList.map AV.v)
 |x=>.v x
mutual
def cq (id:Nat):AV→Bool
 | .ptr i _=>i == id
 | .sl _ _ i _ _=>i == id
 | .yl i _=>i == id
 | .agg cs=>bz id cs
 | .dC cs=>bz id cs
 | .fn _ cs=>bz id cs
 | .any=>false
 | .v _=>false
 | .cD _ _ _=>false
 | .bC _=>false
def bz (id:Nat):List AV→Bool
 |[]=>false
 |x::r=>cq id x|| bz id r
end
def one:AV→Bool
 | .v x=>x.oneCell'
 | .cD _ _ _=>true
 | .bC _=>true
 | .ptr _ _=>true
 | .sl _ _ _ _ _=>true
 | .fn _ _=>true
 | .yl _ _=>true
 | .any=>false
 | .agg _=>false
 | .dC _=>false
end AV
inductive BK where
 |no
 |nil
 |at (b tot:Nat)
 |gh (o:Option (Nat×cF))
abbrev c9:=Nat→BK
abbrev bI:=Nat→Option Obj
def na:c9:=fun _=>.no
def c9.set (β:c9) (id:Nat) (k:BK):c9:=fun i=>if i=id then k else β i
def ep (G:bI) (a:Addr):Option Value:=
 match G a.block with
 |some (.cells c _ _)=>if a.spot.isSome then none else c[a.off]?
 |_=>none
def reach:Nat:=140737488355328
def Jr (y:cF) (l:Nat):Value:=if y.mp then .map (some l) else .func (.yield l) #[] #[]
inductive Conc (G:bI):c9→AV→Value→Prop where
 |any {β x}:Conc G β .any x
 |v {β x}:Conc G β (.v x) x
 |agg {β cs} (xs:List Value) (hl:cs.length=xs.length)
  (hs:∀ (j:Nat) x y,cs[j]?=some x→xs[j]?=some y→Conc G β x y):Conc G β (.agg cs) (.agg xs.toArray)
 |dC {β cs} (xs:List Value) (hl:cs.length=xs.length)
  (hs:∀ (j:Nat) x y,cs[j]?=some x→xs[j]?=some y→Conc G β x y):Conc G β (.dC cs) (.tuple xs.toArray)
 |fn {β f cs} (xs:List Value) (hf:f≤999999999) (hl:cs.length=xs.length)
  (hs:∀ (j:Nat) x y,cs[j]?=some x→xs[j]?=some y→Conc G β x y):Conc G β (.fn f cs) (.func (.func f) #[] xs.toArray)
 |sZ {β T x v} (h:Conc G β x v):Conc G β (.fn (1000000000+T) [x]) (.iface T v)
 |ptr {β id off b t} (h:β id= .at b t):Conc G β (.ptr id off) (.pointer (some ⟨b,off,none⟩))
 |yl {β id y l} (h:β id= .gh (some (l,y))):Conc G β (.yl id y) (Jr y l)
 |lU {β sz bw id} (h:β id= .nil):Conc G β (.sl sz bw id 0 0) (.slice none 0 0)
 |sl {β sz bw id off n c b t} (h:β id= .at b t) (hn:n≤c) (ht:off+c * sz=t) (hm:c≤maxLen) (hb:n * bw≤reach) :
  Conc G β (.sl sz bw id off n) (.slice (some ⟨b,off,none⟩) n c)
 |cD {β sz bw es A c} (ys:List Value) (hu:∀ e∈es,e.cells.length=sz) (hl:ys.length=es.length * sz)
  (hc:es.length≤c) (hb:es.length * bw≤reach) (hA:0 < es.length→A≠none)
  (hr:∀ (j:Nat) y,ys[j]?=some y→∃ a,A=some a∧ep G (a.add j)=some y)
  (hs:∀ (j:Nat) x y,(es.flatMap AV.cells)[j]?=some x→ys[j]?=some y→Conc G na x y) :
  Conc G β (.cD sz bw es) (.slice A es.length c)
 |bC {β cs a} (ys:List Value) (hl:ys.length=cs.length)
  (hr:∀ (j:Nat) y,ys[j]?=some y→ep G (a.add j)=some y)
  (hs:∀ (j:Nat) x y,cs[j]?=some x→ys[j]?=some y→Conc G na x y):Conc G β (.bC cs) (.pointer (some a))
theorem eb {id:Nat}:∀ {cs:List AV} {j:Nat} {x:AV},AV.bz id cs=false→cs[j]?=some x→AV.cq id x=false
 |[],_,_,_,h=>by simp at h
 |c::cs,0,x,h,hx=>by simp at hx;subst hx;simp [AV.bz] at h;exact h.1
 |c::cs,j+1,x,h,hx=>by simp at hx;simp [AV.bz] at h;exact eb h.2 hx
variable {G G':bI} {y:Value}
theorem jO (hG:∀ b o,G b=some o→G' b=some o) {a:Addr} (h:ep G a=some y):ep G' a=some y:=by
 unfold ep at *;cases hg:G a.block with
 |none=>rw [hg] at h;cases h
 |some o=>rw [hg] at h;rw [hG _ _ hg];exact h
variable {β β':c9} {x:AV}
theorem Conc.yQ (h:Conc G β x y)
 (hβ:∀ id,AV.cq id x=true→β' id=β id) (hG:∀ a y,ep G a=some y→ep G' a=some y):Conc G' β' x y:=by
 induction h generalizing β' with
 |any=>exact .any
 |v=>exact .v
 |agg xs hl _ ih=>
  refine .agg xs hl fun j x y hx hy=>ih j x y hx hy (fun id hm=>hβ id ?_);simp only [AV.cq];cases hq:AV.bz id _ with
  |true=>rfl
  |false=>rw [eb hq hx] at hm;cases hm
 |dC xs hl _ ih=>
  refine .dC xs hl fun j x y hx hy=>ih j x y hx hy (fun id hm=>hβ id ?_);simp only [AV.cq];cases hq:AV.bz id _ with
  |true=>rfl
  |false=>rw [eb hq hx] at hm;cases hm
 |fn xs hf hl _ ih=>
  refine .fn xs hf hl fun j x y hx hy=>ih j x y hx hy (fun id hm=>hβ id ?_);simp only [AV.cq];cases hq:AV.bz id _ with
  |true=>rfl
  |false=>rw [eb hq hx] at hm;cases hm
 |sZ _ ih=>exact .sZ (ih (fun id hm=>hβ id (by simp [AV.cq,AV.bz,hm])))
 |ptr h=>exact .ptr (by rw [hβ _ (by simp [AV.cq])];exact h)
 |lU h=>exact .lU (by rw [hβ _ (by simp [AV.cq])];exact h)
 |yl h=>exact .yl (by rw [hβ _ (by simp [AV.cq])];exact h)
 |sl h hn ht hm hb=>exact .sl (by rw [hβ _ (by simp [AV.cq])];exact h) hn ht hm hb
 |cD ys hu hl hc hb hA hr hs ih=>
  exact .cD ys hu hl hc hb hA (fun j y hy=>let ⟨a,ha,hg⟩:=hr j y hy;⟨a,ha,hG _ _ hg⟩)
   (fun j x y hx hy=>ih j x y hx hy (fun _ _=>rfl))
 |bC ys hl hr hs ih=>
  exact .bC ys hl (fun j y hy=>hG _ _ (hr j y hy)) (fun j x y hx hy=>ih j x y hx hy (fun _ _=>rfl))
theorem Conc.ext (h:Conc G β x y)
 (hβ:∀ id,AV.cq id x=true→β' id=β id) (hG:∀ b o,G b=some o→G' b=some o):Conc G' β' x y:=h.yQ hβ fun _ _ h=>jO hG h
theorem Conc.mono (h:Conc G β x y) (hG:∀ b o,G b=some o→G' b=some o):Conc G' β x y:=
 h.ext (fun _ _=>rfl) hG
theorem Conc.free (h:Conc G na x y):∀ β':c9,Conc G β' x y:=by
 have key:∀ {β x y},Conc G β x y→(∀ id,β id= .no)→∀ β':c9,Conc G β' x y:=by
  intro β x y h
  induction h with
  |any=>intro _ _;exact .any
  |v=>intro _ _;exact .v
  |agg xs hl _ ih=>intro hn β';exact .agg xs hl fun j x y hx hy=>ih j x y hx hy hn β'
  |dC xs hl _ ih=>intro hn β';exact .dC xs hl fun j x y hx hy=>ih j x y hx hy hn β'
  |fn xs hf hl _ ih=>intro hn β';exact .fn xs hf hl fun j x y hx hy=>ih j x y hx hy hn β'
  |sZ _ ih=>intro hn β';exact .sZ (ih hn β')
  |ptr h=>intro hn;rw [hn] at h;cases h
  |lU h=>intro hn;rw [hn] at h;cases h
  |yl h=>intro hn;rw [hn] at h;cases h
  |sl h=>intro hn;rw [hn] at h;cases h
  |cD ys hu hl hc hb hA hr hs _=>intro _ β';exact .cD ys hu hl hc hb hA hr hs
  |bC ys hl hr hs _=>intro _ β';exact .bC ys hl hr hs
 exact key h (fun _=>rfl)
theorem Conc.one (h:Conc G β x y) (h1:x.one=true):y.oneCell'=true:=by
 cases h with
 |@yl _ _ y l _=>unfold Jr;split<;>rfl
 |_=>simp_all [AV.one,Value.oneCell']
structure iB where
 T:TypeId
 cs:List AV
 full:Bool
abbrev Hp:=List (Nat×iB)
def bp:Hp→Nat→Option iB
 |[],_=>none
 |(i,b)::r,k=>if i=k then some b else bp r k
def cP:Hp→Nat→iB→Hp
 |[],k,x=>[(k,x)]
 |(i,b)::r,k,x=>if i=k then (i,x)::r else (i,b)::cP r k x
def fg:Hp→Nat→Hp
 |[],_=>[]
 |(i,b)::r,k=>if i=k then fg r k else (i,b)::fg r k
theorem cO (hp:Hp) (k:Nat) (x:iB) (i:Nat):bp (cP hp k x) i=if k=i then some x else bp hp i:=by
 induction hp with
 |nil=>simp [cP,bp]
 |cons p r ih=>
  obtain ⟨j,b⟩:=p;by_cases hjk:j=k
  ·subst hjk
   simp only [cP,if_true,bp];split<;>rfl
  simp only [cP,hjk,if_false,bp,ih];by_cases hji:j=i
  ·subst hji;simp [Ne.symm hjk]
  simp [hji]
theorem jj (hp:Hp) (k i:Nat):bp (fg hp k) i=if k=i then none else bp hp i:=by
 induction hp with
 |nil=>simp [fg,bp]
 |cons p r ih=>
  obtain ⟨j,b⟩:=p;by_cases hjk:j=k
  ·subst hjk
   simp only [fg,if_true,ih,bp];split<;>rfl
  simp only [fg,hjk,if_false,bp,ih];by_cases hji:j=i
  ·subst hji;simp [Ne.symm hjk]
  simp [hji]
structure St where
 fr:List AV
 hp:Hp
def St.put (s:St) (d:Option Nat) (x:AV):St:=
 match d with
 |some d=>{s with fr:=s.fr.set d x}
 |none=>s
def Uw (f:FuncId):AV:=if f≤999999999 then .fn f [] else .any
theorem An {f:FuncId} (h:f≤999999999):Uw f= .fn f []:=if_pos h
def St.eval (s:St):Operand→AV
 | .tmp t=>s.fr.getD t .any
 | .const x=>.dY x
 | .global _=>.any
 | .func f=>Uw f
def cz (id:Nat):Hp→Bool
 |[]=>false
 |(i,b)::r=>i == id|| AV.bz id b.cs|| cz id r
def St.free (s:St) (id:Nat):Bool:=decide (id≤999999999)&&!(AV.bz id s.fr|| cz id s.hp)
structure nb where
 f:Nat→Option (Nat×Nat×cF)
 inj:∀ (i j l D D':Nat) (y y':cF),f i=some (l,D,y)→f j=some (l,D',y')→i=j
instance:CoeFun nb fun _=>Nat→Option (Nat×Nat×cF):=⟨nb.f⟩
def nb.no:nb:=⟨fun _=>none,fun _ _ _ _ _ _ _ h=>by cases h⟩
structure Rg where
 w0:World
 ex:Nat→Prop
 g0:bI
 out:Nat→Option (List Value)
 lp:nb
structure vH (R:Rg) (w:World):Prop where
 os:w.os=R.w0.os
 tape:w.tape=R.w0.tape
 output:w.output=R.w0.output
 size:R.w0.heap.size≤w.heap.size
 block:∀ k,k < R.w0.heap.size→¬R.ex k→w.heap[k]?=R.w0.heap[k]?
def QE:Nat→LoopState
 |0=>.ready
 |1=>.busy
 |_=>.done
def Ux:Nat→Option Code
 |0=>none
 |1=>none
 |2=>some .ret
 |k+3=>some (.exit k)
def cF.loop (y:cF) (f:FuncId) (T:Nat) (outs:List Value) (D:Nat):Loop:={state:=QE T,pending:=Ux T,fn:=f,tmps:=outs.toArray,params:=y.ps,assign:=y.assign,body:=y.body,defers:=D}
def Eh (R:Rg) (G:bI) (id:Nat) (T:Nat) (outs:List Value):Option (Nat×cF)→Prop
 |none=>T=0
 |some (l,y)=>1≤T∧y.mp=false∧∃ D f,R.lp id=some (l,D,y)∧D < R.w0.heap.size∧l < R.w0.heap.size∧R.ex l∧G l=some (.loop (y.loop f (T - 1) outs D))∧G D=some (.deferred (some []))
variable {R:Rg} {id T:Nat} {o:Option (Nat×cF)}
theorem Eh.mono {outs:List Value} (h:Eh R G id T outs o) (hG:∀ b x,G b=some x→G' b=some x):Eh R G' id T outs o:=by
 cases o with
 |none=>exact h
 |some p=>obtain ⟨h0,hp,D,f,h1,h4,h5,h6,h2,h3⟩:=h;exact ⟨h0,hp,D,f,h1,h4,h5,h6,hG _ _ h2,hG _ _ h3⟩
def B3 (es:Array MapEntry):List Value:=es.toList.flatMap fun e=>[e.key,e.val]
def VE (R:Rg) (β:c9) (G:bI) (id:Nat) (T:Nat) (fl:Bool) (cs:List AV) (o:Option (Nat×cF)):Prop:=
 ∃ outs,R.out id=some outs∧(fl=false∧1000000000≤T)∧Eh R G id (T - 1000000000) outs o∧cs.length=outs.length∧∀ (j:Nat) x y,cs[j]?=some x→outs[j]?=some y→Conc G β x y
def VF (R:Rg) (β:c9) (G:bI) (id:Nat) (T:Nat) (fl:Bool) (cs:List AV) (o:Option (Nat×cF)):Prop:=
 ∃ b es clock,o=some (b,wv)∧(fl=false∧T=1000000000∧2000000000≤id)∧(R.w0.heap.size≤b∨R.ex b)∧G b=some (.map es clock)∧cs.length=(B3 es).length∧∀ (j:Nat) x y,cs[j]?=some x→(B3 es)[j]?=some y→Conc G β x y
def vD (R:Rg) (β:c9) (G:bI) (id:Nat) (T:Nat) (fl:Bool) (cs:List AV) (o:Option (Nat×cF)):Prop:=VE R β G id T fl cs o∨VF R β G id T fl cs o
variable {fl:Bool} {cs:List AV}
theorem vD.R4 (h:vD R β G id T fl cs o):fl=false∧1000000000≤T:=by
 rcases h with ⟨_,_,h,_⟩|⟨_,_,_,_,⟨h1,h2,_⟩,_⟩
 ·exact h
 exact ⟨h1,by omega⟩
theorem vD.view (h:vD R β G id T fl cs o):
 ∃ outs:List Value,cs.length=outs.length∧(∀ (j:Nat) x y,cs[j]?=some x→outs[j]?=some y→Conc G β x y)∧
  ∀ (β':c9) (cs':List AV),cs'.length=outs.length→(∀ (j:Nat) x y,cs'[j]?=some x→outs[j]?=some y→Conc G β' x y)→vD R β' G id T fl cs' o:=by
 rcases h with ⟨outs,h0,h1,h2,h3,h4⟩|⟨b,es,clock,h0,h1,h2,h3,h4,h5⟩
 ·exact ⟨outs,h3,h4,fun β' cs' k1 k2=>.inl ⟨outs,h0,h1,h2,k1,k2⟩⟩
 exact ⟨B3 es,h4,h5,fun β' cs' k1 k2=>.inr ⟨b,es,clock,h0,h1,h2,h3,k1,k2⟩⟩
def bZ (R:Rg) (β:c9) (G:bI) (w:World) (id:Nat) (bk:iB):Prop:=
 match β id with
 | .no=>False
 | .nil=>bk.cs=[]∧bk.full=false
 | .at b tot=>G b=none∧(R.w0.heap.size≤b∨R.ex b)∧∃ arr:Array Value,w.heap[b]?=some (.cells arr bk.T (0,0))∧arr.size=tot∧bk.cs.length≤tot∧
  (bk.full=true→bk.cs.length=tot)∧∀ (j:Nat) x y,bk.cs[j]?=some x→arr[j]?=some y→Conc G β x y
 | .gh o=>vD R β G id bk.T bk.full bk.cs o
def MP (β:c9):Prop:=∀ id,(β id= .nil∨∃ b t,β id= .at b t)→id≤999999999
theorem MP.set (h:MP β) (k:BK) (hid:id≤999999999):MP (β.set id k):=fun i hi=>by
 by_cases he:i=id
 ·rw [he];exact hid
 simp only [c9.set,he,if_false] at hi;exact h i hi
theorem MP.gone (h:MP β):MP (β.set id .no):=fun i hi=>by
 by_cases he:i=id
 ·subst he;simp [c9.set] at hi
 simp only [c9.set,he,if_false] at hi;exact h i hi
theorem sX:MP na:=fun _ h=>by rcases h with h|⟨_,_,h⟩<;>cases h
def jw (β:c9) (hp:Hp):Prop:=∀ i j b y y',2000000000≤i→2000000000≤j→(bp hp i).isSome→(bp hp j).isSome→β i= .gh (some (b,y))→β j= .gh (some (b,y'))→i=j
theorem jw.nil:jw β []:=fun i j b y y' _ _ h=>by simp [bp] at h
variable {hp hp':Hp}
theorem jw.ext (h:jw β hp) (he:∀ i,2000000000≤i→(bp hp' i).isSome→(bp hp i).isSome∧β' i=β i):jw β' hp':=fun i j b y y' h1 h2 hi hj hbi hbj=>by
 obtain ⟨a1,a2⟩:=he i h1 hi;obtain ⟨c1,c2⟩:=he j h2 hj;exact h i j b y y' h1 h2 a1 c1 (by rw [← a2];exact hbi) (by rw [← c2];exact hbj)
theorem jw.sub (h:jw β hp) (he:∀ i,(bp hp' i).isSome→(bp hp i).isSome):jw β hp':=h.ext fun i _ hi=>⟨he i hi,rfl⟩
variable {bk:iB}
theorem jw.one:jw β [(id,bk)]:=fun i j b y y' _ _ hi hj _ _=>by
 simp only [bp] at hi hj;split at hi
 ·split at hj
  ·rename_i h1 h2;exact h1.symm.trans h2
  simp at hj
 simp at hi
theorem qx {i:Nat} (hk:(bp hp id).isSome) (h:(bp (cP hp id bk) i).isSome):(bp hp i).isSome:=by
 rw [cO] at h;split at h
 ·rename_i e;subst e;exact hk
 exact h
theorem jw.cP (h:jw β hp) (hk:(bp hp id).isSome):jw β (cP hp id bk):=h.sub fun _=>qx hk
theorem jw.Hn (h:jw β hp) (k:BK) (hid:id < 2000000000) (he:∀ i,i≠id→(bp hp' i).isSome→(bp hp i).isSome):jw (β.set id k) hp':=h.ext fun i h1 hi=>by
 have hne:i≠id:=by omega
 exact ⟨he i hne hi,by simp [c9.set,hne]⟩
theorem jw.PY (h:jw β hp) (k:BK) (hid:id < 2000000000):jw (β.set id k) (Go.Ab.cP hp id bk):=h.Hn k hid fun i hne hi=>by
 rw [cO,if_neg (Ne.symm hne)] at hi;exact hi
structure dx (R:Rg) (β:c9) (G:bI) (hp:Hp) (w:World):Prop where
 gs:∀ b o,G b=some o→w.heap[b]?=some o
 blk:∀ id bk,bp hp id=some bk→bZ R β G w id bk
 inj:∀ i j b t t',(bp hp i).isSome→(bp hp j).isSome→β i= .at b t→β j= .at b t'→i=j
 keeps:vH R w
 kH:∀ b,G b≠none→R.g0 b≠none∨R.w0.heap.size≤b∨R.ex b
 kL:MP β
 iC:jw β hp
def tv (n:Nat) (G:bI) (ds:List Deferred):Prop:=
 ∃ Ds:List Nat,ds=Ds.map (fun D=>{target:=.collected D,args:=#[]})∧Ds.Nodup∧∀ D∈Ds,n≤D∧G D=some (.deferred (some []))
variable {n:Nat}
theorem tv.mono {ds:List Deferred} (h:tv n G ds) (hG:∀ b x,G b=some x→G' b=some x):tv n G' ds:=
 let ⟨Ds,h1,h2,h3⟩:=h;⟨Ds,h1,h2,fun D hD=>⟨(h3 D hD).1,hG _ _ (h3 D hD).2⟩⟩
theorem uO:tv n G []:=⟨[],rfl,List.nodup_nil,fun _ h=>by cases h⟩
theorem qX (h:vD R β G id T fl cs o)
 (hG:∀ b x,G b=some x→G' b=some x) (f:AV→AV) (hc:∀ x∈cs,∀ y,Conc G β x y→Conc G' β' (f x) y) (cs':List AV) (hcs:cs'=cs.map f):vD R β' G' id T fl cs' o:=by
 subst hcs;have key:∀ outs:List Value,(∀ (j:Nat) x y,cs[j]?=some x→outs[j]?=some y→Conc G β x y)→∀ (j:Nat) x y,(cs.map f)[j]?=some x→outs[j]?=some y→Conc G' β' x y:=fun outs h4 j x y hx hy=>by
  rw [qc9,qa6] at hx;obtain ⟨x0,hx0,rfl⟩:=hx;exact hc x0 (qg0 hx0) y (h4 j x0 y hx0 hy)
 rcases h with ⟨outs,h0,h1,h2,h3,h4⟩|⟨b,es,clock,h0,h1,h2,h3,h4,h5⟩
 ·exact .inl ⟨outs,h0,h1,h2.mono hG,by rw [qa2];exact h3,key outs h4⟩
 exact .inr ⟨b,es,clock,h0,h1,h2,hG _ _ h3,by rw [qa2];exact h4,key _ h5⟩
theorem gA (h:vD R β G id T fl cs o)
 (hG:∀ b x,G b=some x→G' b=some x) (hc:∀ x∈cs,∀ y,Conc G β x y→Conc G' β' x y):vD R β' G' id T fl cs o:=
 qX h hG (fun x=>x) hc cs aC
open Classical in
noncomputable def iw (R:Rg):nb:=⟨fun i=>(R.lp i).filter fun p=>decide (p.1 < R.w0.heap.size)&&decide (p.2.1 < R.w0.heap.size)&&decide (R.ex p.1),fun i j l D D' y y' h h'=>by
 simp only [Option.filter_eq_some_iff] at h h';exact R.lp.inj i j l D D' y y' h.1 h'.1⟩
variable {w:World} {ex:Nat→Prop} {g:bI}
theorem FM (h:vD R β G id T fl cs o) (hw:R.w0.heap.size≤w.heap.size) (hx:∀ l y,o=some (l,y)→ex l):vD ⟨w,ex,g,R.out,iw R⟩ β G id T fl cs o:=by
 rcases h with ⟨outs,h0,h1,h2,h3⟩|⟨b,es,clock,h0,h1,h2,h3⟩
 ·refine .inl ⟨outs,h0,h1,?_,h3⟩
  cases o with
  |none=>exact h2
  |some p=>
   obtain ⟨k0,km,D,f,k1,k2,k3,k5,k4⟩:=h2;exact ⟨k0,km,D,f,by simp [iw,k1,k2,k3,k5],qi4 k2 hw,qi4 k3 hw,hx _ _ rfl,k4⟩
 exact .inr ⟨b,es,clock,h0,h1,.inr (hx _ _ h0),h3⟩
theorem wJ (h:vD ⟨w,ex,g,R.out,iw R⟩ β G id T fl cs o) (hw:R.w0.heap.size≤w.heap.size) (hx:∀ b,ex b→R.w0.heap.size≤b∨R.ex b):vD R β G id T fl cs o:=by
 rcases h with ⟨outs,h0,h1,h2,h3⟩|⟨b,es,clock,h0,h1,h2,h3⟩
 ·refine .inl ⟨outs,h0,h1,?_,h3⟩
  cases o with
  |none=>exact h2
  |some p=>
   obtain ⟨k0,km,D,f,k1,k2,k3,k5,k4⟩:=h2;simp only [iw,Option.filter_eq_some_iff,qa1,decide_eq_true_eq] at k1;exact ⟨k0,km,D,f,k1.1,k1.2.1.2,k1.2.1.1,k1.2.2,k4⟩
 refine .inr ⟨b,es,clock,h0,h1,?_,h3⟩;rcases h2 with h2|h2
 ·exact .inl (qd3 hw h2)
 exact hx b h2
structure fw (R:Rg) (β:c9) (G:bI) (s:St) (a:Act) (w:World):Prop where
 defers:tv R.w0.heap.size G a.defers
 size:a.tmps.size=s.fr.length
 fr:∀ (i:Nat) x y,s.fr[i]?=some x→a.tmps[i]?=some y→Conc G β x y
 hp:dx R β G s.hp w
variable {s:St} {a:Act}
theorem fw.eval (h:fw R β G s a w) (x:Operand):Conc G β (s.eval x) (a.eval x):=by
 cases x with
 |tmp t=>
  simp only [St.eval,Act.eval];by_cases ht:t < s.fr.length
  ·have h1:s.fr[t]?=some s.fr[t]:=qa7 ht
   have h2:a.tmps[t]?=some (a.tmps[t]'(by rw [h.size];exact ht)):=qd1 (by rw [h.size];exact ht);have:=h.fr t _ _ h1 h2;simp only [qh7,h1,qf3,qf6,h2];exact this
  simp only [qh7,qj3 (Nat.le_of_not_lt ht),Option.getD_none];exact .any
 |const x=>
  simp only [St.eval,Act.eval];cases x<;>simp only [AV.dY]<;>try exact .v
  case agg cs=>
   have:=Conc.agg (G:=G) (β:=β) (cs:=cs.toList.map AV.v) cs.toList aC (by
    intro j x y hx hy;simp only [qc9,hy,qg2,qd9] at hx;subst hx;exact .v)
   simpa using this
 |global g=>exact .any
 |func f=>
  simp only [St.eval,Act.eval,Uw];split
  ·rename_i hf
   have:=Conc.fn (G:=G) (β:=β) (f:=f) (cs:=[]) [] hf rfl aC;simpa using this
  exact .any
theorem fw.put (h:fw R β G s a w) (d:Option Nat) (hx:Conc G β x y):
 fw R β G (s.put d x) (a.put d y) w:=by
 cases d with
 |none=>exact h
 |some d=>
  refine ⟨h.defers,by simp [St.put,Act.put,h.size],?_,h.hp⟩;intro i x' y' hi hj;simp only [St.put,Act.put] at hi hj;rw [qi2] at hi;rw [Array.getElem?_setIfInBounds] at hj;by_cases hdi:d=i
  ·subst hdi
   simp only [if_true] at hi hj;split at hi<;>simp at hi;split at hj<;>simp at hj;subst hi;subst hj;exact hx
  simp only [hdi,if_false] at hi hj;exact h.fr i x' y' hi hj
end Go.Ab
namespace Go.Ab
open Go.RowKit
variable {P:Program}
class cT (P:Program) (t:TypeId) (d:outParam TypeDesc):Prop where
 ok:P.underlying t=some d
class dI (P:Program) (t:TypeId) (z:outParam Value) (size bytes:outParam Nat):Prop where
 ok:∃ i,P.info? t=some i∧i.zero=some z∧i.size=size∧i.bytes=bytes
def l8:TypeDesc→Bool
 | .struct _| .array _ _=>true
 |_=>false
variable {t:TypeId}
theorem dv {d:TypeDesc} (h:P.underlying t=some d) (w:World):(isAgg t).run P w= .ok (l8 d) w:=by
 unfold isAgg;rw [Sem.run_bind,run_underlying h w];cases d<;>simp [l8]
variable {z:Value} {n:Nat}
theorem eH {b:Nat} (h:dI P t z n b) (w:World):(sizeOf t).run P w= .ok n w:=by
 obtain ⟨i,hi,_,hs,_⟩:=h.ok;simp [sizeOf,typeInfo,hi,hs]
theorem pq {b:Nat} (h:dI P t z n b) (w:World):(zeroValue t).run P w= .ok z w:=by
 obtain ⟨i,hi,hz,_,_⟩:=h.ok;simp [zeroValue,typeInfo,hi,hz]
def RK (R:Rg) (K:St→Prop) (a:Act) (w:World):Prop:=∃ β G s,K s∧fw R β G s a w
def ff (P:Program) (o:Oper) (s:St) (K:St→Prop):Prop:=
 ∀ R β G a w Q,fw R β G s a w→o.wp P a w (RK R K) Q
def ew (P:Program) (all:Array Oper) (rest:List Oper) (s:St) (K:St→Prop):Prop:=
 ∀ R β G a w (Q:Exit→Act→World→Prop),(∀ a w,RK R K a w→Q .normal a w)→fw R β G s a w→wpList P all Q rest a w
variable {all:Array Oper} {s:St} {K:St→Prop}
theorem lr (h:K s):ew P all [] s K:=
 fun _ β G a w _ hQ hr=>hQ a w ⟨β,G,s,h,hr⟩
variable {o:Oper} {rest:List Oper}
theorem Ei (hg:o.guard=none)
 (h:ff P o s fun s'=>ew P all rest s' K):ew P all (o::rest) s K:=by
 intro R β G a w Q hQ hr;refine wpList_plain hg fun K' hK'=>?_;exact Oper.wp_mono (fun a' w' ⟨β',G',s',hs,hr'⟩=>hK' _ _ (hs R β' G' a' w' Q hQ hr')) (h R β G a w Q hr)
theorem cn (hg:o.guard=none)
 (h:∀ K':St→Prop,(∀ s',ew P all rest s' K→K' s')→ff P o s K'):ew P all (o::rest) s K:=
 Ei hg (h _ fun _ h=>h)
variable {d:Option Tmp} {op:Op} {ty:TypeId} {pos:String} {bF:Array Edge} {g:Option (Nat×Bool)}
theorem ff.M1 {g':Option (Nat×Bool)}
 (h:ff P ⟨d,op,ty,pos,bF,g⟩ s K):ff P ⟨d,op,ty,pos,bF,g'⟩ s K:=fun R β G a w Q hr=>h R β G a w Q hr
variable {G:bI} {β:c9} {b:Bool} {y:Value}
theorem jk (h:Conc G β (.bool b) y):y= .bool b:=by cases h;rfl
theorem dr {n:Int} (h:Conc G β (.int n) y):y= .int .i64 n:=by cases h;rfl
theorem fz {x:Value} (h:Conc G β (.v x) y):y=x:=by cases h;rfl
variable {j:Nat}
theorem xk {t:Nat} {c:Bool}
 (hg:o.guard=some (j,b)) (ht:(all[j]?).bind (·.dst)=some t) (hc:s.fr[t]?=some (.bool c))
 (hy:c=b→∀ K':St→Prop,(∀ s',ew P all rest s' K→K' s')→ff P o s K')
 (hn:c≠b→ew P all rest (s.put o.dst (.v undef)) K):ew P all (o::rest) s K:=by
 intro R β G a w Q hQ hr;have hlt:t < a.tmps.size:=by
  rw [hr.size];rcases qc4 t s.fr.length with h|h
  ·exact h
  rw [qj3 h] at hc;cases hc
 have hb:=jk (hr.fr t _ _ hc (qd1 hlt));have hyd:yielded all a.tmps j=some c:=by unfold yielded;rw [ht];simp [qd1 hlt,hb]
 refine wpList_step fun K' hK'=>?_;by_cases hcb:c=b
 ·have hw:Region.wanted o (yielded all a.tmps)=true:=by simp [Region.wanted,hg,hyd,hcb]
  rw [if_pos hw];exact Oper.wp_mono (fun a' w' ⟨β',G',s',hs,hr'⟩=>hK' _ _ (hs R β' G' a' w' Q hQ hr')) (hy hcb _ (fun _ h=>h) R β G a w Q hr)
 have hw:¬Region.wanted o (yielded all a.tmps)=true:=by simp [Region.wanted,hg,hyd,hcb]
 rw [if_neg hw];exact hK' _ _ (hn hcb R β G _ w Q hQ (hr.put o.dst .v))
theorem Ai {t:Nat}
 (hg:o.guard=some (j,b)) (ht:(all[j]?).bind (·.dst)=some t) (hc:s.fr[t]?=some (.v undef))
 (hn:ew P all rest (s.put o.dst (.v undef)) K):ew P all (o::rest) s K:=by
 intro R β G a w Q hQ hr;have hlt:t < a.tmps.size:=by
  rw [hr.size];rcases qc4 t s.fr.length with h|h
  ·exact h
  rw [qj3 h] at hc;cases hc
 have hb:=fz (hr.fr t _ _ hc (qd1 hlt));have hyd:yielded all a.tmps j=none:=by unfold yielded;rw [ht];simp [qd1 hlt,hb,undef]
 refine wpList_step fun K' hK'=>?_;have hw:¬Region.wanted o (yielded all a.tmps)=true:=by simp [Region.wanted,hg,hyd]
 rw [if_neg hw];exact hK' _ _ (hn R β G _ w Q hQ (hr.put o.dst .v))
abbrev Ext (w w':World):Prop:=Below w.heap.size w w'
def PV (P:Program) (op:Op) (s:St) (x:AV):Prop:=
 ∀ R β G a w,fw R β G s a w→∃ y,Conc G β x y∧∀ w' d ty pos bF g,Ext w w'→(execOp a.eval ⟨d,op,ty,pos,bF,g⟩).run P w'= .ok (.value y) w'
theorem bt {x:AV}
 (h:PV P op s x) (hk:K (s.put d x)):ff P ⟨d,op,ty,pos,bF,g⟩ s K:=by
 intro R β G a w Q hr;obtain ⟨y,hy,hrun⟩:=h R β G a w hr;unfold Oper.wp;rw [hrun w d ty pos bF g (Below.refl _ _),Oper.upon_value];exact ⟨β,G,_,hk,hr.put d hy⟩
theorem dW {x:AV}
 (h:∀ R β G a w,fw R β G s a w→∃ y,Conc G β x y∧∀ w' d ty pos bF g,(execOp a.eval ⟨d,op,ty,pos,bF,g⟩).run P w'= .ok (.value y) w'):PV P op s x:=
 fun R β G a w hr=>let ⟨y,hy,hrun⟩:=h R β G a w hr;⟨y,hy,fun w' d ty pos bF g _=>hrun w' d ty pos bF g⟩
variable {x:Operand}
theorem jh:PV P (.move x) s (s.eval x):=
 dW fun _ _ _ _ _ hr=>⟨_,hr.eval x,fun _ _ _ _ _ _=>rfl⟩
theorem dn:PV P (.assign x) s (s.eval x):=
 dW fun _ _ _ _ _ hr=>⟨_,hr.eval x,fun _ _ _ _ _ _=>rfl⟩
variable {c:Operand}
theorem FA {y:Operand} (hc:s.eval c= .bool b):PV P (.pick c x y) s (if b then s.eval x else s.eval y):=
 dW fun _ _ _ a _ hr=>by
  have h:=hr.eval c;rw [hc] at h;have h:=jk h;cases b
  ·exact ⟨_,hr.eval y,fun _ _ _ _ _ _=>by simp [execOp,h,asBool]⟩
  exact ⟨_,hr.eval x,fun _ _ _ _ _ _=>by simp [execOp,h,asBool]⟩
theorem Jd {y:Operand} {p q:Bool} (hc:s.eval c= .bool b) (hx:s.eval x= .bool p) (hy:s.eval y= .bool q):
 PV P (.pick c x y) s (.bool (if b then p else q)):=by
 have h:=FA (P:=P) (x:=x) (y:=y) hc;rw [hx,hy] at h;cases b<;>exact h
section ints
variable {s:St} {x y:Operand} {n m:Int} {t u:TypeId}
theorem qV {n:Int} (h1:-9223372036854775808≤n) (h2:n≤9223372036854775807):IntKind.i64.wrap n=n:=by
 rw [IntKind.wrap_i64];omega
theorem uK {op:BinOp} {r:Value} (hx:s.eval x= .int n) (hy:s.eval y= .int m) (he:op≠.eql∧op≠.neq)
 (hr:∀ w,(binOp op t (.int .i64 n) (.int .i64 m)).run P w= .ok r w):PV P (.binOp op t x y u) s (.v r):=
 dW fun _ _ _ a _ h=>⟨r,.v,fun w' _ _ _ _ _=>by
  have h1:=h.eval x;rw [hx] at h1;have h2:=h.eval y;rw [hy] at h2;have hg:(eqGuard op t x y (a.eval x) (a.eval y)).run P w'= .ok () w':=by unfold eqGuard;cases op<;>first|exact absurd rfl he.1|exact absurd rfl he.2|simp
  simp only [execOp,Sem.run_bind,hg,qb1];rw [dr h1,dr h2,hr w'];simp⟩
theorem Qs (hx:s.eval x= .int n) (hy:s.eval y= .int m) (h1:-9223372036854775808≤n+m) (h2:n+m≤9223372036854775807) :
 PV P (.binOp .add t x y u) s (.int (n+m)):=uK hx hy aC fun w=>by simp [binOp,Op.intArith,qV h1 h2]
theorem Qt (hx:s.eval x= .int n) (hy:s.eval y= .int m) (h1:-9223372036854775808≤n - m) (h2:n - m≤9223372036854775807) :
 PV P (.binOp .sub t x y u) s (.int (n - m)):=uK hx hy aC fun w=>by simp [binOp,Op.intArith,qV h1 h2]
theorem Qu (hx:s.eval x= .int n) (hy:s.eval y= .int m) (h1:-9223372036854775808≤n * m) (h2:n * m≤9223372036854775807) :
 PV P (.binOp .mul t x y u) s (.int (n * m)):=uK hx hy aC fun w=>by simp [binOp,Op.intArith,qV h1 h2]
theorem QF (hx:s.eval x= .int n) (hy:s.eval y= .int m):PV P (.binOp .gtr t x y u) s (.bool (decide (m < n))):=
 uK hx hy aC fun w=>by simp [binOp,Op.intCmp]
theorem pX (op:BinOp) (k k':IntKind) (w:World):(eqGuard op t x y (.int k n) (.int k' m)).run P w= .ok () w:=by
 unfold eqGuard;cases op<;>simp
theorem uP (hx:s.eval x= .int n) (hy:s.eval y= .int m):PV P (.binOp .eql t x y u) s (.bool (n == m)):=
 dW fun _ _ _ a _ h=>⟨_,.v,fun w' _ _ _ _ _=>by
  have h1:=h.eval x;rw [hx] at h1;have h2:=h.eval y;rw [hy] at h2;simp only [execOp];rw [dr h1,dr h2];simp only [Sem.run_bind,pX,qb1];simp [binOp,Op.intCmp]⟩
end ints
variable {s:St} {x:Operand} {t:TypeId}
theorem sk {b:Bool} (hx:s.eval x= .bool b):PV P (.unOp .not t x) s (.bool (!b)):=
 dW fun _ _ _ a _ h=>⟨_,.v,fun w' _ _ _ _ _=>by
  have h1:=h.eval x;rw [hx] at h1;simp [execOp,jk h1,Op.unary]⟩
theorem Qv {n:Int} (hx:s.eval x= .int n) (h1:-9223372036854775808≤-n) (h2:-n≤9223372036854775807):PV P (.unOp .neg t x) s (.int (-n)):=
 dW fun _ _ _ a _ h=>⟨_,.v,fun w' _ _ _ _ _=>by
  have h3:=h.eval x;rw [hx] at h3
  have:IntKind.i64.wrap (0 - n)= -n:=by rw [qV ak ak];omega
  simp [execOp,dr h3,Op.unary,Op.intArith] at *
  first|exact this|(rw [this])⟩
variable {cs:List AV}
theorem Ea {i:Nat} {c:AV} (hx:s.eval x= .dC cs) (hc:cs[i]?=some c):PV P (.extract x i) s c:=
 dW fun _ _ _ a _ h=>by
  have h1:=h.eval x;rw [hx] at h1;generalize he:a.eval x=y at h1;cases h1 with
  |dC xs hl hs=>
   have hi:i < xs.length:=by
    rw [← hl];rcases qc4 i cs.length with h|h
    ·exact h
    rw [qj3 h] at hc;cases hc
   refine ⟨xs[i],hs i _ _ hc (qa7 hi),fun w' _ _ _ _ _=>?_⟩;simp [execOp,he,Instr.extract,hi]
theorem fK {d:TypeDesc} (h:cT P t d) (w:World):(underlying t).run P w= .ok d w:=run_underlying h.ok w
variable {e:TypeId} {sz bw:Nat}
theorem Qw {es:List AV} [hu:cT P t (.slice e)] (hx:s.eval x= .cD sz bw es):
 PV P (.call {callee:=.builtin .len,args:=#[x],argTypes:=#[t]}) s (.int es.length):=
 dW fun _ _ _ a _ h=>by
  have h1:=h.eval x;rw [hx] at h1;generalize he:a.eval x=y at h1;cases h1 with
  |cD ys _ _ _ _ _ _ _=>
   refine ⟨_,.v,fun w' _ _ _ _ _=>?_⟩;simp [execOp,resolve,invoke,builtin,he,Builtin.len_,fK hu,goInt]
variable {n:Nat}
theorem MX {id off:Nat} [hu:cT P t (.slice e)] (hx:s.eval x= .sl sz bw id off n):
 PV P (.call {callee:=.builtin .len,args:=#[x],argTypes:=#[t]}) s (.int n):=
 dW fun _ _ _ a _ h=>by
  have h1:=h.eval x;rw [hx] at h1;generalize he:a.eval x=y at h1;cases h1<;>exact ⟨_,.v,fun w' _ _ _ _ _=>by simp [execOp,resolve,invoke,builtin,he,Builtin.len_,fK hu,goInt]⟩
theorem MY {A:Option Addr} {c:Nat} [hu:cT P t (.slice e)] (hx:s.eval x= .v (.slice A n c)):
 PV P (.call {callee:=.builtin .len,args:=#[x],argTypes:=#[t]}) s (.int n):=
 dW fun _ _ _ a _ h=>by
  have h1:=h.eval x;rw [hx] at h1;exact ⟨_,.v,fun w' _ _ _ _ _=>by simp [execOp,resolve,invoke,builtin,fz h1,Builtin.len_,fK hu,goInt]⟩
theorem Addr.fM (b o n:Nat):(⟨b,o,none⟩:Addr).add n=⟨b,o+n,none⟩:=by unfold Addr.add;split<;>simp_all
theorem pt (a:Addr) (i j:Nat):(a.add i).add j=a.add (i+j):=by
 unfold Addr.add;by_cases hi:i=0<;>by_cases hj:j=0<;>simp [hi,hj,Nat.add_assoc]
theorem qn {G:bI} {β:c9} {ad:Addr} (h:Conc G β (.bC cs) (.pointer (some ad))) (k:Nat):Conc G β (.bC (cs.drop k)) (.pointer (some (ad.add k))):=by
 cases h with
 |bC ys hl hr hs=>
  refine .bC (ys.drop k) (by simp [hl]) (fun j y hy=>?_) (fun j x y hx hy=>?_)
  ·rw [pt];exact hr _ _ (by simpa [qd0] using hy)
  exact hs (k+j) x y (by simpa [qd0] using hx) (by simpa [qd0] using hy)
end Go.Ab
namespace Go.Ab
open Go.RowKit
variable {P:Program}
theorem flat_get {sz:Nat}:∀ {es:List AV},(∀ e∈es,e.cells.length=sz)→∀ {k j:Nat} {e:AV},es[k]?=some e→j < sz→(es.flatMap AV.cells)[k * sz+j]?=e.cells[j]?
 |[],_,k,_,_,h,_=>by simp at h
 |x::es,hu,0,j,e,h,hj=>by
  simp at h;subst h;have:=hu x aC;simp only [Nat.zero_mul,ql4,qd5];rw [qe1 ak]
 |x::es,hu,k+1,j,e,h,hj=>by
  have h1:=hu x aC;have h2:es[k]?=some e:=by simpa using h
  have ih:=flat_get (es:=es) (fun e he=>hu e (by simp [he])) h2 hj;simp only [qd5];rw [qc7 (by rw [h1,qj9];omega),h1];rw [← ih];congr 1;rw [qj9];omega
theorem kc {sz:Nat}:∀ {es:List AV},(∀ e∈es,e.cells.length=sz)→(es.flatMap AV.cells).length=es.length * sz
 |[],_=>by simp
 |x::es,hu=>by
  have ih:=kc (es:=es) (fun e he=>hu e (by simp [he]));simp only [qd5,qa3,ih,hu x aC,qb8,qj9];omega
variable {α:Type} {k:Nat}
theorem bX {l:List α} {e:α} (h:l[k]?=some e):k < l.length:=by
 rcases qc4 k l.length with h'|h'
 ·exact h'
 rw [qj3 h'] at h;cases h
variable {G:bI} {β:c9} {sz bw:Nat} {es:List AV}
theorem Ho {A:Option Addr} {c:Nat} {e:AV} (h:Conc G β (.cD sz bw es) (.slice A es.length c)) (hk:es[k]?=some e):
 ∃ a,A=some a∧Conc G β (.bC e.cells) (.pointer (some (a.add (k * sz)))):=by
 have hlt:=bX hk;generalize hy:Value.slice A es.length c=y at h;cases h with
 |@cD _ _ _ _ A' c' ys hu hl hc hb hA hr hs=>
  injection hy with h1 h2 h3
  subst h1;obtain ⟨a,rfl⟩:∃ a,A=some a:=by
   cases A with
   |none=>exact absurd rfl (hA ak)
   |some a=>exact ⟨a,rfl⟩
  refine ⟨a,rfl,?_⟩;have hek:=hu e (qg0 hk);have hle:(k+1) * sz≤es.length * sz:=qh5 _ hlt;rw [qj9] at hle;refine .bC ((ys.drop (k * sz)).take sz) (by simp [hek,hl];omega) (fun j y hj=>?_) (fun j x y hx hj=>?_)
  ·have hjs:j < sz:=by have:=bX hj;simp at this;omega
   have hj':ys[k * sz+j]?=some y:=by simpa [qc3,hjs,qd0] using hj
   obtain ⟨a',ha,hg⟩:=hr _ _ hj';injection ha with ha;subst ha;rw [pt];exact hg
  have hjs:j < sz:=by have:=bX hx;omega
  have hj':ys[k * sz+j]?=some y:=by simpa [qc3,hjs,qd0] using hj
  exact hs _ x y (by rw [flat_get hu hk hjs];exact hx) hj'
variable {t e:TypeId} {z:Value} {b:Nat}
theorem vJ (hu:cT P t (.slice e)) (hi:dI P e z sz b) (a:Addr) (len cap:Nat) (n:Int) (h0:0≤n) (h1:n.toNat < len) (w:World):
 (Instr.indexAt t (.slice (some a) len cap) (.int .i64 n)).run P w= .ok (.pointer (some (a.add (n.toNat * sz)))) w:=by
 have hlt:n < (len:Int):=by omega
 simp [Instr.indexAt,asIntOf,fK hu,eH hi,h0,hlt]
variable {s:St} {x i:Operand} {el:TypeId} {n:Int}
theorem tf {e:AV} [hu:cT P t (.slice el)] [hi:dI P el z sz b]
 (hx:s.eval x= .cD sz bw es) (hn:s.eval i= .int n) (h0:0≤n) (he:es[n.toNat]?=some e):PV P (.indexAddr t x i) s (.bC e.cells):=
 dW fun _ _ _ a _ h=>by
  have h1:=h.eval x;rw [hx] at h1;have h2:=h.eval i;rw [hn] at h2;generalize hy:a.eval x=y at h1;obtain ⟨A,c,rfl⟩:∃ A c,y= .slice A es.length c:=by cases h1;exact ⟨_,_,rfl⟩
  obtain ⟨ad,rfl,hc⟩:=Ho h1 he;exact ⟨_,hc,fun w' _ _ _ _ _=>by
   simp [execOp,hy,dr h2,vJ hu hi ad _ _ n h0 (bX he)]⟩
theorem rU {xs:List α} {f:α→AV} [hu:cT P t (.slice el)] [hi:dI P el z sz b]
 (hx:s.eval x= .cD sz bw (xs.map f)) (hn:s.eval i= .int n) (h0:0≤n) (h1:n.toNat < xs.length):PV P (.indexAddr t x i) s (.bC (f xs[n.toNat]).cells):=
 tf hx hn h0 (by simp [h1])
variable {id off:Nat}
theorem yM {len:Nat} [hu:cT P t (.slice el)] [hi:dI P el z sz b]
 (hx:s.eval x= .sl sz bw id off len) (hn:s.eval i= .int n) (h0:0≤n) (h1:n.toNat < len):PV P (.indexAddr t x i) s (.ptr id (off+n.toNat * sz)):=
 dW fun _ _ _ a _ h=>by
  have h3:=h.eval x;rw [hx] at h3;have h2:=h.eval i;rw [hn] at h2;generalize hy:a.eval x=y at h3;cases h3 with
  |lU _=>omega
  |sl hb hc ht hm hbw=>
   exact ⟨_,.ptr hb,fun w' _ _ _ _ _=>by simp [execOp,hy,dr h2,vJ hu hi _ _ _ n h0 h1,Addr.fM]⟩
variable {N:Nat}
theorem tw (hu:cT P t (.array N e)) (hi:dI P e z sz b) (a:Addr) (n:Int) (h0:0≤n) (h1:n.toNat < N) (w:World):
 (Instr.indexAt t (.pointer (some a)) (.int .i64 n)).run P w= .ok (.pointer (some (a.add (n.toNat * sz)))) w:=by
 have hlt:n < (N:Int):=by omega
 simp [Instr.indexAt,asIntOf,fK hu,eH hi,h0,hlt,Instr.sureAddr]
theorem yN [hu:cT P t (.array N el)] [hi:dI P el z sz b]
 (hx:s.eval x= .ptr id off) (hn:s.eval i= .int n) (h0:0≤n) (h1:n.toNat < N):PV P (.indexAddr t x i) s (.ptr id (off+n.toNat * sz)):=
 dW fun _ _ _ a _ h=>by
  have h3:=h.eval x;rw [hx] at h3;have h2:=h.eval i;rw [hn] at h2;generalize hy:a.eval x=y at h3;cases h3 with
  |ptr hb=>exact ⟨_,.ptr hb,fun w' _ _ _ _ _=>by simp [execOp,hy,dr h2,tw hu hi _ n h0 h1,Addr.fM]⟩
variable {cs:List AV}
theorem xi [hu:cT P t (.array N el)] [hi:dI P el z sz b]
 (hx:s.eval x= .bC cs) (hn:s.eval i= .int n) (h0:0≤n) (h1:n.toNat < N):PV P (.indexAddr t x i) s (.bC (cs.drop (n.toNat * sz))):=
 dW fun _ _ _ a _ h=>by
  have h3:=h.eval x;rw [hx] at h3;have h2:=h.eval i;rw [hn] at h2;generalize hy:a.eval x=y at h3;cases h3 with
  |bC ys hl hr hs=>exact ⟨_,qn (.bC ys hl hr hs) _,fun w' _ _ _ _ _=>by simp [execOp,hy,dr h2,tw hu hi _ n h0 h1]⟩
variable {R:Rg} {hp:Hp} {w w':World} {y:Value}
theorem nS (h:dx R β G hp w) (he:Ext w w') {a:Addr} (hg:ep G a=some y):w'.cell? a=some y:=by
 unfold ep at hg;cases hG:G a.block with
 |none=>rw [hG] at hg;cases hg
 |some o=>
  rw [hG] at hg;have h1:=h.gs _ _ hG;have hlt:a.block < w.heap.size:=by
   rcases qc4 a.block w.heap.size with h'|h'
   ·exact h'
   rw [qh4 h'] at h1;cases h1
  have h2:=he.block _ hlt;unfold World.cell?;rw [h2,h1];exact hg
variable {d:TypeDesc} {ad:Addr}
theorem tz (hu:cT P t d) (hd:l8 d=false) (hc:w.cell? ad=some y):(loadVar t ad).run P w= .ok y w:=by
 simp [loadVar,dv hu.ok,hd,hc]
theorem tB (hu:cT P t d) (hd:l8 d=true) (ys:List Value) (hi:dI P t z ys.length b)
 (hc:∀ j y,ys[j]?=some y→w.cell? (ad.add j)=some y):(loadVar t ad).run P w= .ok (.agg ys.toArray) w:=by
 simp [loadVar,dv hu.ok,hd,eH hi,run_loadCells_list w ad ys hc]
variable {c:AV}
theorem td [hu:cT P t d] (hx:s.eval x= .bC cs) (hd:l8 d=false) (hc:cs[0]?=some c):PV P (.load t x) s c:=
 fun R β G a w h=>by
  have h3:=h.eval x;rw [hx] at h3;generalize hy:a.eval x=y at h3;cases h3 with
  |@bC _ _ ad ys hl hr hs=>
   have hlt:0 < ys.length:=by rw [hl];exact bX hc
   have h0:ys[0]?=some ys[0]:=qa7 hlt;refine ⟨ys[0],(hs 0 _ _ hc h0).free β,fun w' _ _ _ _ _ he=>?_⟩;have hcell:=nS h.hp he (hr 0 _ h0);have hz:ad.add 0=ad:=by simp [Addr.add]
   rw [hz] at hcell;simp [execOp,hy,Instr.loadAt,Instr.sureAddr,tz hu hd hcell]
theorem rb {n:Nat} [hu:cT P t d] [hi:dI P t z n b] (hx:s.eval x= .bC cs) (hd:l8 d=true) (hn:n≤cs.length):
 PV P (.load t x) s (.agg (cs.take n)):=
 fun R β G a w h=>by
  have h3:=h.eval x;rw [hx] at h3;generalize hy:a.eval x=y at h3;cases h3 with
  |@bC _ _ ad ys hl hr hs=>
   have hlen:(ys.take n).length=n:=by simp;omega
   refine ⟨.agg (ys.take n).toArray,.agg (ys.take n) aO (fun j x y hx hy=>?_),fun w' _ _ _ _ _ he=>?_⟩
   ·have hj:j < n:=by have:=bX hx;simp at this;omega
    simp only [qc3,hj,if_true] at hx hy;exact (hs j x y hx hy).free β
   have hi':dI P t z (ys.take n).length b:=by rw [hlen];exact hi
   have:=tB hu hd (ad:=ad) (ys.take n) hi' (w:=w') (fun j y hj=>by
    have hjn:j < n:=by have:=bX hj;simp at this;omega
    simp only [qc3,hjn,if_true] at hj;exact nS h.hp he (hr j y hj))
   simp only [execOp,hy,Instr.loadAt,Instr.sureAddr,Sem.run_bind,Sem.run_pure,qb1,this]
variable {bk:iB}
theorem dx.block (h:dx R β G hp w) {t:Nat} (hb:bp hp id=some bk) (hβ:β id= .at b t):
 G b=none∧(R.w0.heap.size≤b∨R.ex b)∧∃ arr:Array Value,w.heap[b]?=some (.cells arr bk.T (0,0))∧arr.size=t∧bk.cs.length≤t∧
  (bk.full=true→bk.cs.length=t)∧∀ (j:Nat) x y,bk.cs[j]?=some x→arr[j]?=some y→Conc G β x y:=by
 have:=h.blk id bk hb;unfold bZ at this;rw [hβ] at this;exact this
theorem db {o:Obj} (h:w.heap[b]?=some o):b < w.heap.size:=by
 rcases qc4 b w.heap.size with h'|h'
 ·exact h'
 rw [qh4 h'] at h;cases h
theorem vK {arr:Array Value} {T:TypeId} {f:Nat×Nat} (h:w.heap[b]?=some (.cells arr T f)) (he:Ext w w') (j:Nat):w'.cell? ⟨b,j,none⟩=arr[j]?:=by
 have h2:=he.block b (db h);simp [World.cell?,h2,h]
theorem tc [hu:cT P t d] (hx:s.eval x= .ptr id off) (hd:l8 d=false) (hb:bp s.hp id=some bk) (hc:bk.cs[off]?=some c):
 PV P (.load t x) s c:=
 fun R β G a w h=>by
  have h3:=h.eval x;rw [hx] at h3;generalize hy:a.eval x=y at h3;cases h3 with
  |ptr hβ=>
   obtain ⟨_,_,arr,harr,hsz,hle,_,hcs⟩:=h.hp.block hb hβ;have hlt:off < arr.size:=by have:=bX hc;omega
   have h0:arr[off]?=some arr[off]:=qd1 hlt;refine ⟨arr[off],hcs off _ _ hc h0,fun w' _ _ _ _ _ he=>?_⟩;simp [execOp,hy,Instr.loadAt,Instr.sureAddr,tz hu hd ((vK harr he off).trans h0)]
theorem xh {n:Nat} [hu:cT P t d] [hi:dI P t z n b] (hx:s.eval x= .ptr id off) (hd:l8 d=true)
 (hb:bp s.hp id=some bk) (hc:off+n≤bk.cs.length):PV P (.load t x) s (.agg ((bk.cs.drop off).take n)):=
 fun R β G a w h=>by
  have h3:=h.eval x;rw [hx] at h3;generalize hy:a.eval x=y at h3;cases h3 with
  |@ptr _ _ _ bb _ hβ=>
   obtain ⟨_,_,arr,harr,hsz,hle,_,hcs⟩:=h.hp.block hb hβ;have hlen:((arr.toList.drop off).take n).length=n:=by simp;omega
   refine ⟨.agg ((arr.toList.drop off).take n).toArray,.agg _ aO (fun j x y hx hy=>?_),fun w' _ _ _ _ _ he=>?_⟩
   ·have hj:j < n:=by have:=bX hx;simp at this;omega
    simp only [qc3,hj,if_true,qd0,qg4] at hx hy;exact hcs _ x y hx hy
   have hi':dI P t z ((arr.toList.drop off).take n).length b:=by rw [hlen];exact hi
   have:=tB hu hd (ad:=⟨bb,off,none⟩) ((arr.toList.drop off).take n) hi' (w:=w') (fun j y hj=>by
    have hjn:j < n:=by have:=bX hj;simp at this;omega
    simp only [qc3,hjn,if_true,qd0,qg4] at hj;rw [Addr.fM,vK harr he];exact hj)
   simp only [execOp,hy,Instr.loadAt,Instr.sureAddr,Sem.run_bind,Sem.run_pure,qb1,this]
theorem Conc.iM {x:AV} (h:Conc G β x y) (hf:AV.cq id x=false) (k:BK):Conc G (β.set id k) x y:=
 h.ext (fun i hm=>by unfold c9.set;rw [if_neg];rintro rfl;rw [hf] at hm;cases hm) (fun _ _ h=>h)
theorem j9 (hf:s.free id=true):(∀ (i:Nat) x,s.fr[i]?=some x→AV.cq id x=false)∧bp s.hp id=none∧
 ∀ k bk (j:Nat) x,bp s.hp k=some bk→bk.cs[j]?=some x→AV.cq id x=false:=by
 simp only [St.free,qa1,qb7,qg7] at hf;replace hf:=hf.2;refine ⟨fun i x hx=>eb hf.1 hx,?_,?_⟩
 ·have:=hf.2
  generalize s.hp=hp at this
  induction hp with
  |nil=>rfl
  |cons p r ih=>
   obtain ⟨i,b⟩:=p;simp [cz] at this;simp [bp,this.1.1,ih this.2]
 have:=hf.2;generalize s.hp=hp at this
 induction hp with
 |nil=>intro k bk j x h;simp [bp] at h
 |cons p r ih=>
  obtain ⟨i,b⟩:=p;simp [cz] at this;intro k bk j x h hx;simp only [bp] at h;split at h
  ·injection h with h;subst h;exact eb this.1.2 hx
  exact ih this.2 k bk j x h hx
theorem iD (hf:s.free id=true):id≤999999999:=by
 simp only [St.free,qa1,decide_eq_true_eq] at hf;exact hf.1
theorem gN (w:World) (o:Obj) (h:k < w.heap.size):(w.alloc o).heap[k]?=w.heap[k]?:=Below.heap_alloc w o k h
theorem vH.alloc (h:vH R w) (o:Obj):vH R (w.alloc o):=
 ⟨h.os,h.tape,h.output,by have:=h.size;simp;omega,fun k hk he=>by rw [gN w o (qi4 hk h.size)];exact h.block k hk he⟩
theorem fw.qk {a:Act} (h:fw R β G s a w) (hf:s.free id=true) (T:TypeId) (cs:List AV) (arr:Array Value) (full:Bool)
 (hle:cs.length≤arr.size) (hfull:full=true→cs.length=arr.size) (hcs:∀ (j:Nat) x y,cs[j]?=some x→arr[j]?=some y→Conc G β x y) (hm:AV.bz id cs=false):
 fw R (β.set id (.at w.heap.size arr.size)) G ⟨s.fr,cP s.hp id ⟨T,cs,full⟩⟩ a (w.alloc (.cells arr T (0,0))):=by
 obtain ⟨f1,f2,f3⟩:=j9 hf;have hself:(β.set id (.at w.heap.size arr.size)) id= .at w.heap.size arr.size:=by simp [c9.set]
 have hoth:∀ i,i≠id→(β.set id (.at w.heap.size arr.size)) i=β i:=fun i hi=>by simp [c9.set,hi]
 refine ⟨h.defers,h.size,fun i x y hx hy=>(h.fr i x y hx hy).iM (f1 i x hx) _,?_⟩;have hgs:∀ b o,G b=some o→b < w.heap.size:=fun b o hb=>db (h.hp.gs b o hb);refine ⟨fun b o hb=>by rw [gN w _ (hgs b o hb)];exact h.hp.gs b o hb,fun i bk hi=>?_,fun i j b t t' hi hj hbi hbj=>?_,h.hp.keeps.alloc _,h.hp.kH,h.hp.kL.set _ (iD hf),h.hp.iC.PY _ (by have:=iD hf;omega)⟩
 ·rw [cO] at hi
  unfold bZ;by_cases hid:id=i
  ·subst hid
   simp only [if_true,qd9] at hi;subst hi;rw [hself];refine ⟨?_,.inl h.hp.keeps.size,arr,heap_alloc_new w _,rfl,hle,hfull,fun j x y hx hy=>(hcs j x y hx hy).iM (eb hm hx) _⟩;cases hg:G w.heap.size with
   |none=>rfl
   |some o=>exact absurd (hgs _ _ hg) ak
  simp only [hid,if_false] at hi;rw [hoth i (Ne.symm hid)];have:=h.hp.blk i bk hi;unfold bZ at this;cases hβ:β i with
  |no=>rw [hβ] at this;exact this
  |nil=>rw [hβ] at this;exact this
  |«at» b t=>
   rw [hβ] at this;obtain ⟨g1,g2,arr',g3,g4,g5,g6,g7⟩:=this;exact ⟨g1,g2,arr',by rw [gN w _ (db g3)];exact g3,g4,g5,g6,fun j x y hx hy=>(g7 j x y hx hy).iM (f3 i bk j x hi hx) _⟩
  |gh o=>
   rw [hβ] at this;exact gA this (fun _ _ h=>h) fun x hx y hc=>by
    obtain ⟨j,hj⟩:=qf2 hx;exact hc.iM (f3 i bk j x hi hj) _
 have hlt:∀ i b t,i≠id→(bp (cP s.hp id ⟨T,cs,full⟩) i).isSome→(β.set id (.at w.heap.size arr.size)) i= .at b t→b < w.heap.size∧(bp s.hp i).isSome∧β i= .at b t:=by intro i b t hne his hbi;rw [cO,if_neg (Ne.symm hne)] at his;rw [hoth i hne] at hbi;obtain ⟨bk,hbk⟩:=qb0.1 his;obtain ⟨_,_,arr',g3,_⟩:=h.hp.block hbk hbi;exact ⟨db g3,his,hbi⟩
 by_cases hi':i=id
 ·by_cases hj':j=id
  ·rw [hi',hj']
  subst hi';rw [hself] at hbi;injection hbi with hb _
  have:=(hlt j b t' hj' hj hbj).1;omega
 by_cases hj':j=id
 ·subst hj'
  rw [hself] at hbj;injection hbj with hb _
  have:=(hlt i b t hi' hi hbi).1;omega
 obtain ⟨_,a1,a2⟩:=hlt i b t hi' hi hbi;obtain ⟨_,b1,b2⟩:=hlt j b t' hj' hj hbj;exact h.hp.inj i j b t t' a1 b1 a2 b2
theorem jm (z:Value):∀ (j:Nat) x y,(AV.dY z).cells[j]?=some x→z.cells[j]?=some y→Conc G β x y:=by
 intro j x y hx hy;cases z<;>simp only [AV.dY,AV.cells,Value.cells] at hx hy
 case agg cs=>
  simp only [qc9,qg4,hy,qg2,qd9] at hx;subst hx;exact .v
 all_goals
  cases j with
  |zero=>simp at hx hy;subst hx;subst hy;exact .v
  |succ j=>simp at hx
theorem vM (id:Nat) (z:Value):AV.bz id (AV.dY z).cells=false:=by
 have hl:∀ l:List Value,AV.bz id (l.map AV.v)=false:=by
  intro l;induction l with
  |nil=>rfl
  |cons x l ih=>simp [AV.bz,AV.cq,ih]
 cases z<;>simp only [AV.dY,AV.cells]<;>first|exact hl _|simp [AV.bz,AV.cq]
theorem iH (z:Value):(AV.dY z).cells.length=z.cells.size:=by
 cases z<;>simp [AV.dY,AV.cells,Value.cells]
variable {ty:TypeId} {pos:String} {bF:Array Edge} {g:Option (Nat×Bool)} {K:St→Prop}
theorem ov {d:Tmp} {n:Nat} [hi:dI P t z n b]
 (id:Nat) (hf:s.free id=true) (hk:K ⟨s.fr.set d (.ptr id 0),cP s.hp id ⟨t,(AV.dY z).cells,true⟩⟩):ff P ⟨some d,.alloc t,ty,pos,bF,g⟩ s K:=by
 intro R β G a w Q hr;have h1:=hr.qk hf t (AV.dY z).cells z.cells true (by rw [iH];exact qb3 _) (fun _=>iH z) (jm z) (vM id z);have hrun:(execOp a.eval ⟨some d,.alloc t,ty,pos,bF,g⟩).run P w= .ok (.value (.pointer (some ⟨w.heap.size,0,none⟩))) (w.alloc (.cells z.cells t (0,0))):=by simp [execOp,Instr.alloc,pq hi,newVar,newRow]
 unfold Oper.wp;rw [hrun,Oper.upon_value];exact ⟨_,_,_,hk,h1.put (some d) (.ptr (t:=z.cells.size) aT)⟩
theorem pw {x:AV} (h:Conc G β x y) (h1:x.one=true∨∃ cs,x= .agg cs):
 x.cells.length=y.cells.size∧∀ (j:Nat) u v,x.cells[j]?=some u→y.cells[j]?=some v→Conc G β u v:=by
 rcases h1 with h1|⟨cs,rfl⟩
 ·have hy:=h.one h1
  have hc:x.cells=[x]:=by cases x<;>simp_all [AV.cells,AV.one]
  have hv:y.cells=#[y]:=by cases y<;>simp_all [Value.cells,Value.oneCell']
  rw [hc,hv];refine ⟨rfl,fun j u v hu hv=>?_⟩;cases j with
  |zero=>simp at hu hv;subst hu;subst hv;exact h
  |succ j=>simp at hu
 cases h with
 |agg xs hl hs=>exact ⟨by simp [AV.cells,Value.cells,hl],fun j u v hu hv=>hs j u v hu (by simpa [Value.cells] using hv)⟩
theorem l9 {d:Tmp}
 (id:Nat) (hf:s.free id=true) (h1:(s.eval x).one=true∨∃ cs,s.eval x= .agg cs) (hm:AV.bz id (s.eval x).cells=false)
 (hk:K ⟨s.fr.set d (.ptr id 0),cP s.hp id ⟨t,(s.eval x).cells,true⟩⟩):ff P ⟨some d,.box t x,ty,pos,bF,g⟩ s K:=by
 intro R β G a w Q hr;obtain ⟨c1,c2⟩:=pw (hr.eval x) h1;have h2:=hr.qk hf t (s.eval x).cells (a.eval x).cells true ak (fun _=>c1) c2 hm;have hrun:(execOp a.eval ⟨some d,.box t x,ty,pos,bF,g⟩).run P w= .ok (.value (.pointer (some ⟨w.heap.size,0,none⟩))) (w.alloc (.cells (a.eval x).cells t (0,0))):=by simp [execOp,Instr.box,newVar,newRow]
 unfold Oper.wp;rw [hrun,Oper.upon_value];exact ⟨_,_,_,hk,h2.put (some d) (.ptr (t:=(a.eval x).cells.size) aT)⟩
end Go.Ab
namespace Go.Ab
open Go.RowKit
variable {P:Program}
variable {R:Rg} {w:World}
theorem vH.setCell (h:vH R w) {a:Addr} (hb:R.w0.heap.size≤a.block∨R.ex a.block) (v:Value):vH R (w.setCell a v):=
 ⟨h.os,h.tape,h.output,by have:=h.size;simpa using this,fun k hk he=>by
  rw [Below.heap_setCell w a v k (by rintro rfl;rcases hb with hb|hb;omega;exact he hb)];exact h.block k hk he⟩
variable {id:Nat} {x:AV}
theorem jg {cs:List AV} {j:Nat} (hx:cs[j]?=some x) (h:AV.cq id x=true):AV.bz id cs=true:=by
 cases hq:AV.bz id cs with
 |true=>rfl
 |false=>rw [eb hq hx] at h;cases h
variable {β:c9} {G:bI} {hp:Hp} {b:Nat} {bk:iB} {y:Value}
theorem dx.Uy (h:dx R β G hp w) {t off:Nat} (hb:bp hp id=some bk) (hβ:β id= .at b t)
 (hx:Conc G β x y):dx R β G (cP hp id {bk with cs:=bk.cs.set off x}) (w.setCell ⟨b,off,none⟩ y):=by
 obtain ⟨g1,g2,arr,g3,g4,g5,g6,g7⟩:=h.block hb hβ;have hne:∀ k o,G k=some o→k≠b:=fun k o hk e=>by subst e;rw [g1] at hk;cases hk
 refine ⟨fun k o hk=>by rw [Below.heap_setCell w _ y k (hne k o hk)];exact h.gs k o hk,fun i bk' hi=>?_,fun i j b t t' hi hj=>?_,h.keeps.setCell g2 y,h.kH,h.kL,h.iC.cP (by rw [hb];rfl)⟩
 ·rw [cO] at hi
  by_cases hid:id=i
  ·subst hid
   simp only [if_true,qd9] at hi;subst hi;unfold bZ;rw [hβ];refine ⟨g1,g2,arr.setIfInBounds off y,?_,by simp [g4],by simpa using g5,fun hf=>by simpa using g6 hf,fun j u v hu hv=>?_⟩
   ·simp [World.setCell,Array.getElem?_modify,g3]
   rw [qi2] at hu;rw [Array.getElem?_setIfInBounds] at hv;by_cases hoj:off=j
   ·subst hoj
    simp only [if_true] at hu hv;split at hu<;>simp at hu;split at hv<;>simp at hv;subst hu;subst hv;exact hx
   simp only [hoj,if_false] at hu hv;exact g7 j u v hu hv
  simp only [hid,if_false] at hi;have:=h.blk i bk' hi;unfold bZ at this ⊢;cases hβi:β i with
  |no=>rw [hβi] at this;exact this
  |nil=>rw [hβi] at this;exact this
  |«at» b' t'=>
   rw [hβi] at this;obtain ⟨f1,f2,arr',f3,f4⟩:=this;have hbb:b'≠b:=fun e=>by
    subst e;exact hid (h.inj id i b' t t' (by rw [hb];rfl) (by rw [hi];rfl) hβ hβi)
   exact ⟨f1,f2,arr',by rw [Below.heap_setCell w _ y b' hbb];exact f3,f4⟩
  |gh o=>rw [hβi] at this;exact this
 have key:∀ i,(bp (cP hp id {bk with cs:=bk.cs.set off x}) i).isSome→(bp hp i).isSome:=fun i hi=>by
  rw [cO] at hi;by_cases hid:id=i
  ·subst hid;rw [hb];rfl
  simpa [hid] using hi
 exact h.inj i j b t t' (key i hi) (key j hj)
def gM:List AV→Nat→List AV→List AV
 |l,_,[]=>l
 |l,off,c::r=>gM (l.set off c) (off+1) r
theorem rV:∀ (l:List AV) (off:Nat) (cs:List AV),(gM l off cs).length=l.length
 |_,_,[]=>rfl
 |l,off,c::r=>by rw [gM,rV];simp
theorem Hq (hp:Hp) (id:Nat) (x y:iB):cP (cP hp id x) id y=cP hp id y:=by
 induction hp with
 |nil=>simp [cP]
 |cons p r ih=>
  obtain ⟨i,b⟩:=p;by_cases h:i=id
  ·simp [cP,h]
  simp [cP,h,ih]
theorem Js (hp:Hp) (id:Nat) (bk:iB) (h:bp hp id=some bk):cP hp id bk=hp:=by
 induction hp with
 |nil=>simp [bp] at h
 |cons p r ih=>
  obtain ⟨i,b⟩:=p;by_cases hi:i=id
  ·simp [bp,hi] at h;subst h;simp [cP,hi]
  simp [bp,hi] at h;simp [cP,hi,ih h]
variable {off:Nat}
theorem Ej (h:dx R β G hp w) {t:Nat} (hb:bp hp id=some bk) (hβ:β id= .at b t)
 (ho:off < bk.cs.length) (h1:y.oneCell'=true):(store ⟨b,off,none⟩ y).run P w= .ok () (w.setCell ⟨b,off,none⟩ y):=by
 obtain ⟨g1,g2,arr,g3,g4,g5,_⟩:=h.block hb hβ;have hlt:off < arr.size:=by omega
 have hc:w.cell? ⟨b,off,none⟩=some arr[off]:=by simp [World.cell?,g3,hlt]
 have hf:w.frozen? ⟨b,off,none⟩=false:=by simp [World.frozen?,g3]
 rw [run_store _ _ _ _ _ h1,hc];simp [hf]
theorem tC {R:Rg} {β:c9} {G:bI} {id b t off:Nat} (hβ:β id= .at b t):∀ (ys:List Value) (xs:List AV) (i:Nat) (hp:Hp) (bk:iB) (w:World),dx R β G hp w→bp hp id=some bk→
 xs.length=ys.length→off+i+ys.length≤bk.cs.length→(∀ (j:Nat) x y,xs[j]?=some x→ys[j]?=some y→Conc G β x y∧y.oneCell'=true)→
 ∃ w',(storeCells ⟨b,off,none⟩ ys i).run P w= .ok () w'∧dx R β G (cP hp id {bk with cs:=gM bk.cs (off+i) xs}) w'
 |[],[],i,hp,bk,w,h,hb,_,_,_=>⟨w,by simp [storeCells],by simp only [gM];rw [Js hp id bk hb];exact h⟩
 |y::ys,x::xs,i,hp,bk,w,h,hb,hl,hle,hc=>by
  simp only [qb8] at hl hle;have h0:=hc 0 x y rfl rfl;have hst:=Ej (P:=P) h hb hβ (off:=off+i) ak h0.2;have h':=h.Uy hb hβ (off:=off+i) h0.1;have hb':bp (cP hp id {bk with cs:=bk.cs.set (off+i) x}) id=some {bk with cs:=bk.cs.set (off+i) x}:=by rw [cO];simp
  obtain ⟨w',hrun,hrep⟩:=tC (off:=off) hβ ys xs (i+1) (cP hp id {bk with cs:=bk.cs.set (off+i) x}) {bk with cs:=bk.cs.set (off+i) x} (w.setCell ⟨b,off+i,none⟩ y) h' hb' ak aO (fun j u v hu hv=>hc (j+1) u v (by simpa using hu) (by simpa using hv));refine ⟨w',?_,?_⟩
  ·simp only [storeCells,Sem.run_bind,Addr.fM,hst,qb1]
   exact hrun
  rw [Hq] at hrep;simp only [gM];rw [show off+i+1=off+(i+1) by omega];exact hrep
 |[],_::_,_,_,_,_,_,_,hl,_,_=>by simp at hl
 |_::_,[],_,_,_,_,_,_,hl,_,_=>by simp at hl
def jx:List AV→Bool
 |[]=>true
 |x::r=>x.one&&jx r
theorem px:∀ {cs:List AV} {j:Nat} {x:AV},jx cs=true→cs[j]?=some x→x.one=true
 |[],_,_,_,h=>by simp at h
 |c::cs,0,x,h,hx=>by simp at hx;subst hx;simp [jx] at h;exact h.1
 |c::cs,j+1,x,h,hx=>by simp at hx;simp [jx] at h;exact px h.2 hx
variable {t:TypeId} {z:Value} {n:Nat} {s:St}
theorem uL {p x:Operand} {ty:TypeId} {pos:String} {bF:Array Edge} {g:Option (Nat×Bool)} {K:St→Prop} [hi:dI P t z n b]
 (hp:s.eval p= .ptr id off) (hb:bp s.hp id=some bk) (h1:jx (s.eval x).cells=true) (h2:(s.eval x).one=true∨∃ cs,s.eval x= .agg cs) (hn:(s.eval x).cells.length=n) (hle:off+n≤bk.cs.length)
 (hk:K ⟨s.fr,cP s.hp id {bk with cs:=gM bk.cs off (s.eval x).cells}⟩):ff P ⟨none,.store t p x,ty,pos,bF,g⟩ s K:=by
 intro R β G a w Q hr;have e1:=hr.eval p;rw [hp] at e1;obtain ⟨c1,c2⟩:=pw (hr.eval x) h2;generalize hy:a.eval p=y at e1;cases e1 with
 |@ptr _ _ _ bb tt hβ=>
  obtain ⟨w',hrun,hrep⟩:=tC (P:=P) hβ (a.eval x).cells.toList (s.eval x).cells 0 s.hp bk w hr.hp hb (off:=off) aO aO
   (fun j u v hu hv=>by
    have hv':(a.eval x).cells[j]?=some v:=by simpa using hv
    have:=c2 j u v hu hv';exact ⟨this,this.one (px h1 hu)⟩)
  have hsz:(a.eval x).cells.size=n:=by omega
  unfold Oper.wp
  have:(execOp a.eval ⟨none,.store t p x,ty,pos,bF,g⟩).run P w= .ok .skip w':=by simp [execOp,hy,Instr.storeAt,Instr.sureAddr,storeVar,eH hi,hsz,hrun]
  rw [this,Oper.upon_skip];exact ⟨β,G,_,hk,⟨hr.defers,hr.size,hr.fr,by simpa using hrep⟩⟩
def iu (place:Nat→Option Nat):List AV→List (Nat×AV)→List AV
 |cs,[]=>cs
 |cs,(i,x)::r=>iu place (match place i with|some off=>gM cs off x.cells|none=>cs) r
theorem B4:∀ (xs:List AV) (ys:List Value) (cs:List AV) (zs:Array Value) (off:Nat),xs.length=ys.length→cs.length=zs.size→
 (∀ (j:Nat) x y,xs[j]?=some x→ys[j]?=some y→Conc G β x y)→(∀ (j:Nat) x y,cs[j]?=some x→zs[j]?=some y→Conc G β x y)→
 (gM cs off xs).length=(ys.zipIdx.foldl (fun cs (c,j)=>cs.setIfInBounds (off+j) c) zs).size∧
 ∀ (j:Nat) x y,(gM cs off xs)[j]?=some x→(ys.zipIdx.foldl (fun cs (c,j)=>cs.setIfInBounds (off+j) c) zs)[j]?=some y→Conc G β x y:=by
 have key:∀ (xs:List AV) (ys:List Value) (cs:List AV) (zs:Array Value) (off i:Nat),xs.length=ys.length→cs.length=zs.size→
  (∀ (j:Nat) x y,xs[j]?=some x→ys[j]?=some y→Conc G β x y)→(∀ (j:Nat) x y,cs[j]?=some x→zs[j]?=some y→Conc G β x y)→
  (gM cs (off+i) xs).length=((ys.zipIdx i).foldl (fun cs (c,j)=>cs.setIfInBounds (off+j) c) zs).size∧
  ∀ (j:Nat) x y,(gM cs (off+i) xs)[j]?=some x→((ys.zipIdx i).foldl (fun cs (c,j)=>cs.setIfInBounds (off+j) c) zs)[j]?=some y→Conc G β x y:=by
  intro xs
  induction xs with
  |nil=>intro ys cs zs off i hl hc hx hz;cases ys with
   |nil=>exact ⟨hc,hz⟩
   |cons y ys=>simp at hl
  |cons x xs ih=>
   intro ys cs zs off i hl hc hx hz;cases ys with
   |nil=>simp at hl
   |cons y ys=>
    simp only [gM,List.zipIdx_cons,List.foldl_cons];rw [show off+i+1=off+(i+1) by omega];refine ih ys _ _ off (i+1) (by simpa using hl) (by simp [hc]) (fun j u v hu hv=>hx (j+1) u v (by simpa using hu) (by simpa using hv)) (fun j u v hu hv=>?_);rw [qi2] at hu;rw [Array.getElem?_setIfInBounds] at hv;by_cases ho:off+i=j
    ·simp only [ho,if_true] at hu hv
     split at hu<;>simp at hu;split at hv<;>simp at hv;subst hu;subst hv;exact hx 0 x y rfl rfl
    simp only [ho,if_false] at hu hv;exact hz j u v hu hv
 intro xs ys cs zs off;simpa using key xs ys cs zs off 0
def eU (place:Nat→Option (Nat×Nat)) (n:Nat):List (Nat×AV)→Bool
 |[]=>true
 |(i,x)::r=>(match place i with|some (off,size)=>x.cells.length == size&&decide (off+size≤n)|none=>false)&&(x.one|| (match x with| .agg _=>true|_=>false))&&eU place n r
theorem ow {place:Nat→Option (Nat×Nat)}:∀ (ps:List (Nat×AV)) (qs:List (Nat×Value)) (cs:List AV) (zs:Array Value),ps.length=qs.length→cs.length=zs.size→eU place cs.length ps=true→
 (∀ (j:Nat) p q,ps[j]?=some p→qs[j]?=some q→p.1=q.1∧Conc G β p.2 q.2)→(∀ (j:Nat) x y,cs[j]?=some x→zs[j]?=some y→Conc G β x y)→
 ∃ zs',Instr.fill place zs qs=some zs'∧(iu (fun i=>(place i).map (·.1)) cs ps).length=zs'.size∧∀ (j:Nat) x y,(iu (fun i=>(place i).map (·.1)) cs ps)[j]?=some x→zs'[j]?=some y→Conc G β x y:=by
 intro ps
 induction ps with
 |nil=>intro qs cs zs hl hc _ _ hz;cases qs with
  |nil=>exact ⟨zs,rfl,hc,hz⟩
  |cons=>simp at hl
 |cons p ps ih=>
  intro qs cs zs hl hc hok hp hz;cases qs with
  |nil=>simp at hl
  |cons q qs=>
   obtain ⟨i,x⟩:=p;obtain ⟨i',y⟩:=q;obtain ⟨hi,hxy⟩:=hp 0 _ _ rfl rfl;simp only at hi hxy;subst hi;simp only [eU,qa1] at hok;obtain ⟨⟨hpl,hone⟩,hrest⟩:=hok;cases hpi:place i with
   |none=>rw [hpi] at hpl;simp at hpl
   |some os=>
    obtain ⟨off,size⟩:=os;rw [hpi] at hpl;simp only [qa1,beq_iff_eq,decide_eq_true_eq] at hpl;have h1:x.one=true∨∃ cs,x= .agg cs:=by
     rw [qe0] at hone;rcases hone with h|h
     ·exact .inl h
     cases x<;>simp at h;exact .inr ⟨_,rfl⟩
    obtain ⟨c1,c2⟩:=pw hxy h1;obtain ⟨d1,d2⟩:=B4 x.cells y.cells.toList cs zs off (by simp [c1]) hc (fun j u v hu hv=>c2 j u v hu (by simpa using hv)) hz;obtain ⟨zs',e1,e2,e3⟩:=ih qs (gM cs off x.cells) _ (by simpa using hl) d1 (by rw [rV];exact hrest) (fun j p q hp' hq'=>hp (j+1) p q (by simpa using hp') (by simpa using hq')) d2;refine ⟨zs',?_,?_⟩
    ·simp only [Instr.fill,hpi]
     rw [if_neg aO];rw [← Array.foldl_toList];simpa using e1
    simp only [iu,hpi,qg2];exact ⟨e2,e3⟩
def bM (s:St) (parts:Array (Nat×Operand)):List (Nat×AV):=parts.toList.map fun (i,x)=>(i,s.eval x)
class n8 (P:Program) (t:TypeId) (pl:outParam (List (Nat×Nat))):Prop where
 ok:∃ fs:Array Field,P.underlying t=some (.struct fs)∧fs.toList.mapM (fun f=>(P.info? f.type).map fun i=>(f.offset,i.size))=some pl
variable {a:Act}
theorem mH (h:fw R β G s a w) (parts:Array (Nat×Operand)):
 (bM s parts).length=(parts.map fun (i,x)=>(i,a.eval x)).toList.length∧
 ∀ (j:Nat) p q,(bM s parts)[j]?=some p→(parts.map fun (i,x)=>(i,a.eval x)).toList[j]?=some q→p.1=q.1∧Conc G β p.2 q.2:=by
 refine ⟨by simp [bM],fun j p q hp hq=>?_⟩;simp only [bM,qc9,qg4,qa6,Array.getElem?_map] at hp hq;obtain ⟨⟨i,x⟩,h1,rfl⟩:=hp;obtain ⟨⟨i',x'⟩,h2,rfl⟩:=hq;rw [h1] at h2;injection h2 with h2
 injection h2 with h2 h3
 subst h2;subst h3;exact ⟨rfl,h.eval x⟩
variable {parts:Array (Nat×Operand)}
theorem tg {pl:List (Nat×Nat)} [hF:n8 P t pl] [hi:dI P t z n b]
 (hok:eU (fun i=>pl[i]?) (AV.dY z).cells.length (bM s parts)=true):
 PV P (.build t parts) s (.agg (iu (fun i=>(pl[i]?).map (·.1)) (AV.dY z).cells (bM s parts))):=
 dW fun R β G a w h=>by
  obtain ⟨fs,hu,hm⟩:=hF.ok;obtain ⟨it,hit,hz,hs,_⟩:=hi.ok;obtain ⟨p1,p2⟩:=mH h parts;obtain ⟨zs',e1,e2,e3⟩:=ow (G:=G) (β:=β) (place:=fun i=>pl[i]?) (bM s parts) _ (AV.dY z).cells z.cells p1 (iH z) hok p2 (jm z);refine ⟨.agg zs',?_,fun w' _ _ _ _ _=>?_⟩
  ·have:=Conc.agg (G:=G) (β:=β) (cs:=iu (fun i=>(pl[i]?).map (·.1)) (AV.dY z).cells (bM s parts)) zs'.toList (by simpa using e2) (fun j x y hx hy=>e3 j x y hx (by simpa using hy))
   simpa using this
  have hb:P.built t (parts.map fun (i,x)=>(i,a.eval x)).toList=some zs':=by unfold Program.built;simp only [hit,hu,hz,hm,qa0];exact e1
  simp only [execOp,Sem.run_bind,run_build w' t _ _ hb,qb1];rfl
theorem G9 {el:TypeId} {N:Nat} {ze:Value} {m c:Nat} [hu:cT P t (.array N el)] [hi:dI P t z n b] [he:dI P el ze m c]
 (hok:eU (fun i=>some (i * m,m)) (AV.dY z).cells.length (bM s parts)=true):
 PV P (.build t parts) s (.agg (iu (fun i=>some (i * m)) (AV.dY z).cells (bM s parts))):=
 dW fun R β G a w h=>by
  obtain ⟨it,hit,hz,hs,_⟩:=hi.ok;obtain ⟨ie,hie,_,hse,_⟩:=he.ok;obtain ⟨p1,p2⟩:=mH h parts;obtain ⟨zs',e1,e2,e3⟩:=ow (G:=G) (β:=β) (place:=fun i=>some (i * m,m)) (bM s parts) _ (AV.dY z).cells z.cells p1 (iH z) hok p2 (jm z);refine ⟨.agg zs',?_,fun w' _ _ _ _ _=>?_⟩
  ·have:=Conc.agg (G:=G) (β:=β) (cs:=iu (fun i=>some (i * m)) (AV.dY z).cells (bM s parts)) zs'.toList (by simpa using e2) (fun j x y hx hy=>e3 j x y hx (by simpa using hy))
   simpa using this
  have hb:P.built t (parts.map fun (i,x)=>(i,a.eval x)).toList=some zs':=by unfold Program.built;simp only [hit,hu.ok,hz,hie,hse];exact e1
  simp only [execOp,Sem.run_bind,run_build w' t _ _ hb,qb1];rfl
def bI.set (G:bI) (b:Nat) (o:Obj):bI:=fun k=>if k=b then some o else G k
theorem fw.Hr (h:fw R β G s a w) (o:Obj):
 fw R β (G.set w.heap.size o) s a (w.alloc o)∧∀ b x,G b=some x→(G.set w.heap.size o) b=some x:=by
 have hgs:∀ b o,G b=some o→b < w.heap.size:=fun b o hb=>db (h.hp.gs b o hb);have hG:∀ b x,G b=some x→(G.set w.heap.size o) b=some x:=fun b x hb=>by
  have:=hgs b x hb;simp only [bI.set];rw [if_neg ak];exact hb
 refine ⟨⟨h.defers.mono hG,h.size,fun i x y hx hy=>(h.fr i x y hx hy).mono hG,⟨fun b x hb=>?_,fun id bk hi=>?_,h.hp.inj,h.hp.keeps.alloc _,fun b hb=>?_,h.hp.kL,h.hp.iC⟩⟩,hG⟩
 ·simp only [bI.set] at hb
  split at hb
  ·rename_i e;subst e;injection hb with hb;subst hb;exact heap_alloc_new w _
  rw [gN w _ (hgs b x hb)];exact h.hp.gs b x hb
 ·have:=h.hp.blk id bk hi
  unfold bZ at this ⊢;cases hβ:β id with
  |no=>rw [hβ] at this;exact this
  |nil=>rw [hβ] at this;exact this
  |«at» b t=>
   rw [hβ] at this;obtain ⟨g1,g2,arr',g3,g4,g5,g6,g7⟩:=this;refine ⟨?_,g2,arr',by rw [gN w _ (db g3)];exact g3,g4,g5,g6,fun j x y hx hy=>(g7 j x y hx hy).mono hG⟩;have:=db g3;simp only [bI.set];rw [if_neg ak];exact g1
  |gh o=>rw [hβ] at this;exact gA this hG fun x _ y hc=>hc.mono hG
 simp only [bI.set] at hb;split at hb
 ·rename_i e;subst e;exact .inr (.inl h.hp.keeps.size)
 exact h.hp.kH b hb
mutual
def AV.gq:AV→Bool
 | .ptr ..=>false
 | .sl ..=>false
 | .yl ..=>false
 | .agg cs=>AV.cu cs
 | .dC cs=>AV.cu cs
 | .fn _ cs=>AV.cu cs
 | .any=>true
 | .v _=>true
 | .cD _ _ _=>true
 | .bC _=>true
def AV.cu:List AV→Bool
 |[]=>true
 |x::r=>AV.gq x&&AV.cu r
end
theorem gB:∀ {cs:List AV} {j:Nat} {x:AV},AV.cu cs=true→cs[j]?=some x→AV.gq x=true
 |[],_,_,_,h=>by simp at h
 |c::cs,0,x,h,hx=>by simp at hx;subst hx;simp [AV.cu] at h;exact h.1
 |c::cs,j+1,x,h,hx=>by simp at hx;simp [AV.cu] at h;exact gB h.2 hx
theorem Conc.oq {G:bI} {β:c9} {x:AV} {y:Value} (h:Conc G β x y) (hp:x.gq=true) (β':c9):Conc G β' x y:=by
 induction h generalizing β' with
 |any=>exact .any
 |v=>exact .v
 |agg xs hl _ ih=>exact .agg xs hl fun j x y hx hy=>ih j x y hx hy (gB (by simpa [AV.gq] using hp) hx) β'
 |dC xs hl _ ih=>exact .dC xs hl fun j x y hx hy=>ih j x y hx hy (gB (by simpa [AV.gq] using hp) hx) β'
 |fn xs hf hl _ ih=>exact .fn xs hf hl fun j x y hx hy=>ih j x y hx hy (gB (by simpa [AV.gq] using hp) hx) β'
 |sZ _ ih=>exact .sZ (ih (by simpa [AV.gq,AV.cu] using hp) β')
 |ptr=>simp [AV.gq] at hp
 |yl=>simp [AV.gq] at hp
 |lU=>simp [AV.gq] at hp
 |sl=>simp [AV.gq] at hp
 |cD ys hu hl hc hb hA hr hs=>exact .cD ys hu hl hc hb hA hr hs
 |bC ys hl hr hs=>exact .bC ys hl hr hs
def rS:Nat→List (Nat×AV)→Bool
 |_,[]=>true
 |k,(i,_)::r=>i == k&&rS (k+1) r
theorem xx:∀ (xs pre vN rest:List AV),vN.length=xs.length→gM (pre++(vN++rest)) pre.length xs=pre++(xs++rest)
 |[],pre,vN,rest,h=>by
  have:vN=[]:=qf8 (by simpa using h)
  subst this;rfl
 |x::xs,pre,[],rest,h=>by simp at h
 |x::xs,pre,o::vN,rest,h=>by
  have ih:=xx xs (pre++[x]) vN rest (by simpa using h);simp only [gM];have h1:(pre++(o::vN++rest)).set pre.length x=(pre++[x])++(vN++rest):=by rw [List.set_append_right _ _ (qb3 _)];simp
  rw [h1];have h2:pre.length+1=(pre++[x]).length:=by simp
  rw [h2,ih];simp
theorem nq {m:Nat}:∀ (ps:List (Nat×AV)) (k:Nat) (pre vN:List AV),rS k ps=true→pre.length=k * m→vN.length=ps.length * m→(∀ p∈ps,p.2.cells.length=m)→
 iu (fun i=>some (i * m)) (pre++vN) ps=pre++ps.flatMap fun p=>p.2.cells
 |[],k,pre,vN,_,_,ho,_=>by
  have:vN=[]:=qf8 (by simpa using ho)
  subst this;simp [iu]
 |(i,x)::ps,k,pre,vN,hd,hp,ho,hm=>by
  simp only [rS,qa1,beq_iff_eq] at hd;obtain ⟨rfl,hd⟩:=hd;have hx:=hm (i,x) aC;simp only at hx;have hol:m≤vN.length:=by rw [ho,qb8,qj9];omega
  have hsplit:vN=vN.take m++vN.drop m:=(qk3 m vN).symm;simp only [iu];rw [show i * m=pre.length from hp.symm,hsplit,xx x.cells pre (vN.take m) (vN.drop m) (by simp [hx];omega)];have:=nq ps (i+1) (pre++x.cells) (vN.drop m) hd (by simp [hp,hx,qj9]) (by simp [ho,qj9]) (fun p hp=>hm p (by simp [hp]));rw [← qd6,this];simp [qd5]
theorem nt {place:Nat→Option (Nat×Nat)} {n m:Nat} (hpl:∀ i o s,place i=some (o,s)→s=m):∀ (ps:List (Nat×AV)),eU place n ps=true→∀ p∈ps,p.2.cells.length=m
 |[],_,p,hp=>by simp at hp
 |(i,x)::ps,h,p,hp=>by
  simp only [eU,qa1] at h;obtain ⟨⟨h1,_⟩,h2⟩:=h;rcases qc2.1 hp with rfl|hp
  ·cases hq:place i with
   |none=>rw [hq] at h1;simp at h1
   |some os=>
    obtain ⟨o,sz⟩:=os;rw [hq] at h1;simp only [qa1,beq_iff_eq] at h1;simp only [h1.1,hpl i o sz hq]
  exact nt hpl ps h2 p hp
variable {d:Tmp} {t el ty:TypeId} {len m bw:Nat} {parts:Array (Nat×Operand)} {z:Value} {pos:String} {bF:Array Edge} {g:Option (Nat×Bool)} {s:St} {K:St→Prop}
theorem pZ
 [hu:cT P t (.slice el)] [hi:dI P el z m bw] (hsm:decide (0 < len * m)=true∧decide (len * m≤16777216)=true∧decide (len * bw≤140737488355328)=true)
 (hd:rS 0 (bM s parts)=true) (hl:(bM s parts).length=len) (hok:eU (fun i=>some (i * m,m)) (len * m) (bM s parts)=true)
 (hpu:AV.cu ((bM s parts).map (·.2))=true)
 (hk:K (s.put (some d) (.cD m bw ((bM s parts).map (·.2))))):∀ R β G a w Q,fw R β G s a w→(Oper.mk (some d) (.buildSlice t len parts) ty pos bF g).wp P a w (fun a' w'=>Ext w w'∧RK R K a' w') Q:=by
 intro R β G a w Q hr;obtain ⟨s1,s2,s3⟩:=hsm;simp only [decide_eq_true_eq] at s1 s2 s3;obtain ⟨ie,hie,hz0,hse,_⟩:=hi.ok;obtain ⟨p1,p2⟩:=mH hr parts;have hps:=nt (m:=m) (by intro i o s h;simp at h;exact h.2.symm) _ hok;have hok':eU (fun i=>some (i * m,m)) (List.replicate (len * m) AV.any).length (bM s parts)=true:=by simpa using hok
 obtain ⟨zs',e1,e2,e3⟩:=ow (G:=G) (β:=β) (place:=fun i=>some (i * m,m)) (bM s parts) _ (List.replicate (len * m) .any) ((Array.range (len * m)).map (z.cells[· % z.cells.size]!)) p1 aC hok' p2
  (fun j x y hx hy=>by
   rw [qk9] at hx;split at hx<;>simp at hx;subst hx;exact .any)
 have hfill:iu (fun i=>some (i * m)) (List.replicate (len * m) AV.any) (bM s parts)=(bM s parts).flatMap fun p=>p.2.cells:=by have:=nq (m:=m) (bM s parts) 0 [] (List.replicate (len * m) AV.any) hd aC (by simp [hl]) hps;simpa using this
 have e2':(iu (fun i=>some (i * m)) (List.replicate (len * m) AV.any) (bM s parts)).length=zs'.size:=e2;have e3':∀ (j:Nat) x y,(iu (fun i=>some (i * m)) (List.replicate (len * m) AV.any) (bM s parts))[j]?=some x→zs'[j]?=some y→Conc G β x y:=e3;rw [hfill] at e2' e3';have hrun:(Instr.buildSlice t len (parts.map fun (i,x)=>(i,a.eval x))).run P w= .ok (.slice (some ⟨w.heap.size,0,none⟩) len len) (w.alloc (.cells zs' el)):=
  run_buildSlice w t el len _ zs' ie z hu.ok hie hz0 (by rw [hse];omega) (by rw [hse];omega) (by rw [hse];exact e1)
 obtain ⟨hrep,hG⟩:=hr.Hr (.cells zs' el);unfold Oper.wp;have hexec:(execOp a.eval ⟨some d,.buildSlice t len parts,ty,pos,bF,g⟩).run P w= .ok (.value (.slice (some ⟨w.heap.size,0,none⟩) len len)) (w.alloc (.cells zs' el)):=by simp only [execOp,Sem.run_bind,hrun,qb1];rfl
 rw [hexec,Oper.upon_value];refine ⟨(Below.refl _ _).alloc (qb3 _) _,β,_,_,hk,hrep.put (some d) ?_⟩;have hes:∀ e∈(bM s parts).map (·.2),e.cells.length=m:=fun e he=>by
  obtain ⟨p,hp,rfl⟩:=qe7.1 he;exact hps p hp
 have hfm:((bM s parts).map (·.2)).flatMap AV.cells=(bM s parts).flatMap fun p=>p.2.cells:=by rw [qg9]
 have hlen:((bM s parts).map (·.2)).length=len:=by simp [hl]
 have hzl:zs'.size=len * m:=by rw [← e2',← hfm,kc hes,hlen]
 have:=Conc.cD (G:=G.set w.heap.size (.cells zs' el)) (β:=β) (sz:=m) (bw:=bw) (es:=(bM s parts).map (·.2)) (A:=some ⟨w.heap.size,0,none⟩) (c:=len) zs'.toList hes (by rw [hlen];simp [hzl]) (by rw [hlen];exact qb3 _) (by rw [hlen];exact s3) (fun _=>by simp)
  (fun j y hy=>⟨_,rfl,by
   rw [Addr.fM];simp only [ep,bI.set,if_true];simpa using hy⟩)
  (fun j x y hx hy=>by
   rw [hfm] at hx;have hxx:AV.gq x=true:=by
    obtain ⟨p,hp,hx'⟩:=qh0.1 (qg0 hx);obtain ⟨i,hi'⟩:=qf2 (List.mem_map_of_mem (f:=(·.2)) hp);have hpp:=gB hpu hi';obtain ⟨i2,hi2⟩:=qf2 hx';cases hq:p.2 with
    |agg cs=>
     rw [hq] at hx' hpp hi2;simp only [AV.cells] at hi2;exact gB (by simpa [AV.gq] using hpp) hi2
    |_=>rw [hq] at hx' hpp;simp only [AV.cells,qd7] at hx';subst hx';exact hpp
   exact ((e3' j x y hx (by simpa using hy)).oq hxx na).mono hG)
 rw [hlen] at this;exact this
theorem xj
 [hu:cT P t (.slice el)] [hi:dI P el z m bw] (hsm:decide (0 < len * m)=true∧decide (len * m≤16777216)=true∧decide (len * bw≤140737488355328)=true)
 (hd:rS 0 (bM s parts)=true) (hl:(bM s parts).length=len) (hok:eU (fun i=>some (i * m,m)) (len * m) (bM s parts)=true)
 (hpu:AV.cu ((bM s parts).map (·.2))=true)
 (hk:K (s.put (some d) (.cD m bw ((bM s parts).map (·.2))))):ff P ⟨some d,.buildSlice t len parts,ty,pos,bF,g⟩ s K:=
 fun R β G a w Q hr=>Oper.wp_mono (fun _ _ h=>h.2) (pZ hsm hd hl hok hpu hk R β G a w Q hr)
end Go.Ab
namespace Go.Ab
open Go.RowKit
variable {P:Program}
def vG (K:St→Prop) (Q:Exit→St→Prop):Exit→St→Prop
 | .normal,s=>K s
 |e,s=>Q e s
def Eg (id:Nat) (Q:Exit→St→Prop):Exit→St→Prop
 | .exit id',s=>if id'=id then Q .normal s else Q (.exit id') s
 |e,s=>Q e s
def RX (R:Rg) (Q:Exit→St→Prop) (e:Exit) (a:Act) (w:World):Prop:=RK R (Q e) a w
def jy (ro:Option Nat):Fence:={Fence.wide with round:=ro}
def iL (l:List Oper):Bool:=l.all fun o=>match o.op with| .defer _=>false|_=>true
variable {l:List Oper}
theorem sn (h:iL l=true):∀ (i:Nat) o,l.toArray[i]?=some o→∀ c,o.op≠.defer c:=by
 intro i o hi c hc;have:=qc8.1 h o (qg0 (by simpa using hi));rw [hc] at this;cases this
def QN (R:Rg) (K:St→Prop):Exit→Act→World→Prop
 | .normal,a,w=>RK R K a w
 |_,_,_=>False
variable {R:Rg} {K:St→Prop}
theorem Ek:¬LetsOut (QN R K):=fun ⟨_,_,h⟩=>h
variable {ro:Option Nat} {n:Nat} {f:FuncId} {w:World}
theorem Ap {args:Array Value} {R:Ending→World→Prop} (h:Calls P f args w R):CallsIn (jy ro) n P f args w R:=
 (callsIn_wide (n:=n)).2 h
variable {a:Act}
theorem Jt {o:Oper} {next next':Act→World→Prop} (hnd:∀ c,o.op≠.defer c) (hn:∀ a w,next a w→next' a w)
 (h:o.wp P a w next (QN R K)):o.wpIn (jy ro) n P a w next' (QN R K):=by
 refine ⟨fun _ _=>trivial,?_⟩;rw [show (jy ro).round=ro from rfl,Oper.semAt_eq ro _ o hnd];unfold Oper.wp at h;generalize (execOp a.eval o).run P w=r at *;cases r with
 |ok x w'=>
  cases x<;>simp only [Oper.upon,Oper.uponIn] at h ⊢
  case value v=>exact hn _ _ h
  case skip=>exact hn _ _ h
  case defer d=>exact hn _ _ h
  case enter f args=>
   refine ⟨fun h=>by simp [jy,Fence.wide] at h,(Ap h).mono fun e w' he=>?_⟩;cases e with
   |returned v=>exact hn _ _ he
   |panicked c=>exact he
   |outgrown=>exact he
  case row row args=>
   refine ⟨fun h=>by simp [jy,Fence.wide] at h,fun c cs _=>?_⟩;obtain ⟨v,w2,h1,h2⟩:=h c cs;exact ⟨v,w2,hn _ _ h1,stepsIn_wide.2 h2⟩
 |halt x w'=>cases x<;>simp only [Oper.upon,Oper.uponIn] at h ⊢<;>exact h
theorem B5 {ops:Array Oper} (hnd:∀ (i:Nat) o,ops[i]?=some o→∀ c,o.op≠.defer c):
 ∀ (l:List Nat) (a:Act) (w:World),wpOps P ops (QN R K) l a w→wpOpsIn (jy ro) n P ops (QN R K) l a w:=by
 intro l
 induction l with
 |nil=>intro a w h;exact h
 |cons i rest ih=>
  intro a w h;simp only [wpOps,wpOpsIn] at h ⊢;cases ho:ops[i]? with
  |none=>simp only [ho] at h ⊢;exact ih a w h
  |some o=>
   simp only [ho] at h ⊢;split
   ·rename_i hw
    simp only [hw,if_true] at h;exact Jt (hnd i o ho) ih (h.resolve_right fun hh=>Ek hh.2)
   rename_i hw;simp only [hw,if_false,qa8] at h;exact ⟨fun _ _=>trivial,ih _ w h⟩
variable {id:Nat}
theorem Ht (hd:iL l=true) (h:wpList P l.toArray (QN R K) l a w):(Code.region id l.toArray false).wpIn (jy ro) n P (QN R K) a w:=
 wpIn_region (B5 (sn hd) _ a w (by
  have:=wpOps_eq_wpList (P:=P) (ops:=l.toArray) (Q:=QN R K) l 0 aC;rw [List.range_eq_range',List.size_toArray,this];exact h))
theorem yR (hd:iL l=true) (hm:P.follows .mixedOrders=true)
 (h:wpAny P .any l.toArray (QN R K) l.toArray.size (Array.replicate l.toArray.size false) a {w with drawn:=w.drawn+1}):(Code.region id l.toArray true).wpIn (jy ro) n P (QN R K) a w:=
 wpIn_region_draw fun t=>by
  simp only [Region.schedule,hm,qi7,if_true];exact B5 (sn hd) _ a _ (wpAny_sound _ t _ a _ h)
def oz:Code→Bool
 | .seq a b=>oz a&&oz b
 | .cond _ a b=>oz a&&oz b
 | .block _ c=>oz c
 | .loop c=>oz c
 | .rangeFunc _ _ _ _=>false
 | .scope c=>oz c
 |_=>true
def Ju (ro:Option Nat) (c:Code):Prop:=ro=none∨oz c=true
def AW (P:Program) (c:Code) (s:St) (Q:Exit→St→Prop):Prop:=
 ∀ ro,Ju ro c→∀ R β G a w,fw R β G s a w→c.wpIn (jy ro) 0 P (RX R Q) a w
variable {c:Code} {s:St} {Q:Exit→St→Prop}
theorem jN {Q':Exit→St→Prop} (h:AW P c s Q) (hq:∀ e s,Q e s→Q' e s):AW P c s Q':=
 fun ro ho R β G a w hr=>wpIn_mono (h ro ho R β G a w hr) (fun e _ _ ⟨β',G',s',hs,hr'⟩=>⟨β',G',s',hq e s' hs,hr'⟩)
theorem FN:∀ e a w,QN R (Q .normal) e a w→RX R Q e a w:=fun e a w h=>by
 cases e<;>first|exact h|exact h.elim
theorem dU (h:ew P l.toArray l s (Q .normal)) (hd:iL l=true:=by rfl):AW P (.region id l.toArray false) s Q:=
 fun ro _ R β G a w hr=>wpIn_mono (Ht hd (h R β G a w _ (fun _ _ h=>h) hr)) FN
variable {y:Code}
theorem bH {x:Code} (h:∀ K:St→Prop,(∀ s,AW P y s Q→K s)→AW P x s (vG K Q)):AW P (.seq x y) s Q:=by
 intro ro ho R β G a w hr;have hox:Ju ro x:=ho.imp (fun h=>h) fun h=>by simp only [oz,qa1] at h;exact h.1
 have hoy:Ju ro y:=ho.imp (fun h=>h) fun h=>by simp only [oz,qa1] at h;exact h.2
 refine wpIn_seq (wpIn_mono (h (fun s=>AW P y s Q) (fun _ h=>h) ro hox R β G a w hr) (fun e a₁ w₁ hq=>?_));obtain ⟨β',G',s',hs,hr'⟩:=hq;cases e with
 |normal=>exact hs ro hoy R β' G' a₁ w₁ hr'
 |_=>exact ⟨β',G',s',hs,hr'⟩
theorem FL (h:Q .normal s):AW P .skip s Q:=fun _ _ _ β G _ _ hr=>wpIn_skip ⟨β,G,s,h,hr⟩
theorem Jp (h:Q .ret s):AW P .ret s Q:=fun _ _ _ β G _ _ hr=>wpIn_ret ⟨β,G,s,h,hr⟩
theorem FK (h:Q (.exit id) s):AW P (.exit id) s Q:=fun _ _ _ β G _ _ hr=>wpIn_exit ⟨β,G,s,h,hr⟩
theorem bE (h:AW P c s (Eg id Q)):AW P (.block id c) s Q:=by
 intro ro ho R β G a w hr;refine wpIn_block (wpIn_mono (h ro (ho.imp (fun h=>h) fun h=>h) R β G a w hr) (fun e a' w' hq=>?_));obtain ⟨β',G',s',hs,hr'⟩:=hq;cases e with
 |exit id'=>
  simp only [Eg] at hs;simp only [Exit.inBlock];split at hs
  ·rename_i he;rw [if_pos he];exact ⟨β',G',s',hs,hr'⟩
  rename_i he;rw [if_neg he];exact ⟨β',G',s',hs,hr'⟩
 |_=>exact ⟨β',G',s',hs,hr'⟩
theorem Ao {c:Operand} {x:Code} {b:Bool} (hc:s.eval c= .bool b) (ht:b=true→AW P x s Q) (hf:b=false→AW P y s Q):AW P (.cond c x y) s Q:=by
 intro ro ho R β G a w hr;have hox:Ju ro x:=ho.imp (fun h=>h) fun h=>by simp only [oz,qa1] at h;exact h.1
 have hoy:Ju ro y:=ho.imp (fun h=>h) fun h=>by simp only [oz,qa1] at h;exact h.2
 have h:=hr.eval c;rw [hc] at h;exact wpIn_cond_split (jk h) (fun hb=>ht hb ro hox R β G a w hr) (fun hb=>hf hb ro hoy R β G a w hr)
theorem least {p:Nat→Prop} (h:∃ n,p n):∃ n,p n∧∀ m,p m→n≤m:=by
 obtain ⟨n,hn⟩:=h
 induction n using Nat.strongRecOn with
 |_ n ih=>
  by_cases hex:∃ m,m < n∧p m
  ·obtain ⟨m,hm,hp⟩:=hex;exact ih m hm hp
  exact ⟨n,hn,fun m hm=>Nat.le_of_not_lt fun hlt=>hex ⟨m,hlt,hm⟩⟩
theorem FO (I:Nat→St→Prop) {n0:Nat} (h0:I n0 s)
 (hr:∀ n s,I n s→AW P c s (vG (fun s'=>∃ m,m < n∧I m s') Q)):AW P (.loop c) s Q:=by
 intro ro ho R β G a w hrep;let p:Act→World→Nat→Prop:=fun a w n=>∃ β G s,I n s∧fw R β G s a w;have hex:∀ a w,(∃ n,p a w n)→∃ n,p a w n∧∀ m,p a w m→n≤m:=fun a w h=>least h;let m:Act→World→Nat:=fun a w=>@dite Nat (∃ n,p a w n) (Classical.propDecidable _) (fun h=>Classical.choose (hex a w h)) (fun _=>0);have hm:∀ a w (h:∃ n,p a w n),p a w (m a w)∧∀ k,p a w k→m a w≤k:=fun a w h=>by
  simp only [m,dif_pos h];exact Classical.choose_spec (hex a w h)
 refine wpIn_loop (fun a w=>∃ n,p a w n) m ⟨n0,β,G,s,h0,hrep⟩ fun a w hI=>?_;obtain ⟨⟨β1,G1,s1,hs1,hr1⟩,hmin⟩:=hm a w hI;refine wpIn_mono (hr _ s1 hs1 ro (ho.imp (fun h=>h) fun h=>h) R β1 G1 a w hr1) (fun e a' w' hq=>?_);obtain ⟨β',G',s',hs,hr'⟩:=hq;cases e with
 |normal=>
  obtain ⟨k,hlt,hi⟩:=hs;have hex':∃ n,p a' w' n:=⟨k,β',G',s',hi,hr'⟩
  exact ⟨hex',Nat.lt_of_le_of_lt ((hm a' w' hex').2 _ ⟨β',G',s',hi,hr'⟩) hlt⟩
 |_=>exact ⟨β',G',s',hs,hr'⟩
def Le (s s':St):Prop:=∀ R β G a w,fw R β G s a w→∃ β' G',fw R β' G' s' a w
theorem Le.refl (s:St):Le s s:=fun _ β G _ _ h=>⟨β,G,h⟩
theorem Le.trans {a b c:St} (h:Le a b) (k:Le b c):Le a c:=fun R β G x w hr=>let ⟨β',G',h'⟩:=h R β G x w hr;k R β' G' x w h'
theorem cE {s':St} (hle:Le s s') (h:AW P c s' Q):AW P c s Q:=
 fun ro ho R β G a w hr=>let ⟨β',G',hr'⟩:=hle R β G a w hr;h ro ho R β' G' a w hr'
inductive oh:List AV→List AV→Prop
 |nil:oh [] []
 |keep {x l l'}:oh l l'→oh (x::l) (x::l')
 |drop {x l l'}:oh l l'→oh (x::l) (.any::l')
theorem oh.get {l l':List AV} (h:oh l l'):l.length=l'.length∧∀ (i:Nat) x',l'[i]?=some x'→∃ x,l[i]?=some x∧(x'=x∨x'= .any):=by
 induction h with
 |nil=>exact ⟨rfl,fun i x h=>by simp at h⟩
 |keep _ ih=>exact ⟨by simp [ih.1],fun i x' h=>by cases i with
  |zero=>exact ⟨_,rfl,.inl (by simpa using h.symm)⟩
  |succ i=>simpa using ih.2 i x' (by simpa using h)⟩
 |drop _ ih=>exact ⟨by simp [ih.1],fun i x' h=>by cases i with
  |zero=>exact ⟨_,rfl,.inr (by simpa using h.symm)⟩
  |succ i=>simpa using ih.2 i x' (by simpa using h)⟩
def iE (l l':Hp):Prop:=∀ i b,bp l' i=some b→bp l i=some b
theorem ea {f f':List AV} {h h':Hp} (hf:oh f f') (hh:iE h h'):Le ⟨f,h⟩ ⟨f',h'⟩:=by
 intro R β G a w hr;obtain ⟨h1,h2⟩:=hf.get;refine ⟨β,G,hr.defers,by rw [hr.size];exact h1,fun i x y hx hy=>?_,⟨hr.hp.gs,fun id bk hi=>hr.hp.blk id bk (hh _ _ hi),fun i j b t t' hi hj=>?_,hr.hp.keeps,hr.hp.kH,hr.hp.kL,hr.hp.iC.sub fun i hi=>by obtain ⟨b,hb⟩:=qb0.1 hi;rw [hh i b hb];rfl⟩⟩
 ·obtain ⟨x0,hx0,he⟩:=h2 i x hx
  rcases he with rfl|rfl
  ·exact hr.fr i _ y hx0 hy
  exact .any
 obtain ⟨b1,hb1⟩:=qb0.1 hi;obtain ⟨b2,hb2⟩:=qb0.1 hj;exact hr.hp.inj i j b t t' (by simp [hh _ _ hb1]) (by simp [hh _ _ hb2])
def mA (G:bI) (w:World):Prop:=∀ b o,G b=some o→w.heap[b]?=some o
def w5 (G:bI) (args:List AV) (vals:List Value):Prop:=args.length=vals.length∧∀ (j:Nat) x y,args[j]?=some x→vals[j]?=some y→Conc G na x y
def bm (P:Program) (f:FuncId) (args:List AV) (Q:AV→Prop):Prop:=
 ∀ G w vals,mA G w→w5 G args vals→Calls P f vals.toArray w fun e w'=>∃ y G' x,e= .returned y∧Q x∧Conc G' na x y∧
  (∀ b,G' b≠none→G b≠none∨w.heap.size≤b)∧mA G' w'∧Ext w w'
variable {args:List AV}
theorem bm.mono {Q Q':AV→Prop} (h:bm P f args Q) (hq:∀ x,Q x→Q' x):bm P f args Q':=
 fun G w vals h1 h2=>(h G w vals h1 h2).mono fun _ _ ⟨y,G',x,he,hQ,rest⟩=>⟨y,G',x,he,hq x hQ,rest⟩
def RV (P:Program) (rs:Array ResultVar) (s:St) (x:AV):Prop:=
 ∀ fn:Func,fn.results=rs→∀ R β G a w,fw R β G s a w→∃ y,(results fn a.tmps).run P w= .ok y w∧Conc G β x y
def El (tmps:Array Value):ResultVar→Sem Value
 | .tmp t=>pure (tmps.getD t undef)
 | .cell a t=>do loadVar t (← asAddr (tmps.getD a undef))
theorem mI (fn:Func) (tmps:Array Value):results fn tmps=(do
 let vs ← fn.results.mapM (El tmps)
 pure (if h:vs.size=1 then vs[0] else .tuple vs)):=by
 unfold results;congr 2
def kh (P:Program) (r:ResultVar) (s:St) (x:AV):Prop:=
 ∀ R β G a w,fw R β G s a w→∃ y,(El a.tmps r).run P w= .ok y w∧Conc G β x y
variable {x:AV}
theorem aW {t:Tmp} (h:s.fr[t]?=some x):kh P (.tmp t) s x:=fun R β G a w hr=>by
 have:=hr.eval (.tmp t);simp only [St.eval,qh7,h,qf3] at this;exact ⟨_,rfl,this⟩
theorem bn {p:Tmp} {t:TypeId} (h:PV P (.load t (.tmp p)) s x):kh P (.cell p t) s x:=fun R β G a w hr=>by
 obtain ⟨y,hy,hrun⟩:=h R β G a w hr;refine ⟨y,?_,hy⟩;have := hrun w none 0 "" #[] none (Below.refl _ _);simp only [execOp,Act.eval,Instr.loadAt] at this;simp only [El];generalize a.tmps.getD p undef=v at *;cases v with
 |pointer ad=>
  cases ad with
  |none=>simp [Instr.sureAddr] at this
  |some ad=>
   simp only [Instr.sureAddr,asAddr,Sem.run_bind,Sem.run_pure,qb1] at this ⊢;cases hl:(loadVar t ad).run P w with
   |ok u w'=>rw [hl] at this;simp at this;rw [this.1,this.2]
   |halt u w'=>rw [hl] at this;simp at this
 |_=>simp [Instr.sureAddr] at this
variable {r:ResultVar}
theorem aX (h:kh P r s x):RV P #[r] s x:=fun fn hf R β G a w hr=>by
 obtain ⟨y,h1,h2⟩:=h R β G a w hr;refine ⟨y,?_,h2⟩;rw [mI,hf];simp [Array.mapM_eq_mapM_toList,h1]
variable {q:ResultVar} {z:AV}
theorem du (h:kh P r s x) (h':kh P q s z):RV P #[r,q] s (.dC [x,z]):=fun fn hf R β G a w hr=>by
 obtain ⟨y,h1,h2⟩:=h R β G a w hr;obtain ⟨u,k1,k2⟩:=h' R β G a w hr;refine ⟨.tuple #[y,u],?_,?_⟩
 ·rw [mI,hf]
  simp [Array.mapM_eq_mapM_toList,h1,k1]
 have:=Conc.dC (G:=G) (β:=β) (cs:=[x,z]) [y,u] rfl (by
  intro j a b ha hb
  match j with
  |0=>simp at ha hb;subst ha;subst hb;exact h2
  |1=>simp at ha hb;subst ha;subst hb;exact k2
  |j+2=>simp at ha)
 simpa using this
theorem tD {t:ResultVar} {m:AV} (h:kh P r s x) (h':kh P q s z) (h'':kh P t s m):RV P #[r,q,t] s (.dC [x,z,m]):=fun fn hf R β G a w hr=>by
 obtain ⟨y,h1,h2⟩:=h R β G a w hr;obtain ⟨u,k1,k2⟩:=h' R β G a w hr;obtain ⟨v,l1,l2⟩:=h'' R β G a w hr;refine ⟨.tuple #[y,u,v],?_,?_⟩
 ·rw [mI,hf]
  simp [Array.mapM_eq_mapM_toList,h1,k1,l1]
 have:=Conc.dC (G:=G) (β:=β) (cs:=[x,z,m]) [y,u,v] rfl (by
  intro j a b ha hb
  match j with
  |0=>simp at ha hb;subst ha;subst hb;exact h2
  |1=>simp at ha hb;subst ha;subst hb;exact k2
  |2=>simp at ha hb;subst ha;subst hb;exact l2
  |j+3=>simp at ha)
 simpa using this
def Fin (P:Program) (rs:Array ResultVar) (Q:AV→Prop):Exit→St→Prop
 | .normal,s| .ret,s=>∃ s' x,Le s s'∧RV P rs s' x∧x.gq=true∧Q x
 |_,_=>False
variable {G:bI} {w':World}
theorem sh (h:mA G w) (he:Ext w w'):mA G w':=
 fun b o hb=>by rw [he.block b (db (h b o hb))];exact h b o hb
def bI.del (G:bI) (D:Nat):bI:=fun k=>if k=D then none else G k
variable {D:Nat} {o:Option (List Deferred)}
theorem zd (hD:G D=some (.deferred o)) {a:Addr} {y:Value} (h:ep G a=some y):ep (G.del D) a=some y:=by
 unfold ep at *;by_cases hb:a.block=D
 ·rw [hb,hD] at h;cases h
 simp only [bI.del,hb,if_false];exact h
variable {β:c9} {hp:Hp}
theorem dx.QG (h:dx R β G hp w) (hn:R.w0.heap.size≤D) (hD:G D=some (.deferred o)):dx R β (G.del D) hp (w.putObj D (.deferred none)):=by
 have hoth:∀ b,b≠D→(w.putObj D (.deferred none)).heap[b]?=w.heap[b]?:=fun b hb=>World.putObj_heap_other hb;have hc:∀ {x y},Conc G β x y→Conc (G.del D) β x y:=fun hc=>hc.yQ (fun _ _=>rfl) fun _ _ h=>zd hD h;refine ⟨fun b x hb=>?_,fun id bk hi=>?_,h.inj,?_,fun b hb=>?_,h.kL,h.iC⟩
 ·simp only [bI.del] at hb
  split at hb
  ·cases hb
  rename_i hne;rw [hoth b hne];exact h.gs b x hb
 ·have:=h.blk id bk hi
  unfold bZ at this ⊢;cases hβ:β id with
  |no=>rw [hβ] at this;exact this
  |nil=>rw [hβ] at this;exact this
  |«at» b t=>
   rw [hβ] at this;obtain ⟨g1,g2,arr,g3,g4,g5,g6,g7⟩:=this;have hne:b≠D:=fun e=>by subst e;rw [hD] at g1;cases g1
   exact ⟨by simp only [bI.del,hne,if_false];exact g1,g2,arr,by rw [hoth b hne];exact g3,g4,g5,g6,fun j x y hx hy=>hc (g7 j x y hx hy)⟩
  |gh o=>
   rw [hβ] at this;rcases this with ⟨outs,g0,gf,g1,g2,g3⟩|⟨b,es,clock,e0,e1,e2,e3,e4,e5⟩
   ·refine .inl ⟨outs,g0,gf,?_,g2,fun j x y hx hy=>hc (g3 j x y hx hy)⟩
    cases o with
    |none=>exact g1
    |some p=>
     obtain ⟨h0,hm,D',f',h1,h2,h3,h6,h4,h5⟩:=g1;exact ⟨h0,hm,D',f',h1,h2,h3,h6,by simp only [bI.del];rw [if_neg ak];exact h4,by simp only [bI.del];rw [if_neg ak];exact h5⟩
   exact .inr ⟨b,es,clock,e0,e1,e2,by simp only [bI.del];rw [if_neg (fun e=>by subst e;rw [hD] at e3;cases e3)];exact e3,e4,fun j x y hx hy=>hc (e5 j x y hx hy)⟩
 ·have hk:=h.keeps
  refine ⟨hk.os,hk.tape,hk.output,by have:=hk.size;simpa [World.putObj] using this,fun k h1 h2=>?_⟩;rw [hoth k ak];exact hk.block k h1 h2
 simp only [bI.del] at hb;split at hb
 ·exact absurd rfl hb
 exact h.kH b hb
theorem zf {F:Fence} {n:Nat} {fn:Func} {tmps:Array Value} {R':Ending→World→Prop} {R:Rg} {β:c9} {hp:Hp} (C:bI→World→Prop)
 (hC:∀ (G:bI) w D,C G w→dx R β G hp w→R.w0.heap.size≤D→G D=some (.deferred (some []))→C (G.del D) (w.putObj D (.deferred none)))
 (hend:∀ G w,dx R β G hp w→C G w→∃ y,(results fn tmps).run P w= .ok y w∧R' (.returned y) w):∀ (Ds:List Nat) (G:bI) (w:World),dx R β G hp w→C G w→Ds.Nodup→(∀ D∈Ds,R.w0.heap.size≤D∧G D=some (.deferred (some [])))→
  LeavesInM F n P fn tmps R' (Ds.map fun D=>{target:=.collected D,args:=#[]}) .returning w
 |[],G,w,h,hc,_,_=>by
  obtain ⟨y,h1,h2⟩:=hend G w h hc;exact ⟨y,h1,h2⟩
 |D::Ds,G,w,h,hc,hnd,hD=>by
  obtain ⟨d1,d2⟩:=hD D aC;refine ⟨by simp,.inl ⟨D,_,rfl,run_takeDeferred (h.gs D _ d2),zf C hC hend Ds (G.del D) _ (h.QG d1 d2) (hC G w D hc h d1 d2) (List.nodup_cons.1 hnd).2 fun D' hD'=>?_⟩⟩;obtain ⟨e1,e2⟩:=hD D' (by simp [hD']);exact ⟨e1,by simp only [bI.del];rw [if_neg (fun e:D'=D=>(List.nodup_cons.1 hnd).1 (e ▸ hD'))];exact e2⟩
variable {fn:Func} {rs:Array ResultVar}
theorem iq {vals:Array Value} {post:Ending→World→Prop}
 (hf:P.funcs[f]?=some fn) (hb:fn.body=some c) (hrs:fn.results=rs) (hrep:fw R β G s {tmps:=vals++Array.replicate (fn.ntmps - vals.size) undef,defers:=[]} w) (h:AW P c s Q)
 (hq:∀ e s',Q e s'→(e= .normal∨e= .ret)∧∃ s'' x,Le s' s''∧RV P rs s'' x∧∀ β2 G2 y w2,Conc G2 β2 x y→dx R β2 G2 s''.hp w2→post (.returned y) w2):Calls P f vals w post:=by
 refine (callsIn_wide (n:=0)).1 (callsIn_of_wp_marks hf hb trivial (wpIn_mono (h none (.inl rfl) R β G _ w hrep) fun e a' w' hx=>?_));obtain ⟨β',G',s',hs,hr'⟩:=hx;obtain ⟨he,s'',x,hle,hrv,hpost⟩:=hq e s' hs;obtain ⟨β2,G2,hr2⟩:=hle _ _ _ _ _ hr';obtain ⟨Ds,d1,d2,d3⟩:=hr2.defers;have key:LeavesInM Fence.wide 0 P fn a'.tmps post a'.defers .returning w':=by rw [d1];refine zf (R:=R) (β:=β2) (hp:=s''.hp) (fun G w=>∀ (i:Nat) u v,s''.fr[i]?=some u→a'.tmps[i]?=some v→Conc G β2 u v) (fun G w D hc _ _ hD i u v hu hv=>(hc i u v hu hv).yQ (fun _ _=>rfl) fun _ _ h=>zd hD h) (fun G3 w3 hH hC=>?_) Ds G2 w' hr2.hp hr2.fr d2 d3;obtain ⟨y,hy,hcy⟩:=hrv fn hrs R β2 G3 {a' with defers:=[]} w3 ⟨uO,hr2.size,hC,hH⟩;exact ⟨y,hy,hpost _ _ _ _ hcy hH⟩
 rcases he with rfl|rfl<;>exact key
theorem jS {vals:List Value} (hl:args.length=vals.length) (hc:∀ (j:Nat) x y,args[j]?=some x→vals[j]?=some y→Conc G β x y) (hH:dx R β G hp w):
 fw R β G ⟨args++List.replicate (n - args.length) .any,hp⟩ {tmps:=vals.toArray++Array.replicate (n - vals.toArray.size) undef,defers:=[]} w:=by
 refine ⟨uO,by simp [hl],fun i x y hx hy=>?_,hH⟩;by_cases hi:i < args.length
 ·rw [qe1 hi] at hx
  rw [Array.getElem?_append_left aO] at hy;exact hc i x y hx (by simpa using hy)
 rw [qc7 ak,qk9] at hx;split at hx<;>simp at hx;subst hx;exact .any
theorem B0 {Q:AV→Prop} (hf:P.funcs[f]?=some fn) (hb:fn.body=some c) (hn:fn.ntmps=n) (hrs:fn.results=rs)
 (h:AW P c ⟨args++List.replicate (n - args.length) .any,[]⟩ (Fin P rs Q)):bm P f args Q:=by
 intro G w vals hG ⟨hl,hc⟩;subst hn;refine iq (R:=⟨w,fun _=>False,G,fun _=>none,nb.no⟩) (β:=na) (G:=G) hf hb hrs (jS hl hc ⟨hG,fun id bk h=>by simp [bp] at h,fun i j b t t' h=>by simp [bp] at h,⟨rfl,rfl,rfl,qb3 _,fun _ _ _=>rfl⟩,fun b h=>.inl h,sX,jw.nil⟩) h fun e s' hq=>?_;have key:(∃ s'' x,Le s' s''∧RV P rs s'' x∧x.gq=true∧Q x)→∃ s'' x,Le s' s''∧RV P rs s'' x∧∀ β2 G2 y w2,Conc G2 β2 x y→dx ⟨w,fun _=>False,G,fun _=>none,nb.no⟩ β2 G2 s''.hp w2→
  (fun (e:Ending) (w':World)=>∃ y G' x,e=Ending.returned y∧Q x∧Conc G' na x y∧(∀ b,G' b≠none→G b≠none∨w.heap.size≤b)∧mA G' w'∧Ext w w') (.returned y) w2:=by
  rintro ⟨s'',x,hle,hrv,hp,hQ⟩;refine ⟨s'',x,hle,hrv,fun β2 G2 y w2 hcy hH=>⟨y,G2,x,rfl,hQ,hcy.oq hp na,(fun b hb=>(hH.kH b hb).imp (fun h=>h) (fun h=>h.elim (fun h=>h) (fun h=>h.elim))),hH.gs,?_⟩⟩;have hk:=hH.keeps;exact ⟨hk.os,hk.tape,hk.output,hk.size,fun k hk'=>hk.block k hk' aC⟩
 cases e with
 |normal=>exact ⟨.inl rfl,key hq⟩
 |ret=>exact ⟨.inr rfl,key hq⟩
 |_=>exact hq.elim
theorem fw.later {G':bI} (h:fw R β G s a w) (he:Ext w w') (hG':mA G' w') (hd:∀ b,G' b≠none→G b≠none∨w.heap.size≤b):
 ∃ G'',fw R β G'' s a w'∧(∀ b o,G' b=some o→G'' b=some o):=by
 let G'':bI:=fun b=>match G b with|some o=>some o|none=>G' b
 have hgs:mA G w':=sh h.hp.gs he;have m1:∀ b o,G b=some o→G'' b=some o:=fun b o hb=>by simp [G'',hb]
 have m2:∀ b o,G' b=some o→G'' b=some o:=fun b o hb=>by
  cases hg:G b with
  |none=>simp [G'',hg,hb]
  |some o'=>
   have e1:=hgs b o' hg;have e2:=hG' b o hb;rw [e1] at e2;injection e2 with e2;subst e2
   exact m1 b _ hg
 refine ⟨G'',⟨h.defers.mono m1,h.size,fun i x y hx hy=>(h.fr i x y hx hy).mono m1,⟨fun b o hb=>?_,fun id bk hi=>?_,h.hp.inj,?_,fun b hb=>?_,h.hp.kL,h.hp.iC⟩⟩,m2⟩
 ·simp only [G''] at hb
  split at hb
  ·rename_i o' hg;injection hb with hb;subst hb;exact hgs b _ hg
  exact hG' b o hb
 ·have:=h.hp.blk id bk hi
  unfold bZ at this ⊢;cases hβ:β id with
  |no=>rw [hβ] at this;exact this
  |nil=>rw [hβ] at this;exact this
  |«at» b t=>
   rw [hβ] at this;obtain ⟨g1,g2,arr',g3,g4,g5,g6,g7⟩:=this;refine ⟨?_,g2,arr',by rw [he.block b (db g3)];exact g3,g4,g5,g6,fun j x y hx hy=>(g7 j x y hx hy).mono m1⟩;simp only [G'',g1];cases hq:G' b with
   |none=>rfl
   |some o=>
    rcases hd b (by rw [hq];simp) with h1|h1
    ·exact absurd g1 h1
    have:=db g3;omega
  |gh o=>rw [hβ] at this;exact gA this m1 fun x _ y hc=>hc.mono m1
 ·have hk:=h.hp.keeps
  refine ⟨he.os.trans hk.os,he.tape.trans hk.tape,he.output.trans hk.output,qd3 hk.size he.size,fun k h1 h2=>?_⟩;rw [he.block k (qi4 h1 hk.size)];exact hk.block k h1 h2
 have hb':G b≠none∨G' b≠none:=by
  simp only [G''] at hb;cases hg:G b with
  |none=>rw [hg] at hb;exact .inr hb
  |some o=>exact .inl aC
 rcases hb' with hb'|hb'
 ·exact h.hp.kH b hb'
 rcases hd b hb' with h1|h1
 ·exact h.hp.kH b h1
 exact .inr (.inl (qd3 h.hp.keeps.size h1))
theorem xy (hf : P.funcs[f]? = some fn) (hb : fn.body = some c) (hn : fn.name ≠ "runtime.NumGoroutine") (args : Array Value) (w : World):
 (callFunc f args).run P w= .ok (.enter f args) w:=by
 simp [callFunc,hf,hn,hb]
class cI (P:Program) (f:FuncId):Prop where
 ok:∀ args w,(callFunc f args).run P w= .ok (.enter f args) w
 lt:f < 1000000000
def cv (s:St) (args:Array Operand):List AV:=args.toList.map s.eval
theorem o5 (h:fw R β G s a w) (args:Array Operand) (hp:AV.cu (cv s args)=true):
 w5 G (cv s args) (args.map a.eval).toList:=by
 refine ⟨by simp [cv],fun j x y hx hy=>?_⟩;have hpx:=gB hp hx;simp only [cv,qc9,qg4,qa6,Array.getElem?_map] at hx hy;obtain ⟨o,h1,rfl⟩:=hx;obtain ⟨o',h2,rfl⟩:=hy;rw [h1] at h2;injection h2 with h2;subst h2
 exact (h.eval o).oq hpx na
theorem cM {d:Option Tmp} {args:Array Operand} {fx:Array TypeId} {ty:TypeId} {pos:String} {bF:Array Edge} {g:Option (Nat×Bool)} {Q:AV→Prop} [hc:cI P f]
 (h:bm P f (cv s args) Q) (hp:AV.cu (cv s args)=true) (hk:∀ x,Q x→K (s.put d x)):ff P ⟨d,.call {callee:=.value (.func f),args,argTypes:=fx},ty,pos,bF,g⟩ s K:=by
 intro R β G a w Q' hr;have hrun:(execOp a.eval ⟨d,.call {callee:=.value (.func f),args,argTypes:=fx},ty,pos,bF,g⟩).run P w= .ok (.enter f (args.map a.eval)) w:=by simp [execOp,resolve,Act.eval,Deferred.ofValue,invoke,hc.ok]
 unfold Oper.wp;rw [hrun,Oper.upon_enter];have:=h G w (args.map a.eval).toList hr.hp.gs (o5 hr args hp);simp only [qf5] at this;refine this.mono fun e w' ⟨y,G',x,he,hQ,hcx,hd,hG',hext⟩=>?_;subst he;obtain ⟨G'',hr',hm⟩:=hr.later hext hG' hd;exact ⟨β,G'',_,hk x hQ,hr'.put d ((hcx.mono hm).free β)⟩
end Go.Ab
namespace Go.Ab
variable {P:Program}
theorem bJ {t:TypeId} {z:Value} {n b:Nat} (h:(P.info? t).map (fun i=>(i.zero,i.size,i.bytes))=some (some z,n,b)):dI P t z n b:=by
 cases hi:P.info? t with
 |none=>rw [hi] at h;simp at h
 |some i=>
  rw [hi] at h;simp only [qg2,qd9,qg8] at h;exact ⟨⟨i,hi,h.1,h.2.1,h.2.2⟩⟩
theorem bd {f : FuncId} {fn : Func} (hf : P.funcs[f]? = some fn) (hs : fn.body.isSome = true) (hn : (fn.name == "runtime.NumGoroutine") = false) (hlt : f < 1000000000 := by decide) : cI P f := by
 obtain ⟨c,hc⟩:=qb0.1 hs;exact ⟨fun args w=>xy hf hc (by simpa using hn) args w,hlt⟩
end Go.Ab
namespace Go.Ab
variable {P:Program}
variable {c:Operand} {x y:Code} {s:St} {Q:Exit→St→Prop}
theorem BY (hc:s.eval c= .bool true) (h:AW P x s Q):AW P (.cond c x y) s Q:=
 Ao hc (fun _=>h) (fun h=>by cases h)
theorem BZ (hc:s.eval c= .bool false) (h:AW P y s Q):AW P (.cond c x y) s Q:=
 Ao hc (fun h=>by cases h) (fun _=>h)
theorem aY {rs:Array ResultVar} {Q:AV→Prop} {e:Exit} {s':St} {x:AV} (hle:Le s s') (hrv:RV P rs s' x) (hp:x.gq=true) (hQ:Q x) (he:e= .ret∨e= .normal:=by first|exact .inl rfl|exact .inr rfl):Fin P rs Q e s:=by
 have:∃ s' x,Le s s'∧RV P rs s' x∧x.gq=true∧Q x:=⟨s',x,hle,hrv,hp,hQ⟩
 rcases he with rfl|rfl<;>exact this
def kN:List Nat→List AV→List AV
 |[],f=>f
 |i::r,f=>kN r (f.set i .any)
def ib:List (Nat×AV)→List AV→List AV
 |[],f=>f
 |(i,x)::r,f=>ib r (f.set i x)
theorem ba {ι:Type} {c:Code} {fr:List AV} {hp:Hp} (ws:List Nat) (C:ι→Prop) (μ:ι→Nat) (sl:ι→List (Nat×AV)) (hq:ι→Hp) (i0:ι) (h0:C i0)
 (hs:Le ⟨fr,hp⟩ ⟨ib (sl i0) (kN ws fr),hq i0⟩)
 (hr:∀ i,C i→∀ K:St→Prop,(∀ s',(∃ j,C j∧μ j < μ i∧Le s' ⟨ib (sl j) (kN ws fr),hq j⟩)→K s')→AW P c ⟨ib (sl i) (kN ws fr),hq i⟩ (vG K Q)):AW P (.loop c) ⟨fr,hp⟩ Q:=by
 refine cE hs (FO (fun n s=>∃ i,C i∧μ i=n∧s=⟨ib (sl i) (kN ws fr),hq i⟩) ⟨i0,h0,rfl,rfl⟩ ?_);rintro n s ⟨i,hi,rfl,rfl⟩;refine fun ro ho R β G a w hrep=>wpIn_mono (hr i hi (fun s'=>∃ j,C j∧μ j < μ i∧Le s' ⟨ib (sl j) (kN ws fr),hq j⟩) (fun _ h=>h) ro ho R β G a w hrep) (fun e a' w' hx=>?_);obtain ⟨β',G',s',hs',hr'⟩:=hx;cases e with
 |normal=>
  obtain ⟨j,hj,hlt,hle⟩:=hs';obtain ⟨β2,G2,hr2⟩:=hle R β' G' a' w' hr';exact ⟨β2,G2,_,⟨μ j,hlt,j,hj,rfl,rfl⟩,hr2⟩
 |_=>exact ⟨β',G',s',hs',hr'⟩
theorem bU {c:Code} {i sz bw:Nat} {es:List AV} (hx:s.fr[i]?=some (.cD sz bw es)) (h:es.length * bw≤140737488355328→AW P c s Q):AW P c s Q:=by
 intro ro ho R β G a w hr;have h1:=hr.eval (.tmp i);simp only [St.eval,qh7,hx,qf3] at h1;have hb:es.length * bw≤140737488355328:=by generalize a.eval (.tmp i)=y at h1;cases h1;assumption
 exact h hb ro ho R β G a w hr
theorem dG {x x':AV} {l l':List AV} (h:oh l l') (hx:x=x'):oh (x::l) (x'::l'):=hx ▸ .keep h
theorem Hk (h:Hp):iE h h:=fun _ _ h=>h
theorem fR (h:Hp):iE h []:=fun _ _ h=>by simp [bp] at h
end Go.Ab
namespace Go.Ab
open Go.RowKit
variable {P:Program}
def AV.dN (id:Nat) (x:AV):AV:=if AV.cq id x then .any else x
def AV.cG (id:Nat):List AV→List AV
 |[]=>[]
 |x::r=>AV.dN id x::AV.cG id r
def eQ (id:Nat):Hp→Hp
 |[]=>[]
 |(i,b)::r=>if i=id then eQ id r else (i,{b with cs:=AV.cG id b.cs})::eQ id r
def St.dN (s:St) (id:Nat):St:=⟨AV.cG id s.fr,eQ id s.hp⟩
@[simp] theorem R5 (id:Nat):AV.dN id .any= .any:=rfl
@[simp] theorem TT (id:Nat) (x:Value):AV.dN id (.v x)= .v x:=rfl
@[simp] theorem R6 (id a b:Nat) (es:List AV):AV.dN id (.cD a b es)= .cD a b es:=rfl
@[simp] theorem QH (id:Nat) (es:List AV):AV.dN id (.bC es)= .bC es:=rfl
@[simp] theorem oo (id i o:Nat):AV.dN id (.ptr i o)=if i=id then .any else .ptr i o:=by
 simp [AV.dN,AV.cq]
@[simp] theorem qo (id a b i o n:Nat):AV.dN id (.sl a b i o n)=if i=id then .any else .sl a b i o n:=by
 simp [AV.dN,AV.cq]
variable {id:Nat} {x:AV}
theorem o6 (h:x.gq=true):AV.dN id x=x:=by
 have key:∀ (x:AV),x.gq=true→AV.cq id x=false:=by
  intro x
  induction x using AV.rec (motive_2:=fun cs=>AV.cu cs=true→AV.bz id cs=false) with
  |agg cs ih=>intro h;simp only [AV.gq] at h;simp only [AV.cq];exact ih h
  |dC cs ih=>intro h;simp only [AV.gq] at h;simp only [AV.cq];exact ih h
  |fn f cs ih=>intro h;simp only [AV.gq] at h;simp only [AV.cq];exact ih h
  |ptr=>intro h;simp [AV.gq] at h
  |sl=>intro h;simp [AV.gq] at h
  |yl=>intro h;simp [AV.gq] at h
  |nil=>rfl
  |cons x r h1 h2=>rename_i h;simp only [AV.cu,qa1] at h;simp only [AV.bz,h1 h.1,h2 h.2,qf0]
  |_=>intro _;rfl
 simp [AV.dN,key x h]
theorem ja (id:Nat):∀ (l:List AV) (i:Nat),(AV.cG id l)[i]?=l[i]?.map (AV.dN id)
 |[],i=>by simp [AV.cG]
 |x::l,0=>by simp [AV.cG]
 |x::l,i+1=>by simp [AV.cG,ja id l i]
theorem dA (id:Nat) (l:List AV):(AV.cG id l).length=l.length:=by
 induction l with
 |nil=>rfl
 |cons x l ih=>simp [AV.cG,ih]
theorem uI (id:Nat) (l:List AV):AV.cG id l=l.map (AV.dN id):=by
 induction l with
 |nil=>rfl
 |cons x l ih=>simp [AV.cG,ih]
variable {α:Type}
theorem so (id:Nat) (f:α→AV) (xs:List α) (h:∀ a,(f a).gq=true):AV.cG id (xs.map f)=xs.map f:=by
 induction xs with
 |nil=>rfl
 |cons x l ih=>simp [AV.cG,ih,o6 (h x)]
theorem rW (id:Nat) (a b:List AV):AV.cG id (a++b)=AV.cG id a++AV.cG id b:=by
 induction a with
 |nil=>rfl
 |cons x l ih=>simp [AV.cG,ih]
theorem mC {l:List AV} (h:AV.cu l=true):AV.cG id l=l:=by
 induction l with
 |nil=>rfl
 |cons x l ih=>simp only [AV.cu,qa1] at h;simp [AV.cG,ih h.2,o6 h.1]
theorem dO (f:α→AV) (xs:List α) (h:∀ a,(f a).gq=true):AV.cu (xs.map f)=true:=by
 induction xs with
 |nil=>rfl
 |cons x l ih=>simp [AV.cu,ih,h x]
theorem ql (a b:List AV):AV.cu (a++b)=(AV.cu a&&AV.cu b):=by
 induction a with
 |nil=>rfl
 |cons x l ih=>simp [AV.cu,ih,Bool.and_assoc]
theorem fA (id:Nat) (hp:Hp) (i:Nat):bp (eQ id hp) i=if id=i then none else (bp hp i).map fun b=>{b with cs:=AV.cG id b.cs}:=by
 induction hp with
 |nil=>simp [eQ,bp]
 |cons p r ih=>
  obtain ⟨j,b⟩:=p;by_cases hj:j=id
  ·subst hj
   simp only [eQ,if_true,ih,bp];split<;>rfl
  simp only [eQ,hj,if_false,bp,ih];by_cases hji:j=i
  ·subst hji;simp [Ne.symm hj]
  simp [hji]
variable {hp:Hp}
theorem qy {i:Nat} (h:(bp (eQ id hp) i).isSome):(bp hp i).isSome∧i≠id:=by
 rw [fA] at h;split at h
 ·simp at h
 rename_i hne;exact ⟨by simpa using h,Ne.symm hne⟩
variable {β:c9}
theorem jw.dN (h:jw β hp) (k:BK):jw (β.set id k) (eQ id hp):=h.ext fun i _ hi=>by
 obtain ⟨h1,h2⟩:=qy hi;exact ⟨h1,by simp [c9.set,h2]⟩
variable {G:bI} {sz bw n:Nat}
theorem xz {off:Nat} {v:Value} (h:Conc G β (.sl sz bw id off n) v):β id= .nil∨∃ b t,β id= .at b t:=by
 cases h with
 |lU h=>exact .inl h
 |sl h=>exact .inr ⟨_,_,h⟩
theorem Conc.lO {β':c9} {y:Value} (h:Conc G β x y) (hβ:∀ i,i≠id→β' i=β i):Conc G β' (AV.dN id x) y:=by
 unfold AV.dN;split
 ·exact .any
 rename_i hm;exact h.ext (fun i hi=>hβ i (by rintro rfl;exact hm hi)) (fun _ _ h=>h)
variable {s:St}
theorem fw.Aq {R:Rg} {a:Act} {w w':World} (h:fw R β G s a w) {row:Option Nat} (hg:w.grownBy w' row)
 (hrow:∀ b,row=some b→∃ t,β id= .at b t) (hid:(bp s.hp id).isSome) (hlt:id≤999999999) (k:BK) (bk:iB)
 (hbk:match k with| .no=>False| .gh _=>False| .nil=>bk.cs=[]∧bk.full=false| .at b t=>(row=some b∨w.heap.size≤b)∧∃ arr:Array Value,w'.heap[b]?=some (.cells arr bk.T (0,0))∧arr.size=t∧bk.cs.length≤t∧
  (bk.full=true→bk.cs.length=t)∧∀ (j:Nat) x y,bk.cs[j]?=some x→arr[j]?=some y→Conc G (β.set id k) x y):
 fw R (β.set id k) G ⟨AV.cG id s.fr,cP (eQ id s.hp) id bk⟩ a w':=by
 obtain ⟨bk0,hbk0⟩:=qb0.1 hid;have hself:(β.set id k) id=k:=by simp [c9.set]
 have hoth:∀ i,i≠id→(β.set id k) i=β i:=fun i hi=>by simp [c9.set,hi]
 have hrb:∀ b,row=some b→G b=none∧(R.w0.heap.size≤b∨R.ex b)∧b < w.heap.size:=fun b hb=>by
  obtain ⟨t,ht⟩:=hrow b hb;obtain ⟨g1,g2,arr,g3,_⟩:=h.hp.block hbk0 ht;exact ⟨g1,g2,db g3⟩
 have hgs:∀ b o,G b=some o→b < w.heap.size∧w'.heap[b]?=some o:=fun b o hb=>by
  have h1:=h.hp.gs b o hb;refine ⟨db h1,?_⟩;rw [hg.block b (db h1) (fun e=>by have:=(hrb b e.symm).1;rw [hb] at this;cases this)];exact h1
 refine ⟨h.defers,by rw [dA];exact h.size,fun i x y hx hy=>?_,⟨fun b o hb=>(hgs b o hb).2,fun i bk' hi=>?_,fun i j b t t' hi hj hbi hbj=>?_,?_,h.hp.kH,h.hp.kL.set _ hlt,h.hp.iC.Hn _ ak fun i hne hi=>by
  rw [cO,if_neg (Ne.symm hne)] at hi;exact (qy hi).1⟩⟩
 ·rw [ja,qa6] at hx
  obtain ⟨x0,hx0,rfl⟩:=hx;exact (h.fr i x0 y hx0 hy).lO hoth
 ·rw [cO] at hi
  by_cases hid':id=i
  ·subst hid'
   simp only [if_true,qd9] at hi;subst hi;unfold bZ;rw [hself];cases k with
   |no=>exact hbk
   |gh o=>exact hbk.elim
   |nil=>exact hbk
   |«at» b t=>
    obtain ⟨hb,arr,e1,e2,e3,e4,e5⟩:=hbk;refine ⟨?_,?_,arr,e1,e2,e3,e4,e5⟩
    ·rcases hb with hb|hb
     ·exact (hrb b hb).1
     cases hq:G b with
     |none=>rfl
     |some o=>exact absurd (hgs b o hq).1 ak
    rcases hb with hb|hb
    ·exact (hrb b hb).2.1
    exact .inl (qd3 h.hp.keeps.size hb)
  simp only [hid',if_false,fA,qa6] at hi;obtain ⟨bk1,hi1,rfl⟩:=hi;have:=h.hp.blk i bk1 hi1;unfold bZ at this ⊢;rw [hoth i (Ne.symm hid')];cases hβ:β i with
  |no=>rw [hβ] at this;exact this
  |nil=>rw [hβ] at this;exact ⟨by rw [this.1];rfl,this.2⟩
  |«at» b t=>
   rw [hβ] at this;obtain ⟨g1,g2,arr',g3,g4,g5,g6,g7⟩:=this;refine ⟨g1,g2,arr',?_,g4,by simpa [dA] using g5,by simpa [dA] using g6,fun j x y hx hy=>?_⟩
   ·rw [hg.block b (db g3) (fun e=>by
     obtain ⟨t',ht'⟩:=hrow b e.symm;exact hid' (h.hp.inj id i b t' t hid (by rw [hi1];rfl) ht' hβ))]
    exact g3
   simp only [ja,qa6] at hx;obtain ⟨x0,hx0,rfl⟩:=hx;exact (g7 j x0 y hx0 hy).lO hoth
  |gh o=>rw [hβ] at this;exact qX this (fun _ _ h=>h) (AV.dN id) (fun x _ y hc=>hc.lO hoth) _ (uI _ _)
 ·have key:∀ i b t,i≠id→(bp (cP (eQ id s.hp) id bk) i).isSome→(β.set id k) i= .at b t→(bp s.hp i).isSome∧β i= .at b t∧b < w.heap.size:=by
   intro i b t hne his hbi;rw [cO,if_neg (Ne.symm hne),fA,if_neg (Ne.symm hne)] at his;rw [hoth i hne] at hbi;obtain ⟨bk1,hb1⟩:=qb0.1 his;rw [qa6] at hb1;obtain ⟨bk2,hb2,_⟩:=hb1;obtain ⟨_,_,arr',g3,_⟩:=h.hp.block hb2 hbi;exact ⟨by rw [hb2];rfl,hbi,db g3⟩
  have own:∀ b t,k= .at b t→row=some b∨w.heap.size≤b:=by intro b t hk;subst hk;exact hbk.1
  by_cases hi':i=id
  ·by_cases hj':j=id
   ·rw [hi',hj']
   exfalso;subst hi';rw [hself] at hbi;obtain ⟨k1,k2,k3⟩:=key j b t' hj' hj hbj;rcases own b t hbi with hb|hb
   ·obtain ⟨t0,ht0⟩:=hrow b hb
    exact hj' (h.hp.inj i j b t0 t' hid k1 ht0 k2).symm
   omega
  by_cases hj':j=id
  ·exfalso
   subst hj';rw [hself] at hbj;obtain ⟨k1,k2,k3⟩:=key i b t hi' hi hbi;rcases own b t' hbj with hb|hb
   ·obtain ⟨t0,ht0⟩:=hrow b hb
    exact hi' (h.hp.inj j i b t0 t hid k1 ht0 k2).symm
   omega
  obtain ⟨a1,a2,_⟩:=key i b t hi' hi hbi;obtain ⟨b1,b2,_⟩:=key j b t' hj' hj hbj;exact h.hp.inj i j b t t' a1 b1 a2 b2
 have hk:=h.hp.keeps;refine ⟨hg.os.trans hk.os,hg.tape.trans hk.tape,hg.output.trans hk.output,qd3 hk.size hg.size,fun j h1 h2=>?_⟩;rw [hg.block j (qi4 h1 hk.size) (fun e=>by rcases (hrb j e.symm).2.1 with h3|h3;omega;exact h2 h3)];exact hk.block j h1 h2
theorem nu (w:World) (t ty e:TypeId) (i:TypeInfo) (ht:P.underlying t=some (.slice e)) (hi:P.info? e=some i)
 (A:Option Addr) (n cap c:Nat) (hA:A=none→n=0∧cap=0) (hn:n≤cap):(Builtin.append_ #[t,t] ty #[.slice A n cap,.slice none 0 c]).run P w= .ok (.slice A n cap) w:=by
 cases A with
 |none=>obtain ⟨rfl,rfl⟩:=hA rfl;simp [Builtin.append_,run_underlying ht,sizeOf,typeInfo,hi,Builtin.lenOf,Builtin.firstCells]
 |some a=>simp [Builtin.append_,run_underlying ht,sizeOf,typeInfo,hi,Builtin.lenOf,Builtin.firstCells,hn,storeCells]
def zc (es:List AV):Prop:=∀ e∈es,jx e.cells=true
theorem Hl (h:jx x.cells=true):zc [x]:=by intro e he;simp at he;subst he;exact h
theorem Hm {f:α→AV} {xs:List α} (h:∀ a,jx (f a).cells=true):zc (xs.map f):=by
 intro e he;obtain ⟨a,_,rfl⟩:=qe7.1 he;exact h a
variable {es:List AV}
theorem Em (h:zc es) {j:Nat} (hx:(es.flatMap AV.cells)[j]?=some x):x.one=true:=by
 obtain ⟨e,he,hx'⟩:=qh0.1 (qg0 hx);obtain ⟨i,hi⟩:=qf2 hx';exact px (h e he) hi
theorem xv {d:Tmp} {t el:TypeId} {x y:Operand} {z:Value} {bk:iB} {ty:TypeId} {pos:String} {bF:Array Edge} {g:Option (Nat×Bool)} {K:St→Prop}
 [hu:cT P t (.slice el)] [hi:dI P el z sz bw]
 (hx:s.eval x= .sl sz bw id 0 n) (hb:bp s.hp id=some bk) (hT:bk.T=el) (hl:bk.cs.length=n * sz) (hy:s.eval y= .cD sz bw es) (h1:zc es)
 (hz:z.cells.size=sz) (hs:0 < sz) (hw:0 < bw) (hbytes:(n+es.length) * bw≤140737488355328)
 (hk:K ⟨(AV.cG id s.fr).set d (.sl sz bw id 0 (n+es.length)),cP (eQ id s.hp) id ⟨el,AV.cG id bk.cs++es.flatMap AV.cells,false⟩⟩):
 ff P ⟨some d,.call {callee:=.builtin .append,args:=#[x,y],argTypes:=#[t,t]},ty,pos,bF,g⟩ s K:=by
 intro R β G a w Q hr;have e1:=hr.eval x;rw [hx] at e1;have e2:=hr.eval y;rw [hy] at e2;generalize hxv:a.eval x=vx at e1;generalize hyv:a.eval y=vy at e2;have hlt:id≤999999999:=hr.hp.kL id (xz e1);obtain ⟨i0,hi0,hz0,hs0,hb0⟩:=hi.ok;have hexec:∀ r w',(Builtin.append_ #[t,t] ty #[vx,vy]).run P w= .ok r w'→(execOp a.eval ⟨some d,.call {callee:=.builtin .append,args:=#[x,y],argTypes:=#[t,t]},ty,pos,bF,g⟩).run P w= .ok (.value r) w':=by intro r w' h;simp [execOp,resolve,invoke,builtin,hxv,hyv,h]
 have hmax:n+es.length≤maxLen:=by have h2:(n+es.length) * 1≤(n+es.length) * bw:=ql2 _ hw;simp only [maxLen];omega
 cases e2 with
 |@cD _ _ _ _ A c ys hu' hl' hc hbb hA hrd hsc=>
  have hyl:ys.length=es.length * sz:=hl';have hflat:(es.flatMap AV.cells).length=ys.length:=by rw [kc hu',hyl]
  have hones:∀ u∈ys,u.oneCell'=true:=fun u hm=>by
   obtain ⟨j,hj⟩:=qf2 hm;have hjl:j < (es.flatMap AV.cells).length:=by rw [hflat];exact bX hj
   exact (hsc j _ u (qa7 hjl) hj).one (Em h1 (qa7 hjl))
  have hcells:∀ ad,A=some ad→∀ (j:Nat) u,ys[j]?=some u→w.cell? (ad.add j)=some u:=fun ad had j u hj=>by
   obtain ⟨a',ha',hg'⟩:=hrd j u hj;rw [had] at ha';injection ha' with ha';subst ha';exact nS hr.hp (Below.refl _ _) hg'
  have hβne:β id≠.no:=fun e=>by have:=hr.hp.blk id bk hb;unfold bZ at this;rw [e] at this;exact this
  have newcells:∀ (arr0:Array Value) (arr:Array Value) (k:BK),(∀ (j:Nat) x y,bk.cs[j]?=some x→arr0[j]?=some y→Conc G β x y)→bk.cs.length≤arr0.size→
   arr.toList.take ((n+es.length) * sz)=arr0.toList.take (n * sz)++ys→∀ (j:Nat) x y,(AV.cG id bk.cs++es.flatMap AV.cells)[j]?=some x→arr[j]?=some y→Conc G (β.set id k) x y:=by
   intro arr0 arr k h0 h0l htake j x' y' hx' hy';have hjl:j < n * sz+ys.length:=by have:=bX hx';simp [dA,hl,hflat] at this;exact this
   have hy2:(arr0.toList.take (n * sz)++ys)[j]?=some y':=by rw [← htake,qc3,if_pos (by rw [qj9,← hyl];exact hjl)];simpa using hy'
   have hlen0:(arr0.toList.take (n * sz)).length=n * sz:=by simp;omega
   by_cases hj:j < n * sz
   ·rw [qe1 (by rw [dA,hl];exact hj),ja,qa6] at hx'
    obtain ⟨x0,hx0,rfl⟩:=hx';rw [qe1 (by rw [hlen0];exact hj),qc3,if_pos hj] at hy2;exact (h0 j x0 y' hx0 (by simpa using hy2)).lO (fun i hi=>by simp [c9.set,hi])
   rw [qc7 (by rw [dA,hl];omega),dA,hl] at hx';rw [qc7 (by rw [hlen0];omega),hlen0] at hy2;exact (hsc _ x' y' hx' hy2).free _
  have fin:∀ (v':Value) (w':World) (row:Option Nat) (arr0:Array Value),(Builtin.append_ #[t,t] ty #[vx,.slice A es.length c]).run P w= .ok v' w'→w.grownBy w' row→(∀ b,row=some b→∃ t,β id= .at b t)→
   (∀ (j:Nat) x y,bk.cs[j]?=some x→arr0[j]?=some y→Conc G β x y)→bk.cs.length≤arr0.size→
   w'.ownsRow R.w0.heap.size el sz v' (n+es.length) (arr0.toList.take (n * sz)++ys)∨(∃ b tt cap cur,v'= .slice (some ⟨b,0,none⟩) (n+es.length) cap∧row=some b∧w'.heap[b]?=some (.cells cur el (0,0))∧n+es.length≤cap∧cap≤maxLen∧cur.size=cap * sz∧cur.size=tt∧cur.toList.take ((n+es.length) * sz)=arr0.toList.take (n * sz)++ys)→
   (∀ b,v'.ownBlock=some b→row=some b∨w.heap.size≤b)→RK R K (a.put (some d) v') w':=by
   intro v' w' row arr0 hrun hgrow hrow h0 h0l hown hat;have hown':(v'= .slice none 0 0∧n+es.length=0)∨∃ b cap cur,v'= .slice (some ⟨b,0,none⟩) (n+es.length) cap∧w'.heap[b]?=some (.cells cur el (0,0))∧n+es.length≤cap∧cap≤maxLen∧cur.size=cap * sz∧cur.toList.take ((n+es.length) * sz)=arr0.toList.take (n * sz)++ys:=by
    rcases hown with hown|⟨b,tt,cap,cur,h1,h2,h3,h4,h5,h6,h7,h8⟩
    ·rcases hown.2 with ⟨h1,h2⟩|⟨b,cap,cur,h1,h2,h3,h4,h5,h6,h7⟩
     ·exact .inl ⟨h1,h2⟩
     exact .inr ⟨b,cap,cur,h1,h3,h4,h5,h6,h7⟩
    exact .inr ⟨b,cap,cur,h1,h3,h4,h5,h6,h8⟩
   rcases hown' with ⟨hv,hn0⟩|⟨b,cap,cur,hv,hcur,hcap,hcm,hcs,htake⟩
   ·have hn:n=0:=by omega
    have hel:es.length=0:=by omega
    have hes:es=[]:=qf8 hel;have hbk:bk.cs=[]:=qf8 (by rw [hl,hn];simp);have hrep:=hr.Aq (id:=id) hgrow hrow (by rw [hb];rfl) hlt .nil ⟨el,AV.cG id bk.cs++es.flatMap AV.cells,false⟩ ⟨by simp [hbk,hes,AV.cG],rfl⟩;refine ⟨_,_,_,hk,hrep.put (some d) ?_⟩;rw [hv,hn0];exact .lU aT
   have hrep:=hr.Aq (id:=id) hgrow hrow (by rw [hb];rfl) hlt (.at b cur.size) ⟨el,AV.cG id bk.cs++es.flatMap AV.cells,false⟩
    ⟨hat b (by rw [hv];rfl),cur,hcur,rfl,by
     simp only [qa3,dA,hl,hflat,hyl,hcs,← qj9];exact qh5 _ hcap,(fun h=>by cases h),newcells arr0 cur _ h0 h0l htake⟩
   refine ⟨_,_,_,hk,hrep.put (some d) ?_⟩;rw [hv];exact .sl (t:=cur.size) aT hcap (by rw [hcs];omega) hcm hbytes
  unfold Oper.wp;cases e1 with
  |lU hβ=>
   have hbk:bk.cs=[]:=by have:=hr.hp.blk id bk hb;unfold bZ at this;rw [hβ] at this;exact this.1
   cases A with
   |none=>
    have hel:es.length=0:=by
     rcases qj4 es.length with h|h
     ·exact h
     exact absurd rfl (hA h)
    have hrun:=nu (P:=P) w t ty el i0 hu.ok hi0 none 0 0 c (fun _=>⟨rfl,rfl⟩) (qb3 _);rw [hel] at hexec;rw [hexec _ _ hrun,Oper.upon_value];have hy0:ys=[]:=qf8 (by rw [hyl,hel];simp);exact fin _ w none #[] (by rw [hel];exact hrun) ⟨rfl,rfl,rfl,qb3 _,fun _ _ _=>rfl⟩ (fun _ h=>by cases h) (by simp [hbk]) (by simp [hbk])
     (.inl ⟨by simp [hy0,hel],.inl ⟨rfl,by simp [hel]⟩⟩) (fun b h=>by cases h)
   |some ad=>
    obtain ⟨v',w',hrun,hown,hgr,_,hat⟩:=run_append_own_at (P:=P) w R.w0.heap.size t ty el i0 z sz bw hu.ok hi0 hz0 hs0 hb0 hz hs (.slice none 0 0) 0 [] (World.ownsRow_nil _ _ _ _) ad es.length c ys hyl (hcells ad rfl) hones hmax hbytes hr.hp.keeps.size;rw [hexec _ _ hrun,Oper.upon_value];exact fin v' w' none #[] hrun hgr (fun _ h=>by cases h) (by simp [hbk]) (by simp [hbk]) (.inl (by simpa using hown)) (fun b h=>by
     rcases hat with h'|h'
     ·rw [h'] at h;cases h
     rw [h'] at h;injection h with h;exact .inr ak)
  |@sl _ _ _ _ _ _ cap b tt hβ hn ht hm hbw=>
   obtain ⟨g1,g2,arr,g3,g4,g5,g6,g7⟩:=hr.hp.block hb hβ;have hrow:∀ b',some b=some b'→∃ t,β id= .at b' t:=fun b' h=>by injection h with h;subst h;exact ⟨tt,hβ⟩
   have hcs:arr.size=cap * sz:=by rw [g4,← ht];omega
   cases A with
   |none=>
    have hel:es.length=0:=by
     rcases qj4 es.length with h|h
     ·exact h
     exact absurd rfl (hA h)
    have hrun:=nu (P:=P) w t ty el i0 hu.ok hi0 (some ⟨b,0,none⟩) n cap c (fun h=>by cases h) hn;rw [hel] at hexec;rw [hexec _ _ hrun,Oper.upon_value];have hy0:ys=[]:=qf8 (by rw [hyl,hel];simp);exact fin _ w (some b) arr (by rw [hel];exact hrun) ⟨rfl,rfl,rfl,qb3 _,fun _ _ _=>rfl⟩ hrow g7 ak
     (.inr ⟨b,tt,cap,arr,by rw [hel];rfl,rfl,by rw [← hT];exact g3,by omega,hm,hcs,g4,by rw [hel,hy0];simp⟩) (fun b' h=>.inl h)
   |some ad=>
    have hown0:w.ownsRow 0 el sz (.slice (some ⟨b,0,none⟩) n cap) n (arr.toList.take (n * sz)):=
     ⟨by simp;omega,.inr ⟨b,cap,arr,rfl,qc6 _,by rw [← hT];exact g3,hn,hm,hcs,rfl⟩⟩
    obtain ⟨v',w',hrun,hown,hgr,_,hat⟩:=run_append_own_at (P:=P) w 0 t ty el i0 z sz bw hu.ok hi0 hz0 hs0 hb0 hz hs _ n _ hown0 ad es.length c ys hyl (hcells ad rfl) hones hmax hbytes (qc6 _);rw [hexec _ _ hrun,Oper.upon_value];have hat':∀ b',v'.ownBlock=some b'→some b=some b'∨w.heap.size≤b':=fun b' h=>by
     rcases hat with h'|h'
     ·rw [h'] at h;exact .inl h
     rw [h'] at h;injection h with h;exact .inr ak
    rcases hown.2 with ⟨h1',h2'⟩|⟨b',cap',cur',h1',h2',h3',h4',h5',h6',h7'⟩
    ·exact fin v' w' (some b) arr hrun hgr hrow g7 ak (.inl ⟨hown.1,.inl ⟨h1',h2'⟩⟩) hat'
    rcases hat' b' (by rw [h1'];rfl) with hbb'|hbb'
    ·injection hbb' with hbb';subst hbb'
     exact fin v' w' (some b) arr hrun hgr hrow g7 ak (.inr ⟨b,cur'.size,cap',cur',h1',rfl,h3',h4',h5',h6',rfl,h7'⟩) hat'
    exact fin v' w' (some b) arr hrun hgr hrow g7 ak (.inl ⟨hown.1,.inr ⟨b',cap',cur',h1',qd3 hr.hp.keeps.size hbb',h3',h4',h5',h6',h7'⟩⟩) hat'
end Go.Ab
namespace Go.Ab
open Go.RowKit
variable {P:Program}
section float
variable {ops:Array Oper} {Q:Exit→Act→World→Prop}
def early (ops:Array Oper) (hs:List Nat) (i:Nat):Bool:=hs.any fun k=>!((Region.before ops).getD i 0).testBit k
def He (P:Program) (ops:Array Oper) (Q:Exit→Act→World→Prop) (hs:List Nat):Nat→Array Bool→Act→World→Prop
 |0,listed,a,w=>Region.ready .any ops listed=[]∧Q .normal a w
 |f+1,listed,a,w=>(Region.ready .any ops listed=[]→Q .normal a w)∧
  ∀ i∈Region.ready .any ops listed,wpOp P ops Q i (fun a' w'=>(early ops hs i=true→Ext w w')∧He P ops Q hs f (listed.setIfInBounds i true) a' w') a w
theorem B6 {hs:List Nat}:∀ (f:Nat) (listed:Array Bool) (a:Act) (w:World),He P ops Q hs f listed a w→wpAny P .any ops Q f listed a w
 |0,_,_,_,h=>h
 |f+1,_,_,_,h=>⟨h.1,fun i hi=>wpOp_mono (fun a' w' h'=>B6 f _ a' w' h'.2) (h.2 i hi)⟩
theorem zg (acc:Nat→Nat) (k:Nat):∀ (l:List Edge) (x:Nat),(l.foldl (fun s e=>if Region.binds .any e then s||| 2 ^ e.on||| acc e.on else s) x).testBit k=true→
 x.testBit k=true∨∃ e∈l,Region.binds .any e=true∧(e.on=k∨(acc e.on).testBit k=true)
 |[],x,h=>.inl h
 |e::l,x,h=>by
  simp only [List.foldl_cons] at h;rcases zg acc k l _ h with h1|⟨e',he',hb,h1⟩
  ·by_cases hb:Region.binds .any e=true
   ·simp only [hb,if_true,ql6,ql3,qe0,decide_eq_true_eq] at h1
    rcases h1 with (h1|h1)|h1
    ·exact .inl h1
    ·exact .inr ⟨e,by simp,hb,.inl h1⟩
    exact .inr ⟨e,by simp,hb,.inr h1⟩
   simp only [hb,qa8,if_false] at h1;exact .inl h1
  exact .inr ⟨e',by simp [he'],hb,h1⟩
theorem qz (ops:Array Oper):(Region.before ops).size=ops.size∧∀ (j:Nat) o,ops[j]?=some o→∀ k,((Region.before ops).getD j 0).testBit k=true→
 ∃ e∈o.after,Region.binds .any e=true∧(e.on=k∨(e.on < j∧((Region.before ops).getD e.on 0).testBit k=true)):=by
 have key:∀ (l:List Oper) (acc:Array Nat) (pre:List Oper),acc.size=pre.length→
  (∀ (j:Nat) o,pre[j]?=some o→∀ k,(acc.getD j 0).testBit k=true→∃ e∈o.after,Region.binds .any e=true∧(e.on=k∨(e.on < j∧(acc.getD e.on 0).testBit k=true)))→
  let r:=l.foldl (fun acc o=>acc.push (o.after.foldl (fun s e=>if Region.binds .any e then s||| 2 ^ e.on||| acc.getD e.on 0 else s) 0)) acc
  r.size=(pre++l).length∧(∀ i,i < acc.size→r.getD i 0=acc.getD i 0)∧∀ (j:Nat) o,(pre++l)[j]?=some o→∀ k,(r.getD j 0).testBit k=true→∃ e∈o.after,Region.binds .any e=true∧(e.on=k∨(e.on < j∧(r.getD e.on 0).testBit k=true)):=by
  intro l
  induction l with
  |nil=>intro acc pre hs hp;exact ⟨by simpa using hs,fun _ _=>rfl,by simpa using hp⟩
  |cons o l ih=>
   intro acc pre hs hp;simp only [List.foldl_cons];generalize hv:o.after.foldl (fun s e=>if Region.binds .any e then s||| 2 ^ e.on||| acc.getD e.on 0 else s) 0=v;have hpush:∀ i,i < acc.size→(acc.push v).getD i 0=acc.getD i 0:=fun i hi=>by
    simp only [qf6,Array.getElem?_push,Nat.ne_of_lt hi,if_false]
   have hlast:(acc.push v).getD acc.size 0=v:=by simp [qf6]
   have hge:∀ i,acc.size≤i→acc.getD i 0=0:=fun i hi=>by simp [qf6,qh4 hi]
   have hmono:∀ i k,(acc.getD i 0).testBit k=true→((acc.push v).getD i 0).testBit k=true:=fun i k h=>by
    rcases qc4 i acc.size with hi|hi
    ·rw [hpush i hi];exact h
    rw [hge i hi] at h;simp at h
   have hp':∀ (j:Nat) o',(pre++[o])[j]?=some o'→∀ k,((acc.push v).getD j 0).testBit k=true→∃ e∈o'.after,Region.binds .any e=true∧(e.on=k∨(e.on < j∧((acc.push v).getD e.on 0).testBit k=true)):=by
    intro j o' ho' k hk;rcases qc4 j pre.length with hj|hj
    ·rw [qe1 hj] at ho'
     rw [hpush j ak] at hk;obtain ⟨e,he,hb,h⟩:=hp j o' ho' k hk;exact ⟨e,he,hb,h.imp id (fun h=>⟨h.1,hmono _ _ h.2⟩)⟩
    rw [qc7 hj] at ho';have hj0:j - pre.length=0:=by have:=bX ho';simp at this;omega
    rw [hj0] at ho';simp at ho';subst ho';have hje:j=acc.size:=by omega
    rw [hje,hlast,← hv,← Array.foldl_toList] at hk;rcases zg (fun i=>acc.getD i 0) k o.after.toList 0 hk with h|⟨e,he,hb,h⟩
    ·simp at h
    refine ⟨e,by simpa using he,hb,h.imp id (fun h=>⟨?_,hmono _ _ h⟩)⟩;rcases qc4 e.on acc.size with h'|h'
    ·omega
    rw [hge _ h'] at h;simp at h
   obtain ⟨h1,h2,h3⟩:=ih (acc.push v) (pre++[o]) (by simp [hs]) hp';refine ⟨by simpa using h1,fun i hi=>by rw [h2 i aO,hpush i hi],by simpa using h3⟩
 have:=key ops.toList #[] [] rfl (fun j o h=>by simp at h);simp only [Region.before];rw [← Array.foldl_toList];refine ⟨by simpa using this.1,fun j o ho=>this.2.2 j o (by simpa using ho)⟩
variable {listed:Array Bool}
theorem p9 (hc:∀ j oj,ops[j]?=some oj→listed.getD j false=true→∀ e∈oj.after,Region.binds .any e=true→listed.getD e.on false=true)
 {k:Nat} (hk:listed.getD k false=false):∀ (n j:Nat) (oj:Oper),n=j→ops[j]?=some oj→(∀ e∈oj.after,Region.binds .any e=true→listed.getD e.on false=true)→((Region.before ops).getD j 0).testBit k=false:=by
 intro n
 induction n using Nat.strongRecOn with
 |_ n ih=>
  intro j oj hn ho hall;subst hn;cases hb:((Region.before ops).getD n 0).testBit k with
  |false=>rfl
  |true=>
   exfalso;obtain ⟨e,he,hbi,h⟩:=(qz ops).2 n oj ho k hb;have hl:=hall e he hbi;rcases h with rfl|⟨hlt,h⟩
   ·rw [hk] at hl;cases hl
   cases hoe:ops[e.on]? with
   |none=>
    have:(Region.before ops).getD e.on 0=0:=by
     have h1:=(qz ops).1;have h2:ops.size≤e.on:=by
      rcases qc4 e.on ops.size with h'|h'
      ·rw [qd1 h'] at hoe;cases hoe
      exact h'
     simp [qf6,qh4 (by rw [h1];exact h2)]
    rw [this] at h;simp at h
   |some oe=>
    have:=ih e.on hlt e.on oe rfl hoe (hc e.on oe hoe hl);rw [this] at h;cases h
def iV (P:Program) (ops:Array Oper) (w0:World) (o:Oper) (v:Value) (a:Act):Prop:=
 (Region.wanted o (yielded ops a.tmps)=true∧∀ w,Ext w0 w→(execOp a.eval o).run P w= .ok (.value v) w)∨
 (Region.wanted o (yielded ops a.tmps)=false∧v=undef)
variable {w0 w:World} {i:Nat} {o:Oper} {v:Value} {a:Act} {K:Act→World→Prop}
theorem iV.wpOp (hi:ops[i]?=some o) (hy:iV P ops w0 o v a)
 (he:Ext w0 w) (h:K (a.put o.dst v) w):wpOp P ops Q i K a w:=by
 unfold Go.wpOp;simp only [hi];rcases hy with ⟨hw,hv⟩|⟨hw,rfl⟩
 ·simp only [hw,if_true,Oper.wp,hv w he,Oper.upon];exact .inl h
 simp only [hw,qa8,if_false];exact h
theorem iV.of_same {a':Act} (hy:iV P ops w0 o v a) (he:execOp a'.eval o=execOp a.eval o)
 (hw:Region.wanted o (yielded ops a'.tmps)=Region.wanted o (yielded ops a.tmps)):iV P ops w0 o v a':=by
 unfold iV at *;rw [he,hw];exact hy
variable {oi:Oper}
theorem Hu {j:Nat} {oj:Oper} (hj:ops[j]?=some oj) (hap:oi.apart ops oj=true)
 (hsi:∀ cs b,oi.op≠.select cs b) (hsj:∀ cs b,oj.op≠.select cs b)
 (hQ:∀ c a w,¬Q (.panic c) a w)
 (hy:iV P ops w0 oi v a) (h:wpOp P ops Q j K (a.put oi.dst v) w):
 wpOp P ops Q j (fun a' w'=>iV P ops w0 oi v a'∧K (a'.put oi.dst v) w') a w:=by
 obtain ⟨h1,h2,h3⟩:=Oper.apart_spec hap;have keep:∀ (a:Act),iV P ops w0 oi v a→∀ u,iV P ops w0 oi v (a.put oj.dst u):=fun a hy u=>
  hy.of_same (execOp_put oi hsi a oj.dst u h3) (wanted_put oi a oj.dst u h3)
 have keepD:∀ d,iV P ops w0 oi v {a with defers:=d::a.defers}:=fun d=>hy.of_same rfl rfl;unfold wpOp at *;simp only [hj] at *;rw [wanted_put oj a oi.dst v h1] at h;split
 ·rename_i hw
  simp only [hw,if_true] at h;rcases h with h|⟨hasks,hlets⟩
  case inr=>exact .inr ⟨by unfold Oper.asks at *;rw [execOp_put oj hsj a oi.dst v h1] at hasks;exact hasks,hlets⟩
  refine .inl ?_;unfold Oper.wp at *;rw [execOp_put oj hsj a oi.dst v h1] at h;generalize (execOp a.eval oj).run P w=r at *;cases r with
  |ok n w'=>
   cases n<;>simp only [Oper.upon] at h ⊢
   case value u=>exact ⟨keep a hy u,by rw [← Act.put_comm a v u h2];exact h⟩
   case skip=>exact ⟨keep a hy _,by rw [← Act.put_comm a v undef h2];exact h⟩
   case defer d=>
    refine ⟨keep _ (keepD d) _,?_⟩;rw [← Act.put_comm _ v undef h2,← Act.put_defers];exact h
   case enter f args=>
    refine Calls.mono h fun e w'' he=>?_;cases e with
    |returned u=>exact ⟨keep a hy u,by rw [← Act.put_comm a v u h2];exact he⟩
    |panicked c=>exact absurd he (hQ _ _ _)
    |outgrown=>exact he
   case row row args=>exact Rows.mono h fun u w'' he=>⟨keep a hy u,by rw [← Act.put_comm a v u h2];exact he⟩
  |halt x w'=>
   cases x<;>simp only [Oper.upon] at h ⊢
   case panic u=>exact absurd h (hQ _ _ _)
 rename_i hw;simp only [hw] at h;exact ⟨keep a hy _,by rw [← Act.put_comm a v undef h2];exact h⟩
theorem Ar (h:listed.getD i true=false):listed.getD i false=false:=by
 rcases qc4 i listed.size with h'|h'
 ·simp [h'] at h ⊢;exact h
 simp [qh4 h'] at h
def Closed (ops:Array Oper) (listed:Array Bool):Prop:=∀ j oj,ops[j]?=some oj→listed.getD j false=true→∀ e∈oj.after,Region.binds .any e=true→listed.getD e.on false=true
theorem Closed.set (hc:Closed ops listed) (hi:i∈Region.ready .any ops listed):Closed ops (listed.setIfInBounds i true):=by
 obtain ⟨_,oi,hoi,hall⟩:=mem_ready.1 hi;intro j oj hj hl e he hb;by_cases hij:i=j
 ·subst hij
  have:oj=oi:=ql1 (hj.symm.trans hoi)
  subst this;exact getD_set_true (hall e he hb)
 rw [getD_set_ne false hij] at hl;exact getD_set_true (hc j oj hj hl e he hb)
theorem B7 (n:Nat):Closed ops (Array.replicate n false):=by
 intro j oj _ hl;rcases qc4 j n with h|h
 ·simp [h] at hl
 simp [h] at hl
theorem En {hs:List Nat} (hi:ops[i]?=some oi) (hh:i∈hs) (hsel:∀ (j:Nat) (o:Oper) cs b,ops[j]?=some o→o.op≠.select cs b)
 (hQ:∀ c a w,¬Q (.panic c) a w):
 ∀ (fuel:Nat) (listed:Array Bool) (a:Act) (w:World),Closed ops listed→Ext w0 w→
  (∀ j oj,ops[j]?=some oj→j≠i→listed.getD j true=false→(∀ e∈oj.after,Region.binds .any e=true→e.on≠i)→oi.apart ops oj=true)→
  i∈Region.ready .any ops listed→iV P ops w0 oi v a→
  He P ops Q hs fuel (listed.setIfInBounds i true) (a.put oi.dst v) w→He P ops Q hs (fuel+1) listed a w:=by
 intro fuel
 induction fuel with
 |zero=>
  intro listed a w hcl hex _ hr hy H;refine ⟨fun h=>(by rw [h] at hr;cases hr),fun j hj=>?_⟩;by_cases hji:j=i
  ·subst hji;exact hy.wpOp hi hex ⟨fun _=>Below.refl _ _,H⟩
  have:=ready_mono hj hji;rw [H.1] at this;cases this
 |succ fuel ih=>
  intro listed a w hcl hex hfree hr hy H;refine ⟨fun h=>(by rw [h] at hr;cases hr),fun j hj=>?_⟩;by_cases hji:j=i
  ·subst hji;exact hy.wpOp hi hex ⟨fun _=>Below.refl _ _,H⟩
  have h1:=H.2 j (ready_mono hj hji);obtain ⟨hjun,oj,hoj,hall⟩:=mem_ready.1 hj;have hun:=Ar (mem_ready.1 hr).1;have hnot:∀ e∈oj.after,Region.binds .any e=true→e.on≠i:=fun e he hb heq=>by
   have h1:=hall e he hb;rw [heq,hun] at h1;cases h1
  have hearly:early ops hs j=true:=by have:=p9 hcl hun j j oj rfl hoj hall;simp only [early,qi0];exact ⟨i,hh,by rw [this];rfl⟩
  have h2:=Hu hoj (hfree j oj hoj hji hjun hnot) (fun cs b=>hsel i oi cs b hi) (fun cs b=>hsel j oj cs b hoj) hQ hy h1;have hfree':∀ k ok,ops[k]?=some ok→k≠i→(listed.setIfInBounds j true).getD k true=false→
   (∀ e∈ok.after,Region.binds .any e=true→e.on≠i)→oi.apart ops ok=true:=fun k ok hk hki hun hno=>by
   refine hfree k ok hk hki ?_ hno;by_cases hjk:j=k
   ·subst hjk;exact hjun
   rw [getD_set_ne true hjk] at hun;exact hun
  refine wpOp_mono (fun a' w' h3=>⟨h3.2.1,ih (listed.setIfInBounds j true) a' w' (hcl.set hj) ?_ hfree' (ready_mono hr (Ne.symm hji)) h3.1 ?_⟩) h2
  ·exact hex.trans ((h3.2.1 hearly).mono hex.size)
  rw [Array.setIfInBounds_comm _ _ hji];exact h3.2.2
end float
def dt (P:Program) (ops:Array Oper) (hs:List Nat) (fuel:Nat) (listed:Array Bool) (s:St) (K:St→Prop):Prop:=
 ∀ R β G a w,fw R β G s a w→Closed ops listed→He P ops (QN R K) hs fuel listed a w
variable {R:Rg} {β:c9} {G:bI} {s:St} {a:Act} {w:World}
theorem fw.drew (h:fw R β G s a w):fw R β G s a {w with drawn:=w.drawn+1}:=
 ⟨h.defers,h.size,h.fr,⟨h.hp.gs,h.hp.blk,h.hp.inj,⟨h.hp.keeps.os,h.hp.keeps.tape,h.hp.keeps.output,h.hp.keeps.size,h.hp.keeps.block⟩,h.hp.kH,h.hp.kL,h.hp.iC⟩⟩
theorem wH {id:Nat} {l:List Oper} {Q:Exit→St→Prop} (n:Nat) (hs:List Nat) (hn:l.length=n) (hm:P.follows .mixedOrders=true) (h:dt P l.toArray hs n (Array.replicate n false) s (Q .normal)) (hd:iL l=true:=by rfl):AW P (.region id l.toArray true) s Q:=by
 subst hn;intro ro ho R β G a w hr;have h1:=B6 _ _ _ _ (h R β G a _ hr.drew (B7 _));exact wpIn_mono (yR hd hm (by simpa using h1)) FN
variable {ops:Array Oper} {hs:List Nat} {f:Nat} {listed:Array Bool} {K:St→Prop}
theorem qu (hr:Region.ready .any ops listed=[]) (h:K s):dt P ops hs f listed s K:=by
 intro R β G a w hrep _;cases f with
 |zero=>exact ⟨hr,β,G,s,h,hrep⟩
 |succ f=>exact ⟨fun _=>⟨β,G,s,h,hrep⟩,fun i hi=>by rw [hr] at hi;cases hi⟩
variable {o:Oper} {x:AV}
theorem qA (i:Nat) (hi:ops[i]?=some o)
 (hb:(Region.noSelect ops&&(Region.ready .any ops listed).contains i&&Region.free .any ops listed i&&hs.contains i)=true)
 (hy:∀ R β G a w,fw R β G s a w→∃ y,Conc G β x y∧iV P ops w o y a)
 (h:dt P ops hs f (listed.setIfInBounds i true) (s.put o.dst x) K):dt P ops hs (f+1) listed s K:=by
 simp only [qa1,qj1] at hb;obtain ⟨⟨⟨h1,h2⟩,h3⟩,h4⟩:=hb;intro R β G a w hr hcl;obtain ⟨y,hy1,hy2⟩:=hy R β G a w hr;refine En hi h4 (Region.noSelect_spec h1) (fun _ _ _ h=>h) f listed a w hcl (Below.refl _ _) (Region.free_spec hi h3) h2 hy2 ?_;exact h R β G _ w (hr.put o.dst hy1) (hcl.set h2)
variable {d:Option Tmp} {op:Op} {ty:TypeId} {pos:String} {bF:Array Edge}
theorem Hv (h:PV P op s x):
 ∀ R β G a w,fw R β G s a w→∃ y,Conc G β x y∧iV P ops w ⟨d,op,ty,pos,bF,none⟩ y a:=fun R β G a w hr=>by
 obtain ⟨y,h1,h2⟩:=h R β G a w hr;exact ⟨y,h1,.inl ⟨rfl,fun w' he=>h2 w' d ty pos bF none he⟩⟩
variable {j:Nat} {u:Value}
theorem ix (hr:fw R β G s a w) {t:Nat} (ht:(ops[j]?).bind (·.dst)=some t) (hc:s.fr[t]?=some (.v u)):
 yielded ops a.tmps j=(match (generalizing:=false) u with| .bool b=>some b|_=>none):=by
 have hlt:t < a.tmps.size:=by rw [hr.size];exact bX hc
 have hb:=fz (hr.fr t _ _ hc (qd1 hlt));unfold yielded;rw [ht];simp only [Option.bind_some,qd1 hlt,hb];cases u<;>rfl
theorem FB (i:Nat) (hi:ops[i]?=some ⟨d,op,ty,pos,bF,none⟩)
 (hb:(Region.noSelect ops&&(Region.ready .any ops listed).contains i&&Region.free .any ops listed i&&hs.contains i)=true)
 (hp:PV P op s x) (h:∀ K':St→Prop,(∀ s',dt P ops hs f (listed.setIfInBounds i true) s' K→K' s')→K' (s.put d x)):dt P ops hs (f+1) listed s K:=
 qA i hi hb (Hv hp) (h _ fun _ h=>h)
variable {b:Bool}
theorem BT {t:Nat} (i:Nat) (hi:ops[i]?=some ⟨d,op,ty,pos,bF,some (j,b)⟩)
 (hb:(Region.noSelect ops&&(Region.ready .any ops listed).contains i&&Region.free .any ops listed i&&hs.contains i)=true)
 (ht:(ops[j]?).bind (·.dst)=some t) (hc:s.fr[t]?=some (.bool b))
 (hp:PV P op s x) (h:∀ K':St→Prop,(∀ s',dt P ops hs f (listed.setIfInBounds i true) s' K→K' s')→K' (s.put d x)):dt P ops hs (f+1) listed s K:=
 qA i hi hb (fun R β G a w hr=>by
  obtain ⟨y,h1,h2⟩:=hp R β G a w hr;have hg:=ix hr ht hc;exact ⟨y,h1,.inl ⟨by simp [Region.wanted,hg],fun w' he=>h2 w' d ty pos bF _ he⟩⟩) (h _ fun _ h=>h)
theorem wF {t:Nat} (i:Nat) (hi:ops[i]?=some ⟨d,op,ty,pos,bF,some (j,b)⟩)
 (hb:(Region.noSelect ops&&(Region.ready .any ops listed).contains i&&Region.free .any ops listed i&&hs.contains i)=true)
 (ht:(ops[j]?).bind (·.dst)=some t) (hc:s.fr[t]?=some (.v u)) (hu:(match u with| .bool c=>c != b|_=>true)=true)
 (h:∀ K':St→Prop,(∀ s',dt P ops hs f (listed.setIfInBounds i true) s' K→K' s')→K' (s.put d (.v undef))):dt P ops hs (f+1) listed s K:=
 qA i hi hb (fun R β G a w hr=>by
  have hg':=ix hr ht hc;refine ⟨undef,.v,.inr ⟨?_,rfl⟩⟩;simp only [Region.wanted,hg'];cases u<;>simp at hu ⊢;exact hu) (h _ fun _ h=>h)
def dJ (P:Program) (o:Oper) (s:St) (K:St→Prop):Prop:=
 ∀ R β G a w Q,fw R β G s a w→o.wp P a w (fun a' w'=>Ext w w'∧RK R K a' w') Q
theorem Hf (i:Nat) (hi:ops[i]?=some ⟨d,op,ty,pos,bF,none⟩) (hr:Region.ready .any ops listed=[i]) (he:early ops hs i=false)
 (h:∀ K':St→Prop,(∀ s',dt P ops hs f (listed.setIfInBounds i true) s' K→K' s')→ff P ⟨d,op,ty,pos,bF,none⟩ s K'):dt P ops hs (f+1) listed s K:=by
 intro R β G a w hrep hcl;refine ⟨fun h=>(by rw [hr] at h;cases h),fun j hj=>?_⟩;rw [hr] at hj;have hji:j=i:=by simpa using hj
 subst hji;have hmem:j∈Region.ready .any ops listed:=by rw [hr];exact hj
 unfold wpOp;simp only [hi];rw [if_pos (by simp [Region.wanted])];refine .inl (Oper.wp_mono (fun a' w' ⟨β',G',s',hs',hr'⟩=>⟨fun h=>(by rw [he] at h;cases h),hs' R β' G' a' w' hr' (hcl.set hmem)⟩) (h _ (fun _ h=>h) R β G a w _ hrep))
theorem Ee (i:Nat) (hi:ops[i]?=some ⟨d,op,ty,pos,bF,none⟩) (hr:Region.ready .any ops listed=[i])
 (h:∀ K':St→Prop,(∀ s',dt P ops hs f (listed.setIfInBounds i true) s' K→K' s')→dJ P ⟨d,op,ty,pos,bF,none⟩ s K'):dt P ops hs (f+1) listed s K:=by
 intro R β G a w hrep hcl;refine ⟨fun h=>(by rw [hr] at h;cases h),fun j hj=>?_⟩;rw [hr] at hj;have hji:j=i:=by simpa using hj
 subst hji;have hmem:j∈Region.ready .any ops listed:=by rw [hr];exact hj
 unfold wpOp;simp only [hi];rw [if_pos (by simp [Region.wanted])];refine .inl (Oper.wp_mono (fun a' w' ⟨hx,β',G',s',hs',hr'⟩=>⟨fun _=>hx,hs' R β' G' a' w' hr' (hcl.set hmem)⟩) (h _ (fun _ h=>h) R β G a w _ hrep))
theorem BU {t:Nat} (i:Nat) (hi:ops[i]?=some ⟨d,op,ty,pos,bF,some (j,b)⟩) (hr:Region.ready .any ops listed=[i])
 (ht:(ops[j]?).bind (·.dst)=some t) (hc:s.fr[t]?=some (.bool b))
 (h:∀ K':St→Prop,(∀ s',dt P ops hs f (listed.setIfInBounds i true) s' K→K' s')→dJ P ⟨d,op,ty,pos,bF,some (j,b)⟩ s K'):dt P ops hs (f+1) listed s K:=by
 intro R β G a w hrep hcl;refine ⟨fun h=>(by rw [hr] at h;cases h),fun k hj=>?_⟩;rw [hr] at hj;have hji:k=i:=by simpa using hj
 subst hji;have hmem:k∈Region.ready .any ops listed:=by rw [hr];exact hj
 have hgk:=ix hrep ht hc;unfold wpOp;simp only [hi];rw [if_pos (by simp [Region.wanted,hgk])];refine .inl (Oper.wp_mono (fun a' w' ⟨hx,β',G',s',hs',hr'⟩=>⟨fun _=>hx,hs' R β' G' a' w' hr' (hcl.set hmem)⟩) (h _ (fun _ h=>h) R β G a w _ hrep))
theorem Hj {f:FuncId} {args:Array Operand} {fx:Array TypeId} {ty:TypeId} {pos:String} {bF:Array Edge} {g:Option (Nat×Bool)} {Q:AV→Prop} [hc:cI P f]
 (h:bm P f (cv s args) Q) (hp:AV.cu (cv s args)=true) (hk:∀ x,Q x→K (s.put d x)):dJ P ⟨d,.call {callee:=.value (.func f),args,argTypes:=fx},ty,pos,bF,g⟩ s K:=by
 intro R β G a w Q' hr;have hrun:(execOp a.eval ⟨d,.call {callee:=.value (.func f),args,argTypes:=fx},ty,pos,bF,g⟩).run P w= .ok (.enter f (args.map a.eval)) w:=by simp [execOp,resolve,Act.eval,Deferred.ofValue,invoke,hc.ok]
 unfold Oper.wp;rw [hrun,Oper.upon_enter];have:=h G w (args.map a.eval).toList hr.hp.gs (o5 hr args hp);simp only [qf5] at this;refine this.mono fun e w' ⟨y,G',x,he,hQ,hcx,hd,hG',hext⟩=>?_;subst he;obtain ⟨G'',hr',hm⟩:=hr.later hext hG' hd;exact ⟨hext,β,G'',_,hk x hQ,hr'.put d ((hcx.mono hm).free β)⟩
variable {t:TypeId} {z:Value} {g:Option (Nat×Bool)}
theorem cN {d:Tmp} {el:TypeId} {len:Nat} {parts:Array (Nat×Operand)} {m bw:Nat}
 [hu:cT P t (.slice el)] [hi:dI P el z m bw] (hsm:decide (0 < len * m)=true∧decide (len * m≤16777216)=true∧decide (len * bw≤140737488355328)=true)
 (hd:rS 0 (bM s parts)=true) (hl:(bM s parts).length=len) (hok:eU (fun i=>some (i * m,m)) (len * m) (bM s parts)=true)
 (hpu:AV.cu ((bM s parts).map (·.2))=true)
 (hk:K (s.put (some d) (.cD m bw ((bM s parts).map (·.2))))):dJ P ⟨some d,.buildSlice t len parts,ty,pos,bF,g⟩ s K:=
 pZ hsm hd hl hok hpu hk
theorem ka (h:dJ P o s K):ff P o s K:=fun R β G a w Q hr=>Oper.wp_mono (fun _ _ h=>h.2) (h R β G a w Q hr)
theorem eZ {d:Tmp} {n b:Nat} [hi:dI P t z n b]
 (id:Nat) (hf:s.free id=true) (hk:K ⟨s.fr.set d (.ptr id 0),cP s.hp id ⟨t,(AV.dY z).cells,true⟩⟩):dJ P ⟨some d,.alloc t,ty,pos,bF,g⟩ s K:=by
 intro R β G a w Q hr;have h1:=hr.qk hf t (AV.dY z).cells z.cells true (by rw [iH];exact qb3 _) (fun _=>iH z) (jm z) (vM id z);have hrun:(execOp a.eval ⟨some d,.alloc t,ty,pos,bF,g⟩).run P w= .ok (.value (.pointer (some ⟨w.heap.size,0,none⟩))) (w.alloc (.cells z.cells t (0,0))):=by simp [execOp,Instr.alloc,pq hi,newVar,newRow]
 unfold Oper.wp;rw [hrun,Oper.upon_value];exact ⟨(Below.refl _ _).alloc (qb3 _) _,_,_,_,hk,h1.put (some d) (.ptr (t:=z.cells.size) aT)⟩
theorem B8 {d:Tmp} {x:Operand}
 (id:Nat) (hf:s.free id=true) (h1:(s.eval x).one=true∨∃ cs,s.eval x= .agg cs) (hm:AV.bz id (s.eval x).cells=false)
 (hk:K ⟨s.fr.set d (.ptr id 0),cP s.hp id ⟨t,(s.eval x).cells,true⟩⟩):dJ P ⟨some d,.box t x,ty,pos,bF,g⟩ s K:=by
 intro R β G a w Q hr;obtain ⟨c1,c2⟩:=pw (hr.eval x) h1;have h2:=hr.qk hf t (s.eval x).cells (a.eval x).cells true ak (fun _=>c1) c2 hm;have hrun:(execOp a.eval ⟨some d,.box t x,ty,pos,bF,g⟩).run P w= .ok (.value (.pointer (some ⟨w.heap.size,0,none⟩))) (w.alloc (.cells (a.eval x).cells t (0,0))):=by simp [execOp,Instr.box,newVar,newRow]
 unfold Oper.wp;rw [hrun,Oper.upon_value];exact ⟨(Below.refl _ _).alloc (qb3 _) _,_,_,_,hk,h2.put (some d) (.ptr (t:=(a.eval x).cells.size) aT)⟩
end Go.Ab
namespace Go.Ab
open Go.RowKit
variable {P:Program}
variable {t:TypeId} {f1 f2:Field} {k1 k2:IntKind}
theorem B9 (hu:cT P t (.struct #[f1,f2])) (h1:cT P f1.type (.int k1)) (h2:cT P f2.type (.int k2)) (ho:f1.offset=0∧f2.offset=1)
 (hn : (f1.name == "_" || f2.name == "_") = false) (hs : P.stoodInHeld t = false) (a b c d : Int) (w : World):
 (Op.equalIn 10000 t (.agg #[.int .i64 a,.int .i64 b]) (.agg #[.int .i64 c,.int .i64 d])).run P w= .ok (a == c&&b == d) w:=by
 have hf:P.fieldsOf t=#[f1,f2]:=by simp [Program.fieldsOf,hu.ok]
 rw [run_equalIn_agg w 9999 t _ _ (by rw [hf];exact hu.ok) hs,hf];rw [qg7] at hn;have n1 : f1.name ≠ "_" := by simpa using hn.1
 have n2 : f2.name ≠ "_" := by simpa using hn.2
 simp only [Op.eqFields,n1,n2,ne_eq,not_false_eq_true,if_true,Sem.run_bind,part,dv h1.ok,dv h2.ok,l8,qb1,qa8,if_false,ho.1,ho.2];simp only [qa0,qb9,qb2,Sem.run_pure,qb1,run_equalIn_int w 9998 _ _ _ _ _ h1.ok,run_equalIn_int w 9998 _ _ _ _ _ h2.ok];cases hac:(a == c)
 ·rfl
 simp only [Bool.not_true,qa8,if_false,dv h2.ok,l8,Sem.run_bind,Sem.run_pure,qb1,run_equalIn_int w 9998 _ _ _ _ _ h2.ok,qf4];cases hbd:(b == d)<;>rfl
variable {G:bI} {β:c9} {a b:Int}
theorem jW {y:Value} (h:Conc G β (.agg [.int a,.int b]) y):y= .agg #[.int .i64 a,.int .i64 b]:=by
 cases h with
 |agg xs hl hs=>
  match xs,hl with
  |[x1,x2],_=>
   have e1:=dr (hs 0 _ _ rfl rfl);have e2:=dr (hs 1 _ _ rfl rfl);subst e1;subst e2;rfl
variable {s:St} {x y:Operand} {c:Int} {u:TypeId}
theorem ph {d:Int} [hu:cT P t (.struct #[f1,f2])] [h1:cT P f1.type (.int k1)] [h2:cT P f2.type (.int k2)]
 (hx:s.eval x= .agg [.int a,.int b]) (hy:s.eval y= .agg [.int c,.int d])
 (hc : (decide (f1.offset = 0) && decide (f2.offset = 1) && !(f1.name == "_" || f2.name == "_") && !P.stoodInHeld t && !P.eqGuardType P.depth t) = true): PV P (.binOp .eql t x y u) s (.bool (a == c && b == d)) :=
 dW fun _ _ _ ac _ h=>⟨_,.v,fun w' _ _ _ _ _=>by
  simp only [qa1,decide_eq_true_eq,qb7] at hc;obtain ⟨⟨⟨⟨o1,o2⟩,hn⟩,hs⟩,hg⟩:=hc;have e1:=h.eval x;rw [hx] at e1;have e2:=h.eval y;rw [hy] at e2;simp only [execOp,jW e1,jW e2,Sem.run_bind,run_eqGuard_agg w' _ t _ _ _ _ hg,qb1,run_eql_struct,B9 hu h1 h2 ⟨o1,o2⟩ hn hs];rfl⟩
theorem pj {d:Int} [hu:cT P t (.struct #[f1,f2])] [h1:cT P f1.type (.int k1)] [h2:cT P f2.type (.int k2)]
 (hx:s.eval x= .agg [.int a,.int b]) (hy:s.eval y= .agg [.int c,.int d])
 (hc : (decide (f1.offset = 0) && decide (f2.offset = 1) && !(f1.name == "_" || f2.name == "_") && !P.stoodInHeld t && !P.eqGuardType P.depth t) = true): PV P (.binOp .neq t x y u) s (.bool (!(a == c && b == d))) :=
 dW fun _ _ _ ac _ h=>⟨_,.v,fun w' _ _ _ _ _=>by
  simp only [qa1,decide_eq_true_eq,qb7] at hc;obtain ⟨⟨⟨⟨o1,o2⟩,hn⟩,hs⟩,hg⟩:=hc;have e1:=h.eval x;rw [hx] at e1;have e2:=h.eval y;rw [hy] at e2;simp only [execOp,jW e1,jW e2,Sem.run_bind,run_eqGuard_agg w' _ t _ _ _ _ hg,qb1,run_neq_struct,B9 hu h1 h2 ⟨o1,o2⟩ hn hs];rfl⟩
theorem oA (op:BinOp) (t:TypeId) (x y:Operand) (a b:Bool) (w:World):(eqGuard op t x y (.bool a) (.bool b)).run P w= .ok () w:=by
 unfold eqGuard;cases op<;>simp
theorem pe {a b:Bool} [hu:cT P t .bool] (hx:s.eval x= .bool a) (hy:s.eval y= .bool b):PV P (.binOp .eql t x y u) s (.bool (a == b)):=
 dW fun _ _ _ ac _ h=>⟨_,.v,fun w' _ _ _ _ _=>by
  have e1:=h.eval x;rw [hx] at e1;have e2:=h.eval y;rw [hy] at e2;simp only [execOp,jk e1,jk e2,Sem.run_bind,oA,qb1];simp only [binOp,Op.equal,Sem.run_bind,Op.maxDepth,run_equalIn_bool w' 9999 t a b hu.ok,qb1];rfl⟩
theorem pg {a b:Bool} [hu:cT P t .bool] (hx:s.eval x= .bool a) (hy:s.eval y= .bool b):PV P (.binOp .neq t x y u) s (.bool (!(a == b))):=
 dW fun _ _ _ ac _ h=>⟨_,.v,fun w' _ _ _ _ _=>by
  have e1:=h.eval x;rw [hx] at e1;have e2:=h.eval y;rw [hy] at e2;simp only [execOp,jk e1,jk e2,Sem.run_bind,oA,qb1];simp only [binOp,Op.equal,Sem.run_bind,Op.maxDepth,run_equalIn_bool w' 9999 t a b hu.ok,qb1];rfl⟩
theorem nv (op:BinOp) (t:TypeId) (x y:Operand) (a b:Option Addr) (n c n' c':Nat) (w:World):(eqGuard op t x y (.slice a n c) (.slice b n' c')).run P w= .ok () w:=by
 unfold eqGuard;cases op<;>simp
variable {d:Option Tmp} {K:St→Prop}
theorem zh {e:TypeId} {sz bw:Nat} {es:List AV} {ty:TypeId} {pos:String} {bF:Array Edge} {g:Option (Nat×Bool)} [hu:cT P t (.slice e)]
 (hx:s.eval x= .cD sz bw es) (hk:∀ b:Bool,(b=true→es=[])→K (s.put d (.bool b))):ff P ⟨d,.binOp .eql t x (.const (.slice none 0 0)) u,ty,pos,bF,g⟩ s K:=by
 intro R β G a w Q hr;have e1:=hr.eval x;rw [hx] at e1;generalize hy:a.eval x=y at e1;cases e1 with
 |@cD _ _ _ _ A c ys _ _ _ _ hA _ _=>
  have hrun:(execOp a.eval ⟨d,.binOp .eql t x (.const (.slice none 0 0)) u,ty,pos,bF,g⟩).run P w= .ok (.value (.bool A.isNone)) w:=by have hce:a.eval (.const (.slice none 0 0))= .slice none 0 0:=rfl;simp only [execOp,hy,hce,Sem.run_bind,nv,qb1,Lib.run_eql_slice_nil w t e A es.length c 0 0 hu.ok];rfl
  unfold Oper.wp;rw [hrun,Oper.upon_value];refine ⟨β,G,_,hk A.isNone (fun h=>?_),hr.put d .v⟩;cases A with
  |none=>exact qf8 (Nat.eq_zero_of_not_pos fun h=>hA h rfl)
  |some a=>cases h
theorem Qx {fx:Array TypeId} (hx:s.eval x= .int a) (hy:s.eval y= .int b):PV P (.call {callee:=.builtin .min,args:=#[x,y],argTypes:=fx}) s (.int (min a b)):=
 dW fun _ _ _ ac _ h=>⟨_,.v,fun w' _ _ _ _ _=>by
  have e1:=h.eval x;rw [hx] at e1;have e2:=h.eval y;rw [hy] at e2
  have:(if b < a then b else a)=min a b:=by rw [Int.min_def];split<;>split<;>omega
  simp [execOp,resolve,invoke,builtin,dr e1,dr e2,run_min_int2,this]⟩
theorem Qy {fx:Array TypeId} (hx:s.eval x= .int a) (hy:s.eval y= .int b):PV P (.call {callee:=.builtin .max,args:=#[x,y],argTypes:=fx}) s (.int (max a b)):=
 dW fun _ _ _ ac _ h=>⟨_,.v,fun w' _ _ _ _ _=>by
  have e1:=h.eval x;rw [hx] at e1;have e2:=h.eval y;rw [hy] at e2
  have:(if a < b then b else a)=max a b:=by rw [Int.max_def];split<;>split<;>omega
  simp [execOp,resolve,invoke,builtin,dr e1,dr e2,run_max_int2,this]⟩
theorem iR {R:Rg} {a:Act} {w:World} (h:fw R β G s a w) (args:Array Operand):
 (cv s args).length=(args.map a.eval).toList.length∧∀ (j:Nat) x y,(cv s args)[j]?=some x→(args.map a.eval).toList[j]?=some y→Conc G β x y:=by
 refine ⟨by simp [cv],fun j x y hx hy=>?_⟩;simp only [cv,qc9,qg4,qa6,Array.getElem?_map] at hx hy;obtain ⟨o,h1,rfl⟩:=hx;obtain ⟨o',h2,rfl⟩:=hy;rw [h1] at h2;injection h2 with h2;subst h2
 exact h.eval o
variable {f:FuncId}
theorem cL {caps:Array Operand} (hf:f≤999999999:=by decide):PV P (.makeFunc (.func f) #[] caps) s (.fn f (cv s caps)):=
 dW fun R β G a w h=>by
  obtain ⟨h1,h2⟩:=iR h caps;refine ⟨.func (.func f) #[] (caps.map a.eval),?_,fun w' _ _ _ _ _=>by simp [execOp,Instr.makeFunc]⟩;have:=Conc.fn (G:=G) (β:=β) (f:=f) (cs:=cv s caps) (caps.map a.eval).toList hf h1 h2;rw [qf5] at this;exact this
theorem vF {id off:Nat} (hx:s.eval x= .ptr id off):PV P (.nilCheck x) s (.ptr id off):=
 dW fun R β G a w h=>by
  have e1:=h.eval x;rw [hx] at e1;generalize hy:a.eval x=y at e1;cases e1 with
  |ptr hb=>exact ⟨_,.ptr hb,fun w' _ _ _ _ _=>by simp [execOp,hy]⟩
variable {cs:List AV}
theorem th (hx:s.eval x= .bC cs):PV P (.nilCheck x) s (.bC cs):=
 dW fun R β G a w h=>by
  have e1:=h.eval x;rw [hx] at e1;generalize hy:a.eval x=y at e1;cases e1 with
  |bC ys hl hr hs=>exact ⟨_,.bC ys hl hr hs,fun w' _ _ _ _ _=>by simp [execOp,hy]⟩
theorem tj (hx:s.eval x= .fn f cs):PV P (.nilCheck x) s (.fn f cs):=
 dW fun R β G a w h=>by
  have e1:=h.eval x;rw [hx] at e1;generalize hy:a.eval x=y at e1;cases e1 with
  |fn xs hf hl hs=>exact ⟨_,.fn xs hf hl hs,fun w' _ _ _ _ _=>by simp [execOp,hy]⟩
  |sZ h=>exact ⟨_,.sZ h,fun w' _ _ _ _ _=>by simp [execOp,hy]⟩
theorem ki {y:Value} (h:Conc G β (.fn f cs) y) (hlt:f < 1000000000):∃ xs:List Value,y= .func (.func f) #[] xs.toArray∧cs.length=xs.length∧∀ (j:Nat) x v,cs[j]?=some x→xs[j]?=some v→Conc G β x v:=by
 cases h with
 |fn xs hf hl hs=>exact ⟨xs,rfl,hl,hs⟩
 |sZ _=>exact absurd hlt (Nat.not_lt.2 (Nat.le_add_right 1000000000 _))
variable {fo:Operand} {caps:List AV} {args:Array Operand} {Q:AV→Prop}
theorem fj {fx:Array TypeId} {ty:TypeId} {pos:String} {bF:Array Edge} {g:Option (Nat×Bool)}
 (hf:s.eval fo= .fn f caps) [hc:cI P f]
 (h:bm P f (cv s args++caps) Q) (hp:AV.cu (cv s args++caps)=true) (hk:∀ x,Q x→K (s.put d x)):dJ P ⟨d,.call {callee:=.value fo,args,argTypes:=fx},ty,pos,bF,g⟩ s K:=by
 intro R β G a w Q' hr;have e1:=hr.eval fo;rw [hf] at e1;obtain ⟨xs,hfv,hxl,hxs⟩:=ki e1 hc.lt;have hrun:(execOp a.eval ⟨d,.call {callee:=.value fo,args,argTypes:=fx},ty,pos,bF,g⟩).run P w= .ok (.enter f (args.map a.eval++xs.toArray)) w:=by simp [execOp,resolve,hfv,Deferred.ofValue,invoke,hc.ok]
 unfold Oper.wp;rw [hrun,Oper.upon_enter];obtain ⟨l1,l2⟩:=iR hr args;have hcl:w5 G (cv s args++caps) ((args.map a.eval).toList++xs):=by
  refine ⟨by simp [l1,hxl],fun j x y hx hy=>?_⟩;have hpx:=gB hp hx;rcases qc4 j (cv s args).length with hj|hj
  ·rw [qe1 hj] at hx
   rw [qe1 ak] at hy;exact (l2 j x y hx hy).oq hpx na
  rw [qc7 hj] at hx;rw [qc7 ak,← l1] at hy;exact (hxs _ x y hx hy).oq hpx na
 have:=h G w _ hr.hp.gs hcl;have harr:((args.map a.eval).toList++xs).toArray=args.map a.eval++xs.toArray:=by apply Array.ext';simp
 rw [harr] at this;refine this.mono fun e w' ⟨y,G',x,he,hQ,hcx,hd,hG',hext⟩=>?_;subst he;obtain ⟨G'',hr',hm⟩:=hr.later hext hG' hd;exact ⟨hext,β,G'',_,hk x hQ,hr'.put d ((hcx.mono hm).free β)⟩
theorem iS {fx:Array TypeId} {ty:TypeId} {pos:String} {bF:Array Edge} {g:Option (Nat×Bool)}
 (hf:s.eval fo= .fn f caps) [hc:cI P f]
 (h:bm P f (cv s args++caps) Q) (hp:AV.cu (cv s args++caps)=true) (hk:∀ x,Q x→K (s.put d x)):ff P ⟨d,.call {callee:=.value fo,args,argTypes:=fx},ty,pos,bF,g⟩ s K:=
 ka (fj hf h hp hk)
mutual
def AV.js (id:Nat) (cs:List AV):AV→AV
 | .ptr i o=>if i=id then .bC (cs.drop o) else .ptr i o
 | .sl a b i o n=>if i=id then .any else .sl a b i o n
 | .yl i y=>if i=id then .any else .yl i y
 | .agg l=>.agg (AV.fC id cs l)
 | .dC l=>.dC (AV.fC id cs l)
 | .fn f l=>.fn f (AV.fC id cs l)
 | .any=>.any
 | .v x=>.v x
 | .cD a b l=>.cD a b l
 | .bC l=>.bC l
def AV.fC (id:Nat) (cs:List AV):List AV→List AV
 |[]=>[]
 |x::r=>AV.js id cs x::AV.fC id cs r
end
theorem Hw (id:Nat) (cs l:List AV):AV.fC id cs l=l.map (AV.js id cs):=by
 induction l with
 |nil=>rfl
 |cons x l ih=>simp [AV.fC,ih]
def me (id:Nat) (cs:List AV):Hp→Hp
 |[]=>[]
 |(i,b)::r=>if i=id then me id cs r else (i,{b with cs:=AV.fC id cs b.cs})::me id cs r
theorem kR (id:Nat) (cs:List AV):∀ (l:List AV) (i:Nat),(AV.fC id cs l)[i]?=l[i]?.map (AV.js id cs)
 |[],i=>by simp [AV.fC]
 |x::l,0=>by simp [AV.fC]
 |x::l,i+1=>by simp [AV.fC,kR id cs l i]
theorem kS (id:Nat) (cs l:List AV):(AV.fC id cs l).length=l.length:=by
 induction l with
 |nil=>rfl
 |cons x l ih=>simp [AV.fC,ih]
theorem py (id:Nat) (cs:List AV) (hp:Hp) (i:Nat):bp (me id cs hp) i=if id=i then none else (bp hp i).map fun b=>{b with cs:=AV.fC id cs b.cs}:=by
 induction hp with
 |nil=>simp [me,bp]
 |cons p r ih=>
  obtain ⟨j,b⟩:=p;by_cases hj:j=id
  ·subst hj
   simp only [me,if_true,ih,bp];split<;>rfl
  simp only [me,hj,if_false,bp,ih];by_cases hji:j=i
  ·subst hji;simp [Ne.symm hj]
  simp [hji]
variable {id:Nat} {T:TypeId}
theorem Conc.QI {G:bI} {β:c9} {x:AV} {y:Value} (h:Conc G β x y) {b t:Nat} {arr:Array Value} (hβ:β id= .at b t) (cs:List AV) (hle:cs.length≤arr.size)
 (hcs:∀ (j:Nat) u v,cs[j]?=some u→arr[j]?=some v→Conc G na u v) (hG:G b=none):Conc (G.set b (.cells arr T (0,0))) β (AV.js id cs x) y:=by
 have hm:∀ k o,G k=some o→(G.set b (.cells arr T (0,0))) k=some o:=fun k o hk=>by
  simp only [bI.set];rw [if_neg (by rintro rfl;rw [hG] at hk;cases hk)];exact hk
 have key:∀ {β x y},Conc G β x y→β id= .at b t→Conc (G.set b (.cells arr T (0,0))) β (AV.js id cs x) y:=by
  intro β x y h
  induction h with
  |any=>intro _;exact .any
  |v=>intro _;exact .v
  |agg xs hl _ ih=>
   intro hb;simp only [AV.js];refine .agg xs (by rw [kS];exact hl) fun j u v hu hv=>?_;rw [kR,qa6] at hu;obtain ⟨u0,hu0,rfl⟩:=hu;exact ih j u0 v hu0 hv hb
  |dC xs hl _ ih=>
   intro hb;simp only [AV.js];refine .dC xs (by rw [kS];exact hl) fun j u v hu hv=>?_;rw [kR,qa6] at hu;obtain ⟨u0,hu0,rfl⟩:=hu;exact ih j u0 v hu0 hv hb
  |fn xs hf hl _ ih=>
   intro hb;simp only [AV.js];refine .fn xs hf (by rw [kS];exact hl) fun j u v hu hv=>?_;rw [kR,qa6] at hu;obtain ⟨u0,hu0,rfl⟩:=hu;exact ih j u0 v hu0 hv hb
  |sZ _ ih=>
   intro hb;simp only [AV.js,AV.fC];exact .sZ (ih hb)
  |@ptr β i o b' t' h=>
   intro hb;simp only [AV.js];split
   ·rename_i e;subst e
    rw [hb] at h;injection h with h1 h2;subst h1
    refine .bC ((arr.toList.drop o).take (cs.length - o)) aO (fun j v hv=>?_) (fun j u v hu hv=>?_)
    ·rw [Addr.fM]
     have hj:j < cs.length - o:=by have:=bX hv;simp at this;omega
     simp only [qc3,hj,if_true,qd0,qg4] at hv;simpa [ep,bI.set] using hv
    have hj:j < cs.length - o:=by have:=bX hv;simp at this;omega
    simp only [qc3,hj,if_true,qd0,qg4] at hv;rw [qd0] at hu;exact (hcs _ u v hu hv).mono hm
   exact .ptr h
  |lU h=>
   intro hb;simp only [AV.js];split
   ·exact .any
   exact .lU h
  |yl h=>
   intro hb;simp only [AV.js];split
   ·exact .any
   exact .yl h
  |sl h hn ht hmm hbb=>
   intro hb;simp only [AV.js];split
   ·exact .any
   exact .sl h hn ht hmm hbb
  |cD ys hu hl hc hb' hA hr hs _=>
   intro _;simp only [AV.js];exact .cD ys hu hl hc hb' hA (fun j v hv=>let ⟨a,ha,hg⟩:=hr j v hv;⟨a,ha,jO hm hg⟩) (fun j u v hu hv=>(hs j u v hu hv).mono hm)
  |bC ys hl hr hs _=>
   intro _;simp only [AV.js];exact .bC ys hl (fun j v hv=>jO hm (hr j v hv)) (fun j u v hu hv=>(hs j u v hu hv).mono hm)
 exact key h hβ
variable {f:List AV} {hp:Hp} {bk:iB}
theorem bR (id:Nat) (hb:bp hp id=some bk) (hp1:AV.cu bk.cs=true) (hne:bk.full=true):Le ⟨f,hp⟩ ⟨AV.fC id bk.cs f,me id bk.cs hp⟩:=by
 intro R β G a w h;have h0:=h.hp.blk id bk hb;unfold bZ at h0;cases hβ:β id with
 |no=>rw [hβ] at h0;exact h0.elim
 |nil=>rw [hβ] at h0;rw [hne] at h0;cases h0.2
 |gh o=>rw [hβ] at h0;have:=vD.R4 h0;rw [hne] at this;cases this.1
 |«at» b t=>
  rw [hβ] at h0;obtain ⟨g1,g2,arr,g3,g4,g5,g6,g7⟩:=h0;have hcs:∀ (j:Nat) u v,bk.cs[j]?=some u→arr[j]?=some v→Conc G na u v:=fun j u v hu hv=>(g7 j u v hu hv).oq (gB hp1 hu) na;have Ca:∀ {x y},Conc G β x y→Conc (G.set b (.cells arr bk.T (0,0))) β (AV.js id bk.cs x) y:=fun hx=>hx.QI hβ bk.cs ak hcs g1;have hmono:∀ k o,G k=some o→(G.set b (.cells arr bk.T (0,0))) k=some o:=fun k o hk=>by
   simp only [bI.set];rw [if_neg (by rintro rfl;rw [g1] at hk;cases hk)];exact hk
  refine ⟨β,G.set b (.cells arr bk.T (0,0)),h.defers.mono hmono,by rw [kS];exact h.size,fun i x y hx hy=>?_,⟨fun k o hk=>?_,fun i bk' hi=>?_,fun i j b' t t' hi hj=>?_,h.hp.keeps,fun k hk=>?_,h.hp.kL,h.hp.iC.sub fun i hi=>by
   rw [py] at hi;split at hi
   ·cases hi
   simpa using hi⟩⟩
  ·rw [kR,qa6] at hx
   obtain ⟨x0,hx0,rfl⟩:=hx;exact Ca (h.fr i x0 y hx0 hy)
  ·simp only [bI.set] at hk
   split at hk
   ·rename_i e;subst e;injection hk with hk;subst hk;exact g3
   exact h.hp.gs k o hk
  ·rw [py] at hi
   by_cases hid:id=i
   ·simp [hid] at hi
   simp only [hid,if_false,qa6] at hi;obtain ⟨bk1,hi1,rfl⟩:=hi;have:=h.hp.blk i bk1 hi1;unfold bZ at this ⊢;cases hβi:β i with
   |no=>rw [hβi] at this;exact this
   |nil=>rw [hβi] at this;exact ⟨by rw [this.1];rfl,this.2⟩
   |«at» b1 t1=>
    rw [hβi] at this;obtain ⟨k1,k2,arr',k3,k4,k5,k6,k7⟩:=this;have hbb:b1≠b:=fun e=>by subst e;exact hid (h.hp.inj id i b1 t t1 (by rw [hb];rfl) (by rw [hi1];rfl) hβ hβi)
    refine ⟨by simp only [bI.set];rw [if_neg hbb];exact k1,k2,arr',k3,k4,by simpa [kS] using k5,by simpa [kS] using k6,fun j x y hx hy=>?_⟩;simp only [kR,qa6] at hx;obtain ⟨x0,hx0,rfl⟩:=hx;exact Ca (k7 j x0 y hx0 hy)
   |gh o=>rw [hβi] at this;exact qX this hmono (AV.js id bk.cs) (fun x _ y hc=>Ca hc) _ (Hw _ _ _)
  ·have key:∀ i,(bp (me id bk.cs hp) i).isSome→(bp hp i).isSome:=fun i hi=>by
    rw [py] at hi;split at hi
    ·cases hi
    simpa using hi
   exact h.hp.inj i j b' t t' (key i hi) (key j hj)
  simp only [bI.set] at hk;split at hk
  ·rename_i e;subst e
   exact .inr g2
  exact h.hp.kH k hk
theorem wI (i id sz bw:Nat) (T:TypeId) (hx:f[i]?=some .fO) (hf:St.free ⟨f,hp⟩ id=true):Le ⟨f,hp⟩ ⟨f.set i (.sl sz bw id 0 0),cP hp id ⟨T,[],false⟩⟩:=by
 intro R β G a w h;obtain ⟨f1,f2,f3⟩:=j9 hf;have hself:(β.set id .nil) id= .nil:=by simp [c9.set]
 have hoth:∀ j,j≠id→(β.set id .nil) j=β j:=fun j hj=>by simp [c9.set,hj]
 refine ⟨β.set id .nil,G,h.defers,by simpa using h.size,fun j x y hj hy=>?_,⟨h.hp.gs,fun j bk hj=>?_,fun j k b t t' hj hk hbj hbk=>?_,h.hp.keeps,h.hp.kH,h.hp.kL.set _ (iD hf),h.hp.iC.PY _ (by have:=iD hf;omega)⟩⟩
 ·rw [qi2] at hj
  by_cases hij:i=j
  ·subst hij
   simp only [if_true] at hj;split at hj<;>simp at hj;subst hj;have:=fz (h.fr i _ y hx hy);rw [this];exact .lU hself
  simp only [hij,if_false] at hj;exact (h.fr j x y hj hy).iM (f1 j x hj) _
 ·rw [cO] at hj
  unfold bZ;by_cases hid:id=j
  ·subst hid
   simp only [if_true,qd9] at hj;subst hj;rw [hself];exact ⟨rfl,rfl⟩
  simp only [hid,if_false] at hj;rw [hoth j (Ne.symm hid)];have:=h.hp.blk j bk hj;unfold bZ at this;cases hβ:β j with
  |no=>rw [hβ] at this;exact this
  |nil=>rw [hβ] at this;exact this
  |«at» b t=>
   rw [hβ] at this;obtain ⟨g1,g2,arr,g3,g4,g5,g6,g7⟩:=this;exact ⟨g1,g2,arr,g3,g4,g5,g6,fun k x y hx hy=>(g7 k x y hx hy).iM (f3 j bk k x hj hx) _⟩
  |gh o=>
   rw [hβ] at this;exact gA this (fun _ _ h=>h) fun x hx y hc=>by
    obtain ⟨k,hk⟩:=qf2 hx;exact hc.iM (f3 j bk k x hj hk) _
 have key:∀ j b t,(β.set id .nil) j= .at b t→j≠id:=fun j b t hb e=>by subst e;rw [hself] at hb;cases hb
 have n1:=key j b t hbj;have n2:=key k b t' hbk;rw [hoth j n1] at hbj;rw [hoth k n2] at hbk;rw [cO,if_neg (Ne.symm n1)] at hj;rw [cO,if_neg (Ne.symm n2)] at hk;exact h.hp.inj j k b t t' hj hk hbj hbk
variable {sz bw n:Nat}
theorem zi (i id:Nat) (es:List AV) (hx:f[i]?=some (.sl sz bw id 0 n)) (hb:bp hp id=some bk) (hes:es.flatMap AV.cells=bk.cs)
 (hu:∀ e∈es,e.cells.length=sz) (hn:es.length=n) (hp1:AV.cu bk.cs=true) (hsz:0 < sz):Le ⟨f,hp⟩ ⟨(AV.cG id f).set i (.cD sz bw es),eQ id hp⟩:=by
 intro R β G a w h;have h0:=h.hp.blk id bk hb;unfold bZ at h0;have hoth:∀ j,j≠id→(β.set id .no) j=β j:=fun j hj=>by simp [c9.set,hj]
 have fin:∀ (G':bI),(∀ b o,G b=some o→G' b=some o)→(∀ b o,G' b=some o→w.heap[b]?=some o)→(∀ b,G' b≠none→R.g0 b≠none∨R.w0.heap.size≤b∨R.ex b)→
  (∀ j bk' b t,j≠id→bp hp j=some bk'→β j= .at b t→G' b=none)→(∀ y,a.tmps[i]?=some y→Conc G' na (.cD sz bw es) y)→∃ β' G',fw R β' G' ⟨(AV.cG id f).set i (.cD sz bw es),eQ id hp⟩ a w:=by
  intro G' hm hgs hdom hfree hc;refine ⟨β.set id .no,G',h.defers.mono hm,by rw [qk1,dA];exact h.size,fun j x y hj hy=>?_,⟨hgs,fun j bk' hj=>?_,fun j k b t t' hj hk hbj hbk=>?_,h.hp.keeps,hdom,h.hp.kL.gone,h.hp.iC.dN _⟩⟩
  ·rw [qi2] at hj
   by_cases hij:i=j
   ·subst hij
    simp only [if_true] at hj;split at hj<;>simp at hj;subst hj;exact (hc y hy).free _
   simp only [hij,if_false] at hj;rw [ja,qa6] at hj;obtain ⟨x0,hx0,rfl⟩:=hj;exact ((h.fr j x0 y hx0 hy).mono hm).lO hoth
  ·rw [fA] at hj
   by_cases hid:id=j
   ·simp [hid] at hj
   simp only [hid,if_false,qa6] at hj;obtain ⟨bk1,hj1,rfl⟩:=hj;have:=h.hp.blk j bk1 hj1;unfold bZ at this ⊢;rw [hoth j (Ne.symm hid)];cases hβ:β j with
   |no=>rw [hβ] at this;exact this
   |nil=>rw [hβ] at this;exact ⟨by rw [this.1];rfl,this.2⟩
   |«at» b t=>
    rw [hβ] at this;obtain ⟨g1,g2,arr,g3,g4,g5,g6,g7⟩:=this;refine ⟨hfree j bk1 b t (Ne.symm hid) hj1 hβ,g2,arr,g3,g4,by simpa [dA] using g5,by simpa [dA] using g6,fun k x y hx hy=>?_⟩;simp only [ja,qa6] at hx;obtain ⟨x0,hx0,rfl⟩:=hx;exact ((g7 k x0 y hx0 hy).mono hm).lO hoth
   |gh o=>rw [hβ] at this;exact qX this hm (AV.dN id) (fun x _ y hc=>(hc.mono hm).lO hoth) _ (uI _ _)
  have key:∀ j b t,(β.set id .no) j= .at b t→j≠id:=fun j b t hb e=>by subst e;simp [c9.set] at hb
  have n1:=key j b t hbj;have n2:=key k b t' hbk;rw [hoth j n1] at hbj;rw [hoth k n2] at hbk;rw [fA,if_neg (Ne.symm n1)] at hj;rw [fA,if_neg (Ne.symm n2)] at hk;exact h.hp.inj j k b t t' (by simpa using hj) (by simpa using hk) hbj hbk
 cases hβ:β id with
 |no=>rw [hβ] at h0;exact h0.elim
 |gh o=>
  refine fin G (fun _ _ h=>h) h.hp.gs h.hp.kH (fun j bk' b t _ hj hbj=>(h.hp.block hj hbj).1) fun y hy=>?_;have hc:=h.fr i _ y hx hy;cases hc with
  |lU hb'=>rw [hβ] at hb';cases hb'
  |sl hb'=>rw [hβ] at hb';cases hb'
 |nil=>
  rw [hβ] at h0;have he:es=[]:=by
   cases es with
   |nil=>rfl
   |cons e es=>
    have h1:=hes;rw [h0.1,qd5] at h1;have h2:e.cells=[]:=(List.append_eq_nil_iff.1 h1).1;have:=hu e aC;rw [h2] at this;simp at this;omega
  refine fin G (fun _ _ h=>h) h.hp.gs h.hp.kH (fun j bk' b t _ hj hbj=>(h.hp.block hj hbj).1) fun y hy=>?_;have hc:=h.fr i _ y hx hy;subst he;cases hc with
  |lU _=>exact .cD (es:=[]) [] aC aC aC aC aC aC aC
  |sl hb'=>rw [hβ] at hb';cases hb'
 |«at» b t=>
  rw [hβ] at h0;obtain ⟨g1,g2,arr,g3,g4,g5,g6,g7⟩:=h0;have hm:∀ k o,G k=some o→(G.set b (.cells arr bk.T (0,0))) k=some o:=fun k o hk=>by
   simp only [bI.set];rw [if_neg (by rintro rfl;rw [g1] at hk;cases hk)];exact hk
  refine fin (G.set b (.cells arr bk.T (0,0))) hm (fun k o hk=>?_) (fun k hk=>?_) (fun j bk' b' t' hne hj hbj=>?_) fun y hy=>?_
  ·simp only [bI.set] at hk
   split at hk
   ·rename_i e;subst e;injection hk with hk;subst hk;exact g3
   exact h.hp.gs k o hk
  ·simp only [bI.set] at hk
   split at hk
   ·rename_i e;subst e;exact .inr g2
   exact h.hp.kH k hk
  ·have hbb:b'≠b:=fun e=>by subst e;exact hne (h.hp.inj j id b' t' t (by rw [hj];rfl) (by rw [hb];rfl) hbj hβ)
   simp only [bI.set];rw [if_neg hbb];exact (h.hp.block hj hbj).1
  have hc:=h.fr i _ y hx hy;cases hc with
  |lU hb'=>rw [hβ] at hb';cases hb'
  |@sl _ _ _ _ _ _ c b' t' hb' hnc ht hcm hbw=>
   rw [hβ] at hb';injection hb' with e1 e2;subst e1;subst e2
   subst hn;have hfl:(es.flatMap AV.cells).length=es.length * sz:=kc hu;have hle:es.length * sz≤arr.size:=by rw [← hfl,hes,g4];exact g5
   refine .cD (arr.toList.take (es.length * sz)) hu aO hnc hbw (fun _=>by simp) (fun j v hv=>⟨_,rfl,?_⟩) (fun j u v hu' hv=>?_)
   ·have hj:j < es.length * sz:=by have:=bX hv;simp at this;omega
    simp only [qc3,hj,if_true,qg4] at hv;rw [Addr.fM];simpa [ep,bI.set] using hv
   have hj:j < es.length * sz:=by have:=bX hv;simp at this;omega
   simp only [qc3,hj,if_true,qg4] at hv;rw [hes] at hu';exact ((g7 j u v hu' hv).oq (gB hp1 hu') na).mono hm
theorem np (id:Nat) (xs:List Int):AV.cG id (xs.map AV.int)=xs.map AV.int:=so id _ _ fun _=>rfl
theorem mc (id:Nat) (xs:List Bool):AV.cG id (xs.map AV.bool)=xs.map AV.bool:=so id _ _ fun _=>rfl
variable {α:Type}
theorem lq {f:α→AV} (h:∀ a,(f a).cells=[f a]) (xs:List α):(xs.map f).flatMap AV.cells=xs.map f:=by
 induction xs with
 |nil=>rfl
 |cons x l ih=>simp [h,ih]
variable {rs:Array ResultVar} {Q:AV→Prop} {e:Exit} {fr:List AV} {i:Nat} {full:Bool}
theorem kj {f:α→AV} (xs:List α) (hrs:rs=#[.tmp i]) (hx:fr[i]?=some (.sl 1 bw id 0 n))
 (hb:bp hp id=some ⟨T,xs.map f,full⟩) (hn:xs.length=n) (hc:∀ a,(f a).cells=[f a]) (hpu:∀ a,(f a).gq=true) (hQ:Q (.cD 1 bw (xs.map f)))
 (he:e= .ret∨e= .normal:=by first|exact .inl rfl|exact .inr rfl):Fin P rs Q e ⟨fr,hp⟩:=by
 have hi:i < fr.length:=bX hx;refine aY (zi i id (xs.map f) hx hb (lq hc xs) (fun e he=>?_) (by simpa using hn) (dO f xs hpu) ak) (by subst hrs;exact aX (aW (x:=.cD 1 bw (xs.map f)) (by simp [dA,hi]))) rfl hQ he;obtain ⟨a,_,rfl⟩:=qe7.1 he;rw [hc];rfl
theorem wK {f:α→AV} (xs:List α) (hrs:rs=#[.tmp i]) (hx:fr[i]?=some (.sl sz bw id 0 n))
 (hb:bp hp id=some ⟨T,(xs.map f).flatMap AV.cells,full⟩) (hn:xs.length=n) (hc:∀ a,(f a).cells.length=sz) (hpu:∀ a,AV.cu (f a).cells=true) (hsz:0 < sz) (hQ:Q (.cD sz bw (xs.map f)))
 (he:e= .ret∨e= .normal:=by first|exact .inl rfl|exact .inr rfl):Fin P rs Q e ⟨fr,hp⟩:=by
 have hi:i < fr.length:=bX hx;refine aY (zi i id (xs.map f) hx hb rfl (fun e he=>?_) (by simpa using hn) ?_ hsz) (by subst hrs;exact aX (aW (x:=.cD sz bw (xs.map f)) (by simp [dA,hi]))) rfl hQ he
 ·obtain ⟨a,_,rfl⟩:=qe7.1 he
  exact hc a
 clear hb hn hQ
 induction xs with
 |nil=>rfl
 |cons x l ih=>simp [ql,hpu,ih]
end Go.Ab
