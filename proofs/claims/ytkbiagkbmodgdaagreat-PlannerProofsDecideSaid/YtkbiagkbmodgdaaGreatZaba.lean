/- Part of a proof: of two right answers both have a plan, at one cost, or none. No condition. -/
import Derived.Deep.AppendLies
import Derived.Great.BuildSlice
import Derived.Laws.Small
import Derived.Laws.StructEq
import Derived.Lib.SliceRun
import Derived.Maps.AppendAt
import Derived.Orders
import Derived.RangeFuncCalls
import Derived.RangeFuncLeaves
import Derived.RangeFuncRecord
import Derived.WalkKit
set_option linter.unusedSimpArgs false
set_option linter.unusedVariables false
namespace Go.Ab
theorem aR {p:Prop} (h:p:=by first|exact ba (bF (by rfl) (by rfl) (by rfl) (by rfl)) (by rfl)|exact ba (qI (by rfl) (by rfl) (by rfl)) (by rfl)|exact ba (br (by rfl) (by rfl) (by rfl) (by first|decide|(simp;done)|(simp;omega))) (by rfl)|exact ba (oS (by rfl) (by rfl) (by first|decide|(simp;done)|(simp;omega))) (by rfl)):p:=h
theorem ab {p:Prop} (h:p:=by rfl):p:=h
theorem ae {p:Prop} (h:p:=by first|rfl|(simp only [go_sem,seval,dj,aV];done)):p:=h
theorem af {p:Prop} (h:p:=by first|rfl|(simp only [go_sem,seval])):p:=h
theorem ah {p:Prop} (h:p:=by kernel_rfl):p:=h
theorem ai {p:Prop} (h:p:=by (try simp only [go_sem,seval,dj,aV]);exact rfl):p:=h
theorem aj {p:Prop} (h:p:=by omega):p:=h
theorem ak {p:Prop} (h:p:=by first|decide|(simp;done)|(simp;omega)):p:=h
theorem al {p:Prop} (h:p:=by first|rfl|(simp only [go_sem,seval];done)|(simp only [go_sem,seval];rfl)|(simp [St.free,cI,AV.bz,AV.cv])):p:=h
theorem an {p:Prop} (h:p:=by first|trivial|rfl|omega|(unfold yC;omega)|(simp;done)|(simp;omega)):p:=h
theorem ao {p:Prop} (h:p:=by simp only [go_sem,seval,dj,aV];exact rfl):p:=h
theorem aq {p:Prop} (h:p:=by first|decide|simp):p:=h
theorem au {p:Prop} (h:p:=by simp only [tw,je,List.getElem?_toArray,List.getElem?_cons_zero,List.getElem?_cons_succ,Option.bind_some,Option.getD_some,List.set_cons_zero,List.set_cons_succ,List.length_cons,List.length_nil,Nat.reduceAdd,Nat.zero_add];exact rfl):p:=h
theorem aw {p:Prop} (h:p:=by decide):p:=h
theorem ax {p:Prop} (h:p:=by simp):p:=h
theorem ay {p:Prop} (h:p:=by first|rfl|omega|(simp;done)|(simp;omega)):p:=h
theorem az {p:Prop} (h:p:=by assumption):p:=h
theorem aA {p:Prop} (h:p:=by first|omega|(simp only [Int.toNat_natCast,List.length_map];omega)):p:=h
theorem aB {p:Prop} (h:p:=by first|trivial|decide|(simp;done)|omega):p:=h
theorem aC {p:Prop} (h:p:=by exact ⟨by decide,by decide,by decide⟩):p:=h
theorem aD {p:Prop} (h:p:=by first|rfl|(simp)):p:=h
theorem aE {p:Prop} (h:p:=by simp;omega):p:=h
theorem aG {p:Prop} (h:p:=by simp [cM.set]):p:=h
theorem aH {p:Prop} (h:p:=by simp only;omega):p:=h
theorem aI {p:Prop} (h:p:=by simp only [go_sem,seval,dj,aV];first|done|rfl):p:=h
theorem aJ {p:Prop} (h:p:=by first|rfl|simp):p:=h
theorem aL {p:Prop} (h:p:=by first|rfl|assumption|simp):p:=h
end Go.Ab
namespace Go.Ab
@[go_sem] theorem Qb:(decide True=true)∧(decide False=false):=⟨rfl,rfl⟩
theorem dj:(∀ a:Bool,(a|| a)=a)∧(∀ a:Bool,(a|| true)=true)∧(∀ a:Bool,(true|| a)=true)∧(∀ a:Bool,(a|| false)=a)∧(∀ a:Bool,(false|| a)=a)∧(∀ a:Bool,(a&&true)=a)∧(∀ a:Bool,(true&&a)=a)∧(∀ a:Bool,(a&&false)=false)∧(∀ a:Bool,(false&&a)=false)∧(∀ a:Bool,(a&&a)=a)∧((!true)=false)∧((!false)=true)∧(∀ (α:Type) (a:α) (l m:List α),(a::l)++m=a::(l++m))∧(∀ (α:Type) (l:List α),[]++l=l)∧(∀ (α:Type) (l:List α),l++[]=l)∧(∀ (α:Type) (d:Decidable True) (a b:α),@ite α True d a b=a)∧(∀ (α:Type) (d:Decidable False) (a b:α),@ite α False d a b=b)∧((false=true)=False):=by
  refine ⟨?_,?_,?_,?_,?_,?_,?_,?_,?_,?_,rfl,rfl,?_,?_,?_,?_,?_,?_⟩<;>intros<;>simp
end Go.Ab
namespace Go.Ab
open Go.RowKit
structure cq where
 ps:Array Tmp
 assign:Code
 body:Code
 mp:Bool:=false
def tz:cq:={ps:=#[],assign:=.skip,body:=.skip,mp:=true}
inductive AV where
 |any
 |v (x:Value)
 |agg (cs:List AV)
 |dr (cs:List AV)
 |cr (sz bw:Nat) (es:List AV)
 |bx (cs:List AV)
 |ptr (id off:Nat)
 |sl (sz bw id off n:Nat)
 |fn (f:FuncId) (caps:List AV)
 |yl (id:Nat) (y:cq)
 deriving Inhabited
namespace AV
abbrev int (n:Int):AV:=.v (.int .i64 n)
abbrev bool (b:Bool):AV:=.v (.bool b)
abbrev fS:AV:=.v (.slice none 0 0)
def cells:AV→List AV
 | .agg cs=>cs
 |x=>[x]
def dA:Value→AV
 | .agg cs=>.agg (cs.toList.map AV.v)
 |x=>.v x
mutual
def cv (id:Nat):AV→Bool
 | .ptr i _=>i == id
 | .sl _ _ i _ _=>i == id
 | .yl i _=>i == id
 | .agg cs=>bz id cs
 | .dr cs=>bz id cs
 | .fn _ cs=>bz id cs
 | .any=>false
 | .v _=>false
 | .cr _ _ _=>false
 | .bx _=>false
def bz (id:Nat):List AV→Bool
 |[]=>false
 |x::r=>cv id x|| bz id r
end
def one:AV→Bool
 | .v x=>x.oneCell'
 | .cr _ _ _=>true
 | .bx _=>true
 | .ptr _ _=>true
 | .sl _ _ _ _ _=>true
 | .fn _ _=>true
 | .yl _ _=>true
 | .any=>false
 | .agg _=>false
 | .dr _=>false
end AV
inductive BK where
 |no
 |nil
 |at (b tot:Nat)
 |gh (o:Option (Nat×cq))
abbrev cM:=Nat→BK
abbrev bE:=Nat→Option Obj
def lj:cM:=fun _=>.no
def cM.set (β:cM) (id:Nat) (k:BK):cM:=fun i=>if i=id then k else β i
def dO (G:bE) (a:Addr):Option Value:=
 match G a.block with
 |some (.cells c _ _)=>if a.spot.isSome then none else c[a.off]?
 |_=>none
def reach:Nat:=140737488355328
def FA (y:cq) (l:Nat):Value:=if y.mp then .map (some l) else .func (.yield l) #[] #[]
inductive Conc (G:bE):cM→AV→Value→Prop where
 |any {β x}:Conc G β .any x
 |v {β x}:Conc G β (.v x) x
 |agg {β cs} (xs:List Value) (hl:cs.length=xs.length)
   (hs:∀ (j:Nat) x y,cs[j]?=some x→xs[j]?=some y→Conc G β x y):Conc G β (.agg cs) (.agg xs.toArray)
 |dr {β cs} (xs:List Value) (hl:cs.length=xs.length)
   (hs:∀ (j:Nat) x y,cs[j]?=some x→xs[j]?=some y→Conc G β x y):Conc G β (.dr cs) (.tuple xs.toArray)
 |fn {β f cs} (xs:List Value) (hf:f≤999999999) (hl:cs.length=xs.length)
   (hs:∀ (j:Nat) x y,cs[j]?=some x→xs[j]?=some y→Conc G β x y):Conc G β (.fn f cs) (.func (.func f) #[] xs.toArray)
 |qC {β T x v} (h:Conc G β x v):Conc G β (.fn (1000000000+T) [x]) (.iface T v)
 |ptr {β id off b t} (h:β id= .at b t):Conc G β (.ptr id off) (.pointer (some ⟨b,off,none⟩))
 |yl {β id y l} (h:β id= .gh (some (l,y))):Conc G β (.yl id y) (FA y l)
 |j5 {β sz bw id} (h:β id= .nil):Conc G β (.sl sz bw id 0 0) (.slice none 0 0)
 |sl {β sz bw id off n c b t} (h:β id= .at b t) (hn:n≤c) (ht:off+c * sz=t) (hm:c≤maxLen) (hb:n * bw≤reach) :
   Conc G β (.sl sz bw id off n) (.slice (some ⟨b,off,none⟩) n c)
 |cr {β sz bw es A c} (ys:List Value) (hu:∀ e∈es,e.cells.length=sz) (hl:ys.length=es.length * sz)
   (hc:es.length≤c) (hb:es.length * bw≤reach) (hA:0 < es.length→A≠none)
   (hr:∀ (j:Nat) y,ys[j]?=some y→∃ a,A=some a∧dO G (a.add j)=some y)
   (hs:∀ (j:Nat) x y,(es.flatMap AV.cells)[j]?=some x→ys[j]?=some y→Conc G lj x y) :
   Conc G β (.cr sz bw es) (.slice A es.length c)
 |bx {β cs a} (ys:List Value) (hl:ys.length=cs.length)
   (hr:∀ (j:Nat) y,ys[j]?=some y→dO G (a.add j)=some y)
   (hs:∀ (j:Nat) x y,cs[j]?=some x→ys[j]?=some y→Conc G lj x y):Conc G β (.bx cs) (.pointer (some a))
theorem dC {id:Nat}:∀ {cs:List AV} {j:Nat} {x:AV},AV.bz id cs=false→cs[j]?=some x→AV.cv id x=false
 |[],_,_,_,h=>by simp at h
 |c::cs,0,x,h,hx=>by simp at hx;subst hx;simp [AV.bz] at h;exact h.1
 |c::cs,j+1,x,h,hx=>by simp at hx;simp [AV.bz] at h;exact dC h.2 hx
theorem iL {G G':bE} (hG:∀ b o,G b=some o→G' b=some o) {a:Addr} {y:Value} (h:dO G a=some y):dO G' a=some y:=by
 unfold dO at *
 cases hg:G a.block with
 |none=>rw [hg] at h;cases h
 |some o=>rw [hg] at h;rw [hG _ _ hg];exact h
theorem Conc.vW {G G':bE} {β β':cM} {x:AV} {y:Value} (h:Conc G β x y)
  (hβ:∀ id,AV.cv id x=true→β' id=β id) (hG:∀ a y,dO G a=some y→dO G' a=some y):Conc G' β' x y:=by
 induction h generalizing β' with
 |any=>exact .any
 |v=>exact .v
 |agg xs hl _ ih=>
  refine .agg xs hl fun j x y hx hy=>ih j x y hx hy (fun id hm=>hβ id ?_)
  simp only [AV.cv]
  cases hq:AV.bz id _ with
  |true=>rfl
  |false=>rw [dC hq hx] at hm;cases hm
 |dr xs hl _ ih=>
  refine .dr xs hl fun j x y hx hy=>ih j x y hx hy (fun id hm=>hβ id ?_)
  simp only [AV.cv]
  cases hq:AV.bz id _ with
  |true=>rfl
  |false=>rw [dC hq hx] at hm;cases hm
 |fn xs hf hl _ ih=>
  refine .fn xs hf hl fun j x y hx hy=>ih j x y hx hy (fun id hm=>hβ id ?_)
  simp only [AV.cv]
  cases hq:AV.bz id _ with
  |true=>rfl
  |false=>rw [dC hq hx] at hm;cases hm
 |qC _ ih=>exact .qC (ih (fun id hm=>hβ id (by simp [AV.cv,AV.bz,hm])))
 |ptr h=>exact .ptr (by rw [hβ _ (by simp [AV.cv])];exact h)
 |j5 h=>exact .j5 (by rw [hβ _ (by simp [AV.cv])];exact h)
 |yl h=>exact .yl (by rw [hβ _ (by simp [AV.cv])];exact h)
 |sl h hn ht hm hb=>exact .sl (by rw [hβ _ (by simp [AV.cv])];exact h) hn ht hm hb
 |cr ys hu hl hc hb hA hr hs ih=>
  exact .cr ys hu hl hc hb hA (fun j y hy=>let ⟨a,ha,hg⟩:=hr j y hy;⟨a,ha,hG _ _ hg⟩)
   (fun j x y hx hy=>ih j x y hx hy (fun _ _=>rfl))
 |bx ys hl hr hs ih=>
  exact .bx ys hl (fun j y hy=>hG _ _ (hr j y hy)) (fun j x y hx hy=>ih j x y hx hy (fun _ _=>rfl))
theorem Conc.ext {G G':bE} {β β':cM} {x:AV} {y:Value} (h:Conc G β x y)
  (hβ:∀ id,AV.cv id x=true→β' id=β id) (hG:∀ b o,G b=some o→G' b=some o):Conc G' β' x y:=h.vW hβ fun _ _ h=>iL hG h
theorem Conc.mono {G G':bE} {β:cM} {x:AV} {y:Value} (h:Conc G β x y) (hG:∀ b o,G b=some o→G' b=some o):Conc G' β x y:=
 h.ext (fun _ _=>rfl) hG
theorem Conc.free {G:bE} {x:AV} {y:Value} (h:Conc G lj x y):∀ β':cM,Conc G β' x y:=by
 have key:∀ {β x y},Conc G β x y→(∀ id,β id= .no)→∀ β':cM,Conc G β' x y:=by
  intro β x y h
  induction h with
  |any=>intro _ _;exact .any
  |v=>intro _ _;exact .v
  |agg xs hl _ ih=>intro hn β';exact .agg xs hl fun j x y hx hy=>ih j x y hx hy hn β'
  |dr xs hl _ ih=>intro hn β';exact .dr xs hl fun j x y hx hy=>ih j x y hx hy hn β'
  |fn xs hf hl _ ih=>intro hn β';exact .fn xs hf hl fun j x y hx hy=>ih j x y hx hy hn β'
  |qC _ ih=>intro hn β';exact .qC (ih hn β')
  |ptr h=>intro hn;rw [hn] at h;cases h
  |j5 h=>intro hn;rw [hn] at h;cases h
  |yl h=>intro hn;rw [hn] at h;cases h
  |sl h=>intro hn;rw [hn] at h;cases h
  |cr ys hu hl hc hb hA hr hs _=>intro _ β';exact .cr ys hu hl hc hb hA hr hs
  |bx ys hl hr hs _=>intro _ β';exact .bx ys hl hr hs
 exact key h (fun _=>rfl)
theorem Conc.one {G:bE} {β:cM} {x:AV} {y:Value} (h:Conc G β x y) (h1:x.one=true):y.oneCell'=true:=by
 cases h with
 |@yl _ _ y l _=>unfold FA;split<;>rfl
 |_=>simp_all [AV.one,Value.oneCell']
structure fZ where
 T:TypeId
 cs:List AV
 full:Bool
abbrev Hp:=List (Nat×fZ)
def aW:Hp→Nat→Option fZ
 |[],_=>none
 |(i,b)::r,k=>if i=k then some b else aW r k
def cK:Hp→Nat→fZ→Hp
 |[],k,x=>[(k,x)]
 |(i,b)::r,k,x=>if i=k then (i,x)::r else (i,b)::cK r k x
def fy:Hp→Nat→Hp
 |[],_=>[]
 |(i,b)::r,k=>if i=k then fy r k else (i,b)::fy r k
theorem cE (hp:Hp) (k:Nat) (x:fZ) (i:Nat):aW (cK hp k x) i=if k=i then some x else aW hp i:=by
 induction hp with
 |nil=>simp [cK,aW]
 |cons p r ih=>
  obtain ⟨j,b⟩:=p
  by_cases hjk:j=k
  ·subst hjk
   simp only [cK,if_true,aW]
   split<;>rfl
  ·simp only [cK,hjk,if_false,aW,ih]
   by_cases hji:j=i
   ·subst hji;simp [Ne.symm hjk]
   ·simp [hji]
theorem ik (hp:Hp) (k i:Nat):aW (fy hp k) i=if k=i then none else aW hp i:=by
 induction hp with
 |nil=>simp [fy,aW]
 |cons p r ih=>
  obtain ⟨j,b⟩:=p
  by_cases hjk:j=k
  ·subst hjk
   simp only [fy,if_true,ih,aW]
   split<;>rfl
  ·simp only [fy,hjk,if_false,aW,ih]
   by_cases hji:j=i
   ·subst hji;simp [Ne.symm hjk]
   ·simp [hji]
structure St where
 fr:List AV
 hp:Hp
def St.put (s:St) (d:Option Nat) (x:AV):St:=
 match d with
 |some d=>{s with fr:=s.fr.set d x}
 |none=>s
def O1 (f:FuncId):AV:=if f≤999999999 then .fn f [] else .any
theorem xA {f:FuncId} (h:f≤999999999):O1 f= .fn f []:=if_pos h
def St.eval (s:St):Operand→AV
 | .tmp t=>s.fr.getD t .any
 | .const x=>.dA x
 | .global _=>.any
 | .func f=>O1 f
def cI (id:Nat):Hp→Bool
 |[]=>false
 |(i,b)::r=>i == id|| AV.bz id b.cs|| cI id r
def St.free (s:St) (id:Nat):Bool:=decide (id≤999999999)&&!(AV.bz id s.fr|| cI id s.hp)
structure ln where
 f:Nat→Option (Nat×Nat×cq)
 inj:∀ (i j l D D':Nat) (y y':cq),f i=some (l,D,y)→f j=some (l,D',y')→i=j
instance:CoeFun ln fun _=>Nat→Option (Nat×Nat×cq):=⟨ln.f⟩
def ln.no:ln:=⟨fun _=>none,fun _ _ _ _ _ _ _ h=>by cases h⟩
structure Rg where
 w0:World
 ex:Nat→Prop
 g0:bE
 out:Nat→Option (List Value)
 lp:ln
structure sP (R:Rg) (w:World):Prop where
 os:w.os=R.w0.os
 tape:w.tape=R.w0.tape
 output:w.output=R.w0.output
 size:R.w0.heap.size≤w.heap.size
 block:∀ k,k < R.w0.heap.size→¬R.ex k→w.heap[k]?=R.w0.heap[k]?
def Lp:Nat→LoopState
 |0=>.ready
 |1=>.busy
 |_=>.done
def O2:Nat→Option Code
 |0=>none
 |1=>none
 |2=>some .ret
 |k+3=>some (.exit k)
def cq.loop (y:cq) (f:FuncId) (T:Nat) (outs:List Value) (D:Nat):Loop:={state:=Lp T,pending:=O2 T,fn:=f,tmps:=outs.toArray,params:=y.ps,assign:=y.assign,body:=y.body,defers:=D}
def A6 (R:Rg) (G:bE) (id:Nat) (T:Nat) (outs:List Value):Option (Nat×cq)→Prop
 |none=>T=0
 |some (l,y)=>1≤T∧y.mp=false∧∃ D f,R.lp id=some (l,D,y)∧D < R.w0.heap.size∧l < R.w0.heap.size∧R.ex l∧G l=some (.loop (y.loop f (T - 1) outs D))∧G D=some (.deferred (some []))
theorem A6.mono {R:Rg} {G G':bE} {id T:Nat} {outs:List Value} {o:Option (Nat×cq)} (h:A6 R G id T outs o) (hG:∀ b x,G b=some x→G' b=some x):A6 R G' id T outs o:=by
 cases o with
 |none=>exact h
 |some p=>obtain ⟨h0,hp,D,f,h1,h4,h5,h6,h2,h3⟩:=h;exact ⟨h0,hp,D,f,h1,h4,h5,h6,hG _ _ h2,hG _ _ h3⟩
def yX (es:Array MapEntry):List Value:=es.toList.flatMap fun e=>[e.key,e.val]
def P6 (R:Rg) (β:cM) (G:bE) (id:Nat) (T:Nat) (fl:Bool) (cs:List AV) (o:Option (Nat×cq)):Prop:=
 ∃ outs,R.out id=some outs∧(fl=false∧1000000000≤T)∧A6 R G id (T - 1000000000) outs o∧cs.length=outs.length∧∀ (j:Nat) x y,cs[j]?=some x→outs[j]?=some y→Conc G β x y
def P7 (R:Rg) (β:cM) (G:bE) (id:Nat) (T:Nat) (fl:Bool) (cs:List AV) (o:Option (Nat×cq)):Prop:=
 ∃ b es clock,o=some (b,tz)∧(fl=false∧T=1000000000∧2000000000≤id)∧(R.w0.heap.size≤b∨R.ex b)∧G b=some (.map es clock)∧cs.length=(yX es).length∧∀ (j:Nat) x y,cs[j]?=some x→(yX es)[j]?=some y→Conc G β x y
def sM (R:Rg) (β:cM) (G:bE) (id:Nat) (T:Nat) (fl:Bool) (cs:List AV) (o:Option (Nat×cq)):Prop:=P6 R β G id T fl cs o∨P7 R β G id T fl cs o
theorem sM.MM {R:Rg} {β:cM} {G:bE} {id T:Nat} {fl:Bool} {cs:List AV} {o:Option (Nat×cq)} (h:sM R β G id T fl cs o):fl=false∧1000000000≤T:=by
 rcases h with ⟨_,_,h,_⟩|⟨_,_,_,_,⟨h1,h2,_⟩,_⟩
 ·exact h
 ·exact ⟨h1,by omega⟩
theorem sM.view {R:Rg} {β:cM} {G:bE} {id T:Nat} {fl:Bool} {cs:List AV} {o:Option (Nat×cq)} (h:sM R β G id T fl cs o) :
  ∃ outs:List Value,cs.length=outs.length∧(∀ (j:Nat) x y,cs[j]?=some x→outs[j]?=some y→Conc G β x y)∧
   ∀ (β':cM) (cs':List AV),cs'.length=outs.length→(∀ (j:Nat) x y,cs'[j]?=some x→outs[j]?=some y→Conc G β' x y)→sM R β' G id T fl cs' o:=by
 rcases h with ⟨outs,h0,h1,h2,h3,h4⟩|⟨b,es,clock,h0,h1,h2,h3,h4,h5⟩
 ·exact ⟨outs,h3,h4,fun β' cs' k1 k2=>.inl ⟨outs,h0,h1,h2,k1,k2⟩⟩
 ·exact ⟨yX es,h4,h5,fun β' cs' k1 k2=>.inr ⟨b,es,clock,h0,h1,h2,h3,k1,k2⟩⟩
def bW (R:Rg) (β:cM) (G:bE) (w:World) (id:Nat) (bk:fZ):Prop:=
 match β id with
 | .no=>False
 | .nil=>bk.cs=[]∧bk.full=false
 | .at b tot=>G b=none∧(R.w0.heap.size≤b∨R.ex b)∧∃ arr:Array Value,w.heap[b]?=some (.cells arr bk.T (0,0))∧arr.size=tot∧bk.cs.length≤tot∧
   (bk.full=true→bk.cs.length=tot)∧∀ (j:Nat) x y,bk.cs[j]?=some x→arr[j]?=some y→Conc G β x y
 | .gh o=>sM R β G id bk.T bk.full bk.cs o
def Iw (β:cM):Prop:=∀ id,(β id= .nil∨∃ b t,β id= .at b t)→id≤999999999
theorem Iw.set {β:cM} (h:Iw β) {id:Nat} (k:BK) (hid:id≤999999999):Iw (β.set id k):=fun i hi=>by
 by_cases he:i=id
 ·rw [he];exact hid
 ·simp only [cM.set,he,if_false] at hi;exact h i hi
theorem Iw.gone {β:cM} (h:Iw β) {id:Nat}:Iw (β.set id .no):=fun i hi=>by
 by_cases he:i=id
 ·subst he;simp [cM.set] at hi
 ·simp only [cM.set,he,if_false] at hi;exact h i hi
theorem qz:Iw lj:=fun _ h=>by rcases h with h|⟨_,_,h⟩<;>cases h
def iy (β:cM) (hp:Hp):Prop:=∀ i j b y y',2000000000≤i→2000000000≤j→(aW hp i).isSome→(aW hp j).isSome→β i= .gh (some (b,y))→β j= .gh (some (b,y'))→i=j
theorem iy.nil {β:cM}:iy β []:=fun i j b y y' _ _ h=>by simp [aW] at h
theorem iy.ext {β β':cM} {hp hp':Hp} (h:iy β hp) (he:∀ i,2000000000≤i→(aW hp' i).isSome→(aW hp i).isSome∧β' i=β i):iy β' hp':=fun i j b y y' h1 h2 hi hj hbi hbj=>by
 obtain ⟨a1,a2⟩:=he i h1 hi
 obtain ⟨c1,c2⟩:=he j h2 hj
 exact h i j b y y' h1 h2 a1 c1 (by rw [← a2];exact hbi) (by rw [← c2];exact hbj)
theorem iy.sub {β:cM} {hp hp':Hp} (h:iy β hp) (he:∀ i,(aW hp' i).isSome→(aW hp i).isSome):iy β hp':=h.ext fun i _ hi=>⟨he i hi,rfl⟩
theorem iy.one {β:cM} {id:Nat} {bk:fZ}:iy β [(id,bk)]:=fun i j b y y' _ _ hi hj _ _=>by
 simp only [aW] at hi hj
 split at hi
 ·split at hj
  ·rename_i h1 h2;exact h1.symm.trans h2
  ·simp at hj
 ·simp at hi
theorem ot {hp:Hp} {id i:Nat} {bk:fZ} (hk:(aW hp id).isSome) (h:(aW (cK hp id bk) i).isSome):(aW hp i).isSome:=by
 rw [cE] at h
 split at h
 ·rename_i e;subst e;exact hk
 ·exact h
theorem iy.cK {β:cM} {hp:Hp} (h:iy β hp) {id:Nat} {bk:fZ} (hk:(aW hp id).isSome):iy β (cK hp id bk):=h.sub fun _=>ot hk
theorem iy.DN {β:cM} {hp hp':Hp} (h:iy β hp) {id:Nat} (k:BK) (hid:id < 2000000000) (he:∀ i,i≠id→(aW hp' i).isSome→(aW hp i).isSome):iy (β.set id k) hp':=h.ext fun i h1 hi=>by
 have hne:i≠id:=by omega
 exact ⟨he i hne hi,by simp [cM.set,hne]⟩
theorem iy.KI {β:cM} {hp:Hp} (h:iy β hp) {id:Nat} (k:BK) {bk:fZ} (hid:id < 2000000000):iy (β.set id k) (Go.Ab.cK hp id bk):=h.DN k hid fun i hne hi=>by
 rw [cE,if_neg (Ne.symm hne)] at hi;exact hi
structure c9 (R:Rg) (β:cM) (G:bE) (hp:Hp) (w:World):Prop where
 gs:∀ b o,G b=some o→w.heap[b]?=some o
 blk:∀ id bk,aW hp id=some bk→bW R β G w id bk
 inj:∀ i j b t t',(aW hp i).isSome→(aW hp j).isSome→β i= .at b t→β j= .at b t'→i=j
 keeps:sP R w
 js:∀ b,G b≠none→R.g0 b≠none∨R.w0.heap.size≤b∨R.ex b
 jv:Iw β
 ga:iy β hp
def qR (n:Nat) (G:bE) (ds:List Deferred):Prop:=
 ∃ Ds:List Nat,ds=Ds.map (fun D=>{target:=.collected D,args:=#[]})∧Ds.Nodup∧∀ D∈Ds,n≤D∧G D=some (.deferred (some []))
theorem qR.mono {n:Nat} {G G':bE} {ds:List Deferred} (h:qR n G ds) (hG:∀ b x,G b=some x→G' b=some x):qR n G' ds:=
 let ⟨Ds,h1,h2,h3⟩:=h;⟨Ds,h1,h2,fun D hD=>⟨(h3 D hD).1,hG _ _ (h3 D hD).2⟩⟩
theorem sj {n:Nat} {G:bE}:qR n G []:=⟨[],rfl,List.nodup_nil,fun _ h=>by cases h⟩
theorem oP {R:Rg} {β β':cM} {G G':bE} {id T:Nat} {fl:Bool} {o:Option (Nat×cq)} {cs:List AV} (h:sM R β G id T fl cs o)
  (hG:∀ b x,G b=some x→G' b=some x) (f:AV→AV) (hc:∀ x∈cs,∀ y,Conc G β x y→Conc G' β' (f x) y) (cs':List AV) (hcs:cs'=cs.map f):sM R β' G' id T fl cs' o:=by
 subst hcs
 have key:∀ outs:List Value,(∀ (j:Nat) x y,cs[j]?=some x→outs[j]?=some y→Conc G β x y)→∀ (j:Nat) x y,(cs.map f)[j]?=some x→outs[j]?=some y→Conc G' β' x y:=fun outs h4 j x y hx hy=>by
  rw [List.getElem?_map,Option.map_eq_some_iff] at hx
  obtain ⟨x0,hx0,rfl⟩:=hx
  exact hc x0 (List.mem_of_getElem? hx0) y (h4 j x0 y hx0 hy)
 rcases h with ⟨outs,h0,h1,h2,h3,h4⟩|⟨b,es,clock,h0,h1,h2,h3,h4,h5⟩
 ·exact .inl ⟨outs,h0,h1,h2.mono hG,by rw [List.length_map];exact h3,key outs h4⟩
 ·exact .inr ⟨b,es,clock,h0,h1,h2,hG _ _ h3,by rw [List.length_map];exact h4,key _ h5⟩
theorem fv {R:Rg} {β β':cM} {G G':bE} {id T:Nat} {fl:Bool} {o:Option (Nat×cq)} {cs:List AV} (h:sM R β G id T fl cs o)
  (hG:∀ b x,G b=some x→G' b=some x) (hc:∀ x∈cs,∀ y,Conc G β x y→Conc G' β' x y):sM R β' G' id T fl cs o:=
 oP h hG (fun x=>x) hc cs ax
open Classical in
noncomputable def fW (R:Rg):ln:=⟨fun i=>(R.lp i).filter fun p=>decide (p.1 < R.w0.heap.size)&&decide (p.2.1 < R.w0.heap.size)&&decide (R.ex p.1),fun i j l D D' y y' h h'=>by
 simp only [Option.filter_eq_some_iff] at h h'
 exact R.lp.inj i j l D D' y y' h.1 h'.1⟩
theorem Cv {R:Rg} {β:cM} {G:bE} {id T:Nat} {fl:Bool} {cs:List AV} {o:Option (Nat×cq)} {w:World} {ex:Nat→Prop} {g:bE} (h:sM R β G id T fl cs o) (hw:R.w0.heap.size≤w.heap.size) (hx:∀ l y,o=some (l,y)→ex l):sM ⟨w,ex,g,R.out,fW R⟩ β G id T fl cs o:=by
 rcases h with ⟨outs,h0,h1,h2,h3⟩|⟨b,es,clock,h0,h1,h2,h3⟩
 ·refine .inl ⟨outs,h0,h1,?_,h3⟩
  cases o with
  |none=>exact h2
  |some p=>
   obtain ⟨k0,km,D,f,k1,k2,k3,k5,k4⟩:=h2
   exact ⟨k0,km,D,f,by simp [fW,k1,k2,k3,k5],Nat.lt_of_lt_of_le k2 hw,Nat.lt_of_lt_of_le k3 hw,hx _ _ rfl,k4⟩
 ·exact .inr ⟨b,es,clock,h0,h1,.inr (hx _ _ h0),h3⟩
theorem tP {R:Rg} {β:cM} {G:bE} {id T:Nat} {fl:Bool} {cs:List AV} {o:Option (Nat×cq)} {w:World} {ex:Nat→Prop} {g:bE} (h:sM ⟨w,ex,g,R.out,fW R⟩ β G id T fl cs o) (hw:R.w0.heap.size≤w.heap.size) (hx:∀ b,ex b→R.w0.heap.size≤b∨R.ex b):sM R β G id T fl cs o:=by
 rcases h with ⟨outs,h0,h1,h2,h3⟩|⟨b,es,clock,h0,h1,h2,h3⟩
 ·refine .inl ⟨outs,h0,h1,?_,h3⟩
  cases o with
  |none=>exact h2
  |some p=>
   obtain ⟨k0,km,D,f,k1,k2,k3,k5,k4⟩:=h2
   simp only [fW,Option.filter_eq_some_iff,Bool.and_eq_true,decide_eq_true_eq] at k1
   exact ⟨k0,km,D,f,k1.1,k1.2.1.2,k1.2.1.1,k1.2.2,k4⟩
 ·refine .inr ⟨b,es,clock,h0,h1,?_,h3⟩
  rcases h2 with h2|h2
  ·exact .inl (Nat.le_trans hw h2)
  ·exact hx b h2
structure eE (R:Rg) (β:cM) (G:bE) (s:St) (a:Act) (w:World):Prop where
 defers:qR R.w0.heap.size G a.defers
 size:a.tmps.size=s.fr.length
 fr:∀ (i:Nat) x y,s.fr[i]?=some x→a.tmps[i]?=some y→Conc G β x y
 hp:c9 R β G s.hp w
theorem eE.eval {R:Rg} {β:cM} {G:bE} {s:St} {a:Act} {w:World} (h:eE R β G s a w) (x:Operand):Conc G β (s.eval x) (a.eval x):=by
 cases x with
 |tmp t=>
  simp only [St.eval,Act.eval]
  by_cases ht:t < s.fr.length
  ·have h1:s.fr[t]?=some s.fr[t]:=List.getElem?_eq_getElem ht
   have h2:a.tmps[t]?=some (a.tmps[t]'(by rw [h.size];exact ht)):=Array.getElem?_eq_getElem (by rw [h.size];exact ht)
   have:=h.fr t _ _ h1 h2
   simp only [List.getD_eq_getElem?_getD,h1,Option.getD_some,Array.getD_eq_getD_getElem?,h2]
   exact this
  ·simp only [List.getD_eq_getElem?_getD,List.getElem?_eq_none (Nat.le_of_not_lt ht),Option.getD_none]
   exact .any
 |const x=>
  simp only [St.eval,Act.eval]
  cases x<;>simp only [AV.dA]<;>try exact .v
  case agg cs=>
   have:=Conc.agg (G:=G) (β:=β) (cs:=cs.toList.map AV.v) cs.toList ax (by
    intro j x y hx hy
    simp only [List.getElem?_map,hy,Option.map_some,Option.some.injEq] at hx
    subst hx;exact .v)
   simpa using this
 |global g=>exact .any
 |func f=>
  simp only [St.eval,Act.eval,O1]
  split
  ·rename_i hf
   have:=Conc.fn (G:=G) (β:=β) (f:=f) (cs:=[]) [] hf rfl ax
   simpa using this
  ·exact .any
theorem eE.put {R:Rg} {β:cM} {G:bE} {s:St} {a:Act} {w:World} (h:eE R β G s a w) (d:Option Nat) {x:AV} {y:Value} (hx:Conc G β x y) :
  eE R β G (s.put d x) (a.put d y) w:=by
 cases d with
 |none=>exact h
 |some d=>
  refine ⟨h.defers,by simp [St.put,Act.put,h.size],?_,h.hp⟩
  intro i x' y' hi hj
  simp only [St.put,Act.put] at hi hj
  rw [List.getElem?_set] at hi
  rw [Array.getElem?_setIfInBounds] at hj
  by_cases hdi:d=i
  ·subst hdi
   simp only [if_true] at hi hj
   split at hi<;>simp at hi
   split at hj<;>simp at hj
   subst hi;subst hj;exact hx
  ·simp only [hdi,if_false] at hi hj
   exact h.fr i x' y' hi hj
end Go.Ab
namespace Go.Ab
open Go.RowKit
variable {P:Program}
class cJ (P:Program) (t:TypeId) (d:outParam TypeDesc):Prop where
 ok:P.underlying t=some d
class dm (P:Program) (t:TypeId) (z:outParam Value) (size bytes:outParam Nat):Prop where
 ok:∃ i,P.info? t=some i∧i.zero=some z∧i.size=size∧i.bytes=bytes
def kc:TypeDesc→Bool
 | .struct _| .array _ _=>true
 |_=>false
theorem c8 {t:TypeId} {d:TypeDesc} (h:P.underlying t=some d) (w:World):(isAgg t).run P w= .ok (kc d) w:=by
 unfold isAgg
 rw [Sem.run_bind,run_underlying h w]
 cases d<;>simp [kc]
theorem dV {t:TypeId} {z:Value} {n b:Nat} (h:dm P t z n b) (w:World):(sizeOf t).run P w= .ok n w:=by
 obtain ⟨i,hi,_,hs,_⟩:=h.ok
 simp [sizeOf,typeInfo,hi,hs]
theorem nt {t:TypeId} {z:Value} {n b:Nat} (h:dm P t z n b) (w:World):(zeroValue t).run P w= .ok z w:=by
 obtain ⟨i,hi,hz,_,_⟩:=h.ok
 simp [zeroValue,typeInfo,hi,hz]
def RK (R:Rg) (K:St→Prop) (a:Act) (w:World):Prop:=∃ β G s,K s∧eE R β G s a w
def eR (P:Program) (o:Oper) (s:St) (K:St→Prop):Prop:=
 ∀ R β G a w Q,eE R β G s a w→o.wp P a w (RK R K) Q
def ef (P:Program) (all:Array Oper) (rest:List Oper) (s:St) (K:St→Prop):Prop:=
 ∀ R β G a w (Q:Exit→Act→World→Prop),(∀ a w,RK R K a w→Q .normal a w)→eE R β G s a w→wpList P all Q rest a w
theorem jQ {all:Array Oper} {s:St} {K:St→Prop} (h:K s):ef P all [] s K:=
 fun _ β G a w _ hQ hr=>hQ a w ⟨β,G,s,h,hr⟩
theorem A7 {all:Array Oper} {o:Oper} {rest:List Oper} {s:St} {K:St→Prop} (hg:o.guard=none)
  (h:eR P o s fun s'=>ef P all rest s' K):ef P all (o::rest) s K:=by
 intro R β G a w Q hQ hr
 refine wpList_plain hg fun K' hK'=>?_
 exact Oper.wp_mono (fun a' w' ⟨β',G',s',hs,hr'⟩=>hK' _ _ (hs R β' G' a' w' Q hQ hr')) (h R β G a w Q hr)
theorem cp {all:Array Oper} {o:Oper} {rest:List Oper} {s:St} {K:St→Prop} (hg:o.guard=none)
  (h:∀ K':St→Prop,(∀ s',ef P all rest s' K→K' s')→eR P o s K'):ef P all (o::rest) s K:=
 A7 hg (h _ fun _ h=>h)
theorem eR.IH {d:Option Tmp} {op:Op} {ty:TypeId} {pos:String} {bC:Array Edge} {g g':Option (Nat×Bool)} {s:St} {K:St→Prop}
  (h:eR P ⟨d,op,ty,pos,bC,g⟩ s K):eR P ⟨d,op,ty,pos,bC,g'⟩ s K:=fun R β G a w Q hr=>h R β G a w Q hr
theorem il {G:bE} {β:cM} {b:Bool} {y:Value} (h:Conc G β (.bool b) y):y= .bool b:=by cases h;rfl
theorem cX {G:bE} {β:cM} {n:Int} {y:Value} (h:Conc G β (.int n) y):y= .int .i64 n:=by cases h;rfl
theorem eF {G:bE} {β:cM} {x y:Value} (h:Conc G β (.v x) y):y=x:=by cases h;rfl
theorem uq {all:Array Oper} {o:Oper} {rest:List Oper} {s:St} {K:St→Prop} {j t:Nat} {b c:Bool}
  (hg:o.guard=some (j,b)) (ht:(all[j]?).bind (·.dst)=some t) (hc:s.fr[t]?=some (.bool c))
  (hy:c=b→∀ K':St→Prop,(∀ s',ef P all rest s' K→K' s')→eR P o s K')
  (hn:c≠b→ef P all rest (s.put o.dst (.v undef)) K):ef P all (o::rest) s K:=by
 intro R β G a w Q hQ hr
 have hlt:t < a.tmps.size:=by
  rw [hr.size]
  rcases Nat.lt_or_ge t s.fr.length with h|h
  ·exact h
  ·rw [List.getElem?_eq_none h] at hc;cases hc
 have hb:=il (hr.fr t _ _ hc (Array.getElem?_eq_getElem hlt))
 have hyd:yielded all a.tmps j=some c:=by
  unfold yielded
  rw [ht]
  simp [Array.getElem?_eq_getElem hlt,hb]
 refine wpList_step fun K' hK'=>?_
 by_cases hcb:c=b
 ·have hw:Region.wanted o (yielded all a.tmps)=true:=by simp [Region.wanted,hg,hyd,hcb]
  rw [if_pos hw]
  exact Oper.wp_mono (fun a' w' ⟨β',G',s',hs,hr'⟩=>hK' _ _ (hs R β' G' a' w' Q hQ hr')) (hy hcb _ (fun _ h=>h) R β G a w Q hr)
 ·have hw:¬Region.wanted o (yielded all a.tmps)=true:=by simp [Region.wanted,hg,hyd,hcb]
  rw [if_neg hw]
  exact hK' _ _ (hn hcb R β G _ w Q hQ (hr.put o.dst .v))
theorem xw {all:Array Oper} {o:Oper} {rest:List Oper} {s:St} {K:St→Prop} {j t:Nat} {b:Bool}
  (hg:o.guard=some (j,b)) (ht:(all[j]?).bind (·.dst)=some t) (hc:s.fr[t]?=some (.v undef))
  (hn:ef P all rest (s.put o.dst (.v undef)) K):ef P all (o::rest) s K:=by
 intro R β G a w Q hQ hr
 have hlt:t < a.tmps.size:=by
  rw [hr.size]
  rcases Nat.lt_or_ge t s.fr.length with h|h
  ·exact h
  ·rw [List.getElem?_eq_none h] at hc;cases hc
 have hb:=eF (hr.fr t _ _ hc (Array.getElem?_eq_getElem hlt))
 have hyd:yielded all a.tmps j=none:=by
  unfold yielded
  rw [ht]
  simp [Array.getElem?_eq_getElem hlt,hb,undef]
 refine wpList_step fun K' hK'=>?_
 have hw:¬Region.wanted o (yielded all a.tmps)=true:=by simp [Region.wanted,hg,hyd]
 rw [if_neg hw]
 exact hK' _ _ (hn R β G _ w Q hQ (hr.put o.dst .v))
abbrev Ext (w w':World):Prop:=Below w.heap.size w w'
def PV (P:Program) (op:Op) (s:St) (x:AV):Prop:=
 ∀ R β G a w,eE R β G s a w→∃ y,Conc G β x y∧∀ w' d ty pos bC g,Ext w w'→(execOp a.eval ⟨d,op,ty,pos,bC,g⟩).run P w'= .ok (.value y) w'
theorem bK {d:Option Tmp} {op:Op} {ty:TypeId} {pos:String} {bC:Array Edge} {g:Option (Nat×Bool)} {s:St} {x:AV} {K:St→Prop}
  (h:PV P op s x) (hk:K (s.put d x)):eR P ⟨d,op,ty,pos,bC,g⟩ s K:=by
 intro R β G a w Q hr
 obtain ⟨y,hy,hrun⟩:=h R β G a w hr
 unfold Oper.wp
 rw [hrun w d ty pos bC g (Below.refl _ _),Oper.upon_value]
 exact ⟨β,G,_,hk,hr.put d hy⟩
theorem dv {op:Op} {s:St} {x:AV}
  (h:∀ R β G a w,eE R β G s a w→∃ y,Conc G β x y∧∀ w' d ty pos bC g,(execOp a.eval ⟨d,op,ty,pos,bC,g⟩).run P w'= .ok (.value y) w'):PV P op s x:=
 fun R β G a w hr=>let ⟨y,hy,hrun⟩:=h R β G a w hr;⟨y,hy,fun w' d ty pos bC g _=>hrun w' d ty pos bC g⟩
theorem cR {s:St} {x:Operand}:PV P (.move x) s (s.eval x):=
 dv fun _ _ _ _ _ hr=>⟨_,hr.eval x,fun _ _ _ _ _ _=>rfl⟩
theorem cU {s:St} {x:Operand}:PV P (.assign x) s (s.eval x):=
 dv fun _ _ _ _ _ hr=>⟨_,hr.eval x,fun _ _ _ _ _ _=>rfl⟩
theorem Ci {s:St} {c x y:Operand} {b:Bool} (hc:s.eval c= .bool b):PV P (.pick c x y) s (if b then s.eval x else s.eval y):=
 dv fun _ _ _ a _ hr=>by
  have h:=hr.eval c
  rw [hc] at h
  have h:=il h
  cases b
  ·exact ⟨_,hr.eval y,fun _ _ _ _ _ _=>by simp [execOp,h,asBool]⟩
  ·exact ⟨_,hr.eval x,fun _ _ _ _ _ _=>by simp [execOp,h,asBool]⟩
theorem Fl {s:St} {c x y:Operand} {b p q:Bool} (hc:s.eval c= .bool b) (hx:s.eval x= .bool p) (hy:s.eval y= .bool q) :
  PV P (.pick c x y) s (.bool (if b then p else q)):=by
 have h:=Ci (P:=P) (x:=x) (y:=y) hc
 rw [hx,hy] at h
 cases b<;>exact h
section ints
variable {s:St} {x y:Operand} {n m:Int} {t u:TypeId}
theorem oO {n:Int} (h1:-9223372036854775808≤n) (h2:n≤9223372036854775807):IntKind.i64.wrap n=n:=by
 rw [IntKind.wrap_i64];omega
theorem sf {op:BinOp} {r:Value} (hx:s.eval x= .int n) (hy:s.eval y= .int m) (he:op≠.eql∧op≠.neq)
  (hr:∀ w,(binOp op t (.int .i64 n) (.int .i64 m)).run P w= .ok r w):PV P (.binOp op t x y u) s (.v r):=
 dv fun _ _ _ a _ h=>⟨r,.v,fun w' _ _ _ _ _=>by
  have h1:=h.eval x;rw [hx] at h1
  have h2:=h.eval y;rw [hy] at h2
  have hg:(eqGuard op t x y (a.eval x) (a.eval y)).run P w'= .ok () w':=by
   unfold eqGuard
   cases op<;>first|(exact absurd rfl he.1)|(exact absurd rfl he.2)|simp
  simp only [execOp,Sem.run_bind,hg,Result.andThen_ok]
  rw [cX h1,cX h2,hr w']
  simp⟩
theorem La (hx:s.eval x= .int n) (hy:s.eval y= .int m) (h1:-9223372036854775808≤n+m) (h2:n+m≤9223372036854775807) :
  PV P (.binOp .add t x y u) s (.int (n+m)):=sf hx hy ax fun w=>by simp [binOp,Op.intArith,oO h1 h2]
theorem Lb (hx:s.eval x= .int n) (hy:s.eval y= .int m) (h1:-9223372036854775808≤n - m) (h2:n - m≤9223372036854775807) :
  PV P (.binOp .sub t x y u) s (.int (n - m)):=sf hx hy ax fun w=>by simp [binOp,Op.intArith,oO h1 h2]
theorem Lc (hx:s.eval x= .int n) (hy:s.eval y= .int m) (h1:-9223372036854775808≤n * m) (h2:n * m≤9223372036854775807) :
  PV P (.binOp .mul t x y u) s (.int (n * m)):=sf hx hy ax fun w=>by simp [binOp,Op.intArith,oO h1 h2]
theorem Lq (hx:s.eval x= .int n) (hy:s.eval y= .int m):PV P (.binOp .gtr t x y u) s (.bool (decide (m < n))):=
 sf hx hy ax fun w=>by simp [binOp,Op.intCmp]
theorem nQ (op:BinOp) (k k':IntKind) (w:World):(eqGuard op t x y (.int k n) (.int k' m)).run P w= .ok () w:=by
 unfold eqGuard;cases op<;>simp
theorem A8 (hx:s.eval x= .int n) (hy:s.eval y= .int m):PV P (.binOp .eql t x y u) s (.bool (n == m)):=
 dv fun _ _ _ a _ h=>⟨_,.v,fun w' _ _ _ _ _=>by
  have h1:=h.eval x;rw [hx] at h1
  have h2:=h.eval y;rw [hy] at h2
  simp only [execOp]
  rw [cX h1,cX h2]
  simp only [Sem.run_bind,nQ,Result.andThen_ok]
  simp [binOp,Op.intCmp]⟩
end ints
theorem pP {s:St} {x:Operand} {b:Bool} {t:TypeId} (hx:s.eval x= .bool b):PV P (.unOp .not t x) s (.bool (!b)):=
 dv fun _ _ _ a _ h=>⟨_,.v,fun w' _ _ _ _ _=>by
  have h1:=h.eval x;rw [hx] at h1
  simp [execOp,il h1,Op.unary]⟩
theorem Ld {s:St} {x:Operand} {n:Int} {t:TypeId} (hx:s.eval x= .int n) (h1:-9223372036854775808≤-n) (h2:-n≤9223372036854775807):PV P (.unOp .neg t x) s (.int (-n)):=
 dv fun _ _ _ a _ h=>⟨_,.v,fun w' _ _ _ _ _=>by
  have h3:=h.eval x;rw [hx] at h3
  have:IntKind.i64.wrap (0 - n)= -n:=by rw [oO aj aj];omega
  simp [execOp,cX h3,Op.unary,Op.intArith] at *
  first|exact this|(rw [this])⟩
theorem AX {s:St} {x:Operand} {cs:List AV} {i:Nat} {c:AV} (hx:s.eval x= .dr cs) (hc:cs[i]?=some c):PV P (.extract x i) s c:=
 dv fun _ _ _ a _ h=>by
  have h1:=h.eval x;rw [hx] at h1
  generalize he:a.eval x=y at h1
  cases h1 with
  |dr xs hl hs=>
   have hi:i < xs.length:=by
    rw [← hl]
    rcases Nat.lt_or_ge i cs.length with h|h
    ·exact h
    ·rw [List.getElem?_eq_none h] at hc;cases hc
   refine ⟨xs[i],hs i _ _ hc (List.getElem?_eq_getElem hi),fun w' _ _ _ _ _=>?_⟩
   simp [execOp,he,Instr.extract,hi]
theorem eP {t:TypeId} {d:TypeDesc} (h:cJ P t d) (w:World):(underlying t).run P w= .ok d w:=run_underlying h.ok w
theorem Lf {s:St} {x:Operand} {t e:TypeId} {sz bw:Nat} {es:List AV} [hu:cJ P t (.slice e)] (hx:s.eval x= .cr sz bw es) :
  PV P (.call {callee:=.builtin .len,args:=#[x],argTypes:=#[t]}) s (.int es.length):=
 dv fun _ _ _ a _ h=>by
  have h1:=h.eval x;rw [hx] at h1
  generalize he:a.eval x=y at h1
  cases h1 with
  |cr ys _ _ _ _ _ _ _=>
   refine ⟨_,.v,fun w' _ _ _ _ _=>?_⟩
   simp [execOp,resolve,invoke,builtin,he,Builtin.len_,eP hu,goInt]
theorem ID {s:St} {x:Operand} {t e:TypeId} {sz bw id off n:Nat} [hu:cJ P t (.slice e)] (hx:s.eval x= .sl sz bw id off n) :
  PV P (.call {callee:=.builtin .len,args:=#[x],argTypes:=#[t]}) s (.int n):=
 dv fun _ _ _ a _ h=>by
  have h1:=h.eval x;rw [hx] at h1
  generalize he:a.eval x=y at h1
  cases h1<;>exact ⟨_,.v,fun w' _ _ _ _ _=>by simp [execOp,resolve,invoke,builtin,he,Builtin.len_,eP hu,goInt]⟩
theorem IE {s:St} {x:Operand} {t e:TypeId} {A:Option Addr} {n c:Nat} [hu:cJ P t (.slice e)] (hx:s.eval x= .v (.slice A n c)) :
  PV P (.call {callee:=.builtin .len,args:=#[x],argTypes:=#[t]}) s (.int n):=
 dv fun _ _ _ a _ h=>by
  have h1:=h.eval x;rw [hx] at h1
  exact ⟨_,.v,fun w' _ _ _ _ _=>by simp [execOp,resolve,invoke,builtin,eF h1,Builtin.len_,eP hu,goInt]⟩
theorem Addr.eV (b o n:Nat):(⟨b,o,none⟩:Addr).add n=⟨b,o+n,none⟩:=by unfold Addr.add;split<;>simp_all
theorem nu (a:Addr) (i j:Nat):(a.add i).add j=a.add (i+j):=by
 unfold Addr.add
 by_cases hi:i=0<;>by_cases hj:j=0<;>simp [hi,hj,Nat.add_assoc]
theorem n5 {G:bE} {β:cM} {cs:List AV} {ad:Addr} (h:Conc G β (.bx cs) (.pointer (some ad))) (k:Nat):Conc G β (.bx (cs.drop k)) (.pointer (some (ad.add k))):=by
 cases h with
 |bx ys hl hr hs=>
  refine .bx (ys.drop k) (by simp [hl]) (fun j y hy=>?_) (fun j x y hx hy=>?_)
  ·rw [nu];exact hr _ _ (by simpa [List.getElem?_drop] using hy)
  ·exact hs (k+j) x y (by simpa [List.getElem?_drop] using hx) (by simpa [List.getElem?_drop] using hy)
end Go.Ab
namespace Go.Ab
open Go.RowKit
variable {P:Program}
theorem flat_get {sz:Nat}:∀ {es:List AV},(∀ e∈es,e.cells.length=sz)→∀ {k j:Nat} {e:AV},es[k]?=some e→j < sz→(es.flatMap AV.cells)[k * sz+j]?=e.cells[j]?
 |[],_,k,_,_,h,_=>by simp at h
 |x::es,hu,0,j,e,h,hj=>by
  simp at h;subst h
  have:=hu x ax
  simp only [Nat.zero_mul,Nat.zero_add,List.flatMap_cons]
  rw [List.getElem?_append_left aj]
 |x::es,hu,k+1,j,e,h,hj=>by
  have h1:=hu x ax
  have h2:es[k]?=some e:=by simpa using h
  have ih:=flat_get (es:=es) (fun e he=>hu e (by simp [he])) h2 hj
  simp only [List.flatMap_cons]
  rw [List.getElem?_append_right (by rw [h1,Nat.add_mul];omega),h1]
  rw [← ih];congr 1;rw [Nat.add_mul];omega
theorem jb {sz:Nat}:∀ {es:List AV},(∀ e∈es,e.cells.length=sz)→(es.flatMap AV.cells).length=es.length * sz
 |[],_=>by simp
 |x::es,hu=>by
  have ih:=jb (es:=es) (fun e he=>hu e (by simp [he]))
  simp only [List.flatMap_cons,List.length_append,ih,hu x ax,List.length_cons,Nat.add_mul];omega
theorem bS {α:Type} {l:List α} {k:Nat} {e:α} (h:l[k]?=some e):k < l.length:=by
 rcases Nat.lt_or_ge k l.length with h'|h'
 ·exact h'
 ·rw [List.getElem?_eq_none h'] at h;cases h
theorem DO {G:bE} {β:cM} {sz bw:Nat} {es:List AV} {A:Option Addr} {c k:Nat} {e:AV} (h:Conc G β (.cr sz bw es) (.slice A es.length c)) (hk:es[k]?=some e) :
  ∃ a,A=some a∧Conc G β (.bx e.cells) (.pointer (some (a.add (k * sz)))):=by
 have hlt:=bS hk
 generalize hy:Value.slice A es.length c=y at h
 cases h with
 |@cr _ _ _ _ A' c' ys hu hl hc hb hA hr hs=>
  injection hy with h1 h2 h3
  subst h1
  obtain ⟨a,rfl⟩:∃ a,A=some a:=by
   cases A with
   |none=>exact absurd rfl (hA aj)
   |some a=>exact ⟨a,rfl⟩
  refine ⟨a,rfl,?_⟩
  have hek:=hu e (List.mem_of_getElem? hk)
  have hle:(k+1) * sz≤es.length * sz:=Nat.mul_le_mul_right _ hlt
  rw [Nat.add_mul] at hle
  refine .bx ((ys.drop (k * sz)).take sz) (by simp [hek,hl];omega) (fun j y hj=>?_) (fun j x y hx hj=>?_)
  ·have hjs:j < sz:=by have:=bS hj;simp at this;omega
   have hj':ys[k * sz+j]?=some y:=by simpa [List.getElem?_take,hjs,List.getElem?_drop] using hj
   obtain ⟨a',ha,hg⟩:=hr _ _ hj'
   injection ha with ha;subst ha
   rw [nu];exact hg
  ·have hjs:j < sz:=by have:=bS hx;omega
   have hj':ys[k * sz+j]?=some y:=by simpa [List.getElem?_take,hjs,List.getElem?_drop] using hj
   exact hs _ x y (by rw [flat_get hu hk hjs];exact hx) hj'
theorem sQ {t e:TypeId} {z:Value} {sz b:Nat} (hu:cJ P t (.slice e)) (hi:dm P e z sz b) (a:Addr) (len cap:Nat) (n:Int) (h0:0≤n) (h1:n.toNat < len) (w:World) :
  (Instr.indexAt t (.slice (some a) len cap) (.int .i64 n)).run P w= .ok (.pointer (some (a.add (n.toNat * sz)))) w:=by
 have hlt:n < (len:Int):=by omega
 simp [Instr.indexAt,asIntOf,eP hu,dV hi,h0,hlt]
theorem qJ {s:St} {x i:Operand} {t el:TypeId} {sz bw b:Nat} {es:List AV} {n:Int} {e:AV} {z:Value} [hu:cJ P t (.slice el)] [hi:dm P el z sz b]
  (hx:s.eval x= .cr sz bw es) (hn:s.eval i= .int n) (h0:0≤n) (he:es[n.toNat]?=some e):PV P (.indexAddr t x i) s (.bx e.cells):=
 dv fun _ _ _ a _ h=>by
  have h1:=h.eval x;rw [hx] at h1
  have h2:=h.eval i;rw [hn] at h2
  generalize hy:a.eval x=y at h1
  obtain ⟨A,c,rfl⟩:∃ A c,y= .slice A es.length c:=by cases h1;exact ⟨_,_,rfl⟩
  obtain ⟨ad,rfl,hc⟩:=DO h1 he
  exact ⟨_,hc,fun w' _ _ _ _ _=>by
   simp [execOp,hy,cX h2,sQ hu hi ad _ _ n h0 (bS he)]⟩
theorem py {α:Type} {s:St} {x i:Operand} {t el:TypeId} {sz bw b:Nat} {xs:List α} {f:α→AV} {n:Int} {z:Value} [hu:cJ P t (.slice el)] [hi:dm P el z sz b]
  (hx:s.eval x= .cr sz bw (xs.map f)) (hn:s.eval i= .int n) (h0:0≤n) (h1:n.toNat < xs.length):PV P (.indexAddr t x i) s (.bx (f xs[n.toNat]).cells):=
 qJ hx hn h0 (by simp [h1])
theorem vU {s:St} {x i:Operand} {t el:TypeId} {sz bw b id off len:Nat} {n:Int} {z:Value} [hu:cJ P t (.slice el)] [hi:dm P el z sz b]
  (hx:s.eval x= .sl sz bw id off len) (hn:s.eval i= .int n) (h0:0≤n) (h1:n.toNat < len):PV P (.indexAddr t x i) s (.ptr id (off+n.toNat * sz)):=
 dv fun _ _ _ a _ h=>by
  have h3:=h.eval x;rw [hx] at h3
  have h2:=h.eval i;rw [hn] at h2
  generalize hy:a.eval x=y at h3
  cases h3 with
  |j5 _=>omega
  |sl hb hc ht hm hbw=>
   exact ⟨_,.ptr hb,fun w' _ _ _ _ _=>by simp [execOp,hy,cX h2,sQ hu hi _ _ _ n h0 h1,Addr.eV]⟩
theorem qS {t e:TypeId} {z:Value} {sz b N:Nat} (hu:cJ P t (.array N e)) (hi:dm P e z sz b) (a:Addr) (n:Int) (h0:0≤n) (h1:n.toNat < N) (w:World) :
  (Instr.indexAt t (.pointer (some a)) (.int .i64 n)).run P w= .ok (.pointer (some (a.add (n.toNat * sz)))) w:=by
 have hlt:n < (N:Int):=by omega
 simp [Instr.indexAt,asIntOf,eP hu,dV hi,h0,hlt,Instr.sureAddr]
theorem vV {s:St} {x i:Operand} {t el:TypeId} {sz b id off N:Nat} {n:Int} {z:Value} [hu:cJ P t (.array N el)] [hi:dm P el z sz b]
  (hx:s.eval x= .ptr id off) (hn:s.eval i= .int n) (h0:0≤n) (h1:n.toNat < N):PV P (.indexAddr t x i) s (.ptr id (off+n.toNat * sz)):=
 dv fun _ _ _ a _ h=>by
  have h3:=h.eval x;rw [hx] at h3
  have h2:=h.eval i;rw [hn] at h2
  generalize hy:a.eval x=y at h3
  cases h3 with
  |ptr hb=>exact ⟨_,.ptr hb,fun w' _ _ _ _ _=>by simp [execOp,hy,cX h2,qS hu hi _ n h0 h1,Addr.eV]⟩
theorem um {s:St} {x i:Operand} {t el:TypeId} {sz b N:Nat} {n:Int} {z:Value} {cs:List AV} [hu:cJ P t (.array N el)] [hi:dm P el z sz b]
  (hx:s.eval x= .bx cs) (hn:s.eval i= .int n) (h0:0≤n) (h1:n.toNat < N):PV P (.indexAddr t x i) s (.bx (cs.drop (n.toNat * sz))):=
 dv fun _ _ _ a _ h=>by
  have h3:=h.eval x;rw [hx] at h3
  have h2:=h.eval i;rw [hn] at h2
  generalize hy:a.eval x=y at h3
  cases h3 with
  |bx ys hl hr hs=>exact ⟨_,n5 (.bx ys hl hr hs) _,fun w' _ _ _ _ _=>by simp [execOp,hy,cX h2,qS hu hi _ n h0 h1]⟩
theorem lX {R:Rg} {β:cM} {G:bE} {hp:Hp} {w w':World} (h:c9 R β G hp w) (he:Ext w w') {a:Addr} {y:Value} (hg:dO G a=some y):w'.cell? a=some y:=by
 unfold dO at hg
 cases hG:G a.block with
 |none=>rw [hG] at hg;cases hg
 |some o=>
  rw [hG] at hg
  have h1:=h.gs _ _ hG
  have hlt:a.block < w.heap.size:=by
   rcases Nat.lt_or_ge a.block w.heap.size with h'|h'
   ·exact h'
   ·rw [Array.getElem?_eq_none h'] at h1;cases h1
  have h2:=he.block _ hlt
  unfold World.cell?
  rw [h2,h1]
  exact hg
theorem qT {t:TypeId} {d:TypeDesc} (hu:cJ P t d) (hd:kc d=false) {ad:Addr} {y:Value} {w:World} (hc:w.cell? ad=some y):(loadVar t ad).run P w= .ok y w:=by
 simp [loadVar,c8 hu.ok,hd,hc]
theorem qU {t:TypeId} {d:TypeDesc} {z:Value} {b:Nat} (hu:cJ P t d) (hd:kc d=true) {ad:Addr} (ys:List Value) (hi:dm P t z ys.length b) {w:World}
  (hc:∀ j y,ys[j]?=some y→w.cell? (ad.add j)=some y):(loadVar t ad).run P w= .ok (.agg ys.toArray) w:=by
 simp [loadVar,c8 hu.ok,hd,dV hi,run_loadCells_list w ad ys hc]
theorem qI {s:St} {x:Operand} {t:TypeId} {d:TypeDesc} {cs:List AV} {c:AV} [hu:cJ P t d] (hx:s.eval x= .bx cs) (hd:kc d=false) (hc:cs[0]?=some c):PV P (.load t x) s c:=
 fun R β G a w h=>by
  have h3:=h.eval x;rw [hx] at h3
  generalize hy:a.eval x=y at h3
  cases h3 with
  |@bx _ _ ad ys hl hr hs=>
   have hlt:0 < ys.length:=by rw [hl];exact bS hc
   have h0:ys[0]?=some ys[0]:=List.getElem?_eq_getElem hlt
   refine ⟨ys[0],(hs 0 _ _ hc h0).free β,fun w' _ _ _ _ _ he=>?_⟩
   have hcell:=lX h.hp he (hr 0 _ h0)
   have hz:ad.add 0=ad:=by simp [Addr.add]
   rw [hz] at hcell
   simp [execOp,hy,Instr.loadAt,Instr.sureAddr,qT hu hd hcell]
theorem oS {s:St} {x:Operand} {t:TypeId} {d:TypeDesc} {cs:List AV} {z:Value} {n b:Nat} [hu:cJ P t d] [hi:dm P t z n b] (hx:s.eval x= .bx cs) (hd:kc d=true) (hn:n≤cs.length) :
  PV P (.load t x) s (.agg (cs.take n)):=
 fun R β G a w h=>by
  have h3:=h.eval x;rw [hx] at h3
  generalize hy:a.eval x=y at h3
  cases h3 with
  |@bx _ _ ad ys hl hr hs=>
   have hlen:(ys.take n).length=n:=by simp;omega
   refine ⟨.agg (ys.take n).toArray,.agg (ys.take n) aE (fun j x y hx hy=>?_),fun w' _ _ _ _ _ he=>?_⟩
   ·have hj:j < n:=by have:=bS hx;simp at this;omega
    simp only [List.getElem?_take,hj,if_true] at hx hy
    exact (hs j x y hx hy).free β
   ·have hi':dm P t z (ys.take n).length b:=by rw [hlen];exact hi
    have:=qU hu hd (ad:=ad) (ys.take n) hi' (w:=w') (fun j y hj=>by
     have hjn:j < n:=by have:=bS hj;simp at this;omega
     simp only [List.getElem?_take,hjn,if_true] at hj
     exact lX h.hp he (hr j y hj))
    simp only [execOp,hy,Instr.loadAt,Instr.sureAddr,Sem.run_bind,Sem.run_pure,Result.andThen_ok,this]
theorem c9.block {R:Rg} {β:cM} {G:bE} {hp:Hp} {w:World} (h:c9 R β G hp w) {id b t:Nat} {bk:fZ} (hb:aW hp id=some bk) (hβ:β id= .at b t) :
  G b=none∧(R.w0.heap.size≤b∨R.ex b)∧∃ arr:Array Value,w.heap[b]?=some (.cells arr bk.T (0,0))∧arr.size=t∧bk.cs.length≤t∧
   (bk.full=true→bk.cs.length=t)∧∀ (j:Nat) x y,bk.cs[j]?=some x→arr[j]?=some y→Conc G β x y:=by
 have:=h.blk id bk hb
 unfold bW at this
 rw [hβ] at this
 exact this
theorem cN {w:World} {b:Nat} {o:Obj} (h:w.heap[b]?=some o):b < w.heap.size:=by
 rcases Nat.lt_or_ge b w.heap.size with h'|h'
 ·exact h'
 ·rw [Array.getElem?_eq_none h'] at h;cases h
theorem sR {w w':World} {b:Nat} {arr:Array Value} {T:TypeId} {f:Nat×Nat} (h:w.heap[b]?=some (.cells arr T f)) (he:Ext w w') (j:Nat):w'.cell? ⟨b,j,none⟩=arr[j]?:=by
 have h2:=he.block b (cN h)
 simp [World.cell?,h2,h]
theorem bF {s:St} {x:Operand} {t:TypeId} {d:TypeDesc} {id off:Nat} {bk:fZ} {c:AV} [hu:cJ P t d] (hx:s.eval x= .ptr id off) (hd:kc d=false) (hb:aW s.hp id=some bk) (hc:bk.cs[off]?=some c) :
  PV P (.load t x) s c:=
 fun R β G a w h=>by
  have h3:=h.eval x;rw [hx] at h3
  generalize hy:a.eval x=y at h3
  cases h3 with
  |ptr hβ=>
   obtain ⟨_,_,arr,harr,hsz,hle,_,hcs⟩:=h.hp.block hb hβ
   have hlt:off < arr.size:=by have:=bS hc;omega
   have h0:arr[off]?=some arr[off]:=Array.getElem?_eq_getElem hlt
   refine ⟨arr[off],hcs off _ _ hc h0,fun w' _ _ _ _ _ he=>?_⟩
   simp [execOp,hy,Instr.loadAt,Instr.sureAddr,qT hu hd ((sR harr he off).trans h0)]
theorem br {s:St} {x:Operand} {t:TypeId} {d:TypeDesc} {id off:Nat} {bk:fZ} {z:Value} {n b:Nat} [hu:cJ P t d] [hi:dm P t z n b] (hx:s.eval x= .ptr id off) (hd:kc d=true)
  (hb:aW s.hp id=some bk) (hc:off+n≤bk.cs.length):PV P (.load t x) s (.agg ((bk.cs.drop off).take n)):=
 fun R β G a w h=>by
  have h3:=h.eval x;rw [hx] at h3
  generalize hy:a.eval x=y at h3
  cases h3 with
  |@ptr _ _ _ bb _ hβ=>
   obtain ⟨_,_,arr,harr,hsz,hle,_,hcs⟩:=h.hp.block hb hβ
   have hlen:((arr.toList.drop off).take n).length=n:=by simp;omega
   refine ⟨.agg ((arr.toList.drop off).take n).toArray,.agg _ aE (fun j x y hx hy=>?_),fun w' _ _ _ _ _ he=>?_⟩
   ·have hj:j < n:=by have:=bS hx;simp at this;omega
    simp only [List.getElem?_take,hj,if_true,List.getElem?_drop,Array.getElem?_toList] at hx hy
    exact hcs _ x y hx hy
   ·have hi':dm P t z ((arr.toList.drop off).take n).length b:=by rw [hlen];exact hi
    have:=qU hu hd (ad:=⟨bb,off,none⟩) ((arr.toList.drop off).take n) hi' (w:=w') (fun j y hj=>by
     have hjn:j < n:=by have:=bS hj;simp at this;omega
     simp only [List.getElem?_take,hjn,if_true,List.getElem?_drop,Array.getElem?_toList] at hj
     rw [Addr.eV,sR harr he];exact hj)
    simp only [execOp,hy,Instr.loadAt,Instr.sureAddr,Sem.run_bind,Sem.run_pure,Result.andThen_ok,this]
theorem Conc.gu {G:bE} {β:cM} {x:AV} {y:Value} (h:Conc G β x y) {id:Nat} (hf:AV.cv id x=false) (k:BK):Conc G (β.set id k) x y:=
 h.ext (fun i hm=>by unfold cM.set;rw [if_neg];rintro rfl;rw [hf] at hm;cases hm) (fun _ _ h=>h)
theorem ja {s:St} {id:Nat} (hf:s.free id=true):(∀ (i:Nat) x,s.fr[i]?=some x→AV.cv id x=false)∧aW s.hp id=none∧
  ∀ k bk (j:Nat) x,aW s.hp k=some bk→bk.cs[j]?=some x→AV.cv id x=false:=by
 simp only [St.free,Bool.and_eq_true,Bool.not_eq_true',Bool.or_eq_false_iff] at hf
 replace hf:=hf.2
 refine ⟨fun i x hx=>dC hf.1 hx,?_,?_⟩
 ·have:=hf.2
  generalize s.hp=hp at this
  induction hp with
  |nil=>rfl
  |cons p r ih=>
   obtain ⟨i,b⟩:=p
   simp [cI] at this
   simp [aW,this.1.1,ih this.2]
 ·have:=hf.2
  generalize s.hp=hp at this
  induction hp with
  |nil=>intro k bk j x h;simp [aW] at h
  |cons p r ih=>
   obtain ⟨i,b⟩:=p
   simp [cI] at this
   intro k bk j x h hx
   simp only [aW] at h
   split at h
   ·injection h with h;subst h;exact dC this.1.2 hx
   ·exact ih this.2 k bk j x h hx
theorem gg {s:St} {id:Nat} (hf:s.free id=true):id≤999999999:=by
 simp only [St.free,Bool.and_eq_true,decide_eq_true_eq] at hf
 exact hf.1
theorem fF (w:World) (o:Obj) {k:Nat} (h:k < w.heap.size):(w.alloc o).heap[k]?=w.heap[k]?:=Below.heap_alloc w o k h
theorem sP.alloc {R:Rg} {w:World} (h:sP R w) (o:Obj):sP R (w.alloc o):=
 ⟨h.os,h.tape,h.output,by have:=h.size;simp;omega,fun k hk he=>by rw [fF w o (Nat.lt_of_lt_of_le hk h.size)];exact h.block k hk he⟩
theorem eE.nY {R:Rg} {β:cM} {G:bE} {s:St} {a:Act} {w:World} (h:eE R β G s a w) {id:Nat} (hf:s.free id=true) (T:TypeId) (cs:List AV) (arr:Array Value) (full:Bool)
  (hle:cs.length≤arr.size) (hfull:full=true→cs.length=arr.size) (hcs:∀ (j:Nat) x y,cs[j]?=some x→arr[j]?=some y→Conc G β x y) (hm:AV.bz id cs=false) :
  eE R (β.set id (.at w.heap.size arr.size)) G ⟨s.fr,cK s.hp id ⟨T,cs,full⟩⟩ a (w.alloc (.cells arr T (0,0))):=by
 obtain ⟨f1,f2,f3⟩:=ja hf
 have hself:(β.set id (.at w.heap.size arr.size)) id= .at w.heap.size arr.size:=by simp [cM.set]
 have hoth:∀ i,i≠id→(β.set id (.at w.heap.size arr.size)) i=β i:=fun i hi=>by simp [cM.set,hi]
 refine ⟨h.defers,h.size,fun i x y hx hy=>(h.fr i x y hx hy).gu (f1 i x hx) _,?_⟩
 have hgs:∀ b o,G b=some o→b < w.heap.size:=fun b o hb=>cN (h.hp.gs b o hb)
 refine ⟨fun b o hb=>by rw [fF w _ (hgs b o hb)];exact h.hp.gs b o hb,fun i bk hi=>?_,fun i j b t t' hi hj hbi hbj=>?_,h.hp.keeps.alloc _,h.hp.js,h.hp.jv.set _ (gg hf),h.hp.ga.KI _ (by have:=gg hf;omega)⟩
 ·rw [cE] at hi
  unfold bW
  by_cases hid:id=i
  ·subst hid
   simp only [if_true,Option.some.injEq] at hi
   subst hi
   rw [hself]
   refine ⟨?_,.inl h.hp.keeps.size,arr,heap_alloc_new w _,rfl,hle,hfull,fun j x y hx hy=>(hcs j x y hx hy).gu (dC hm hx) _⟩
   cases hg:G w.heap.size with
   |none=>rfl
   |some o=>exact absurd (hgs _ _ hg) aj
  ·simp only [hid,if_false] at hi
   rw [hoth i (Ne.symm hid)]
   have:=h.hp.blk i bk hi
   unfold bW at this
   cases hβ:β i with
   |no=>rw [hβ] at this;exact this
   |nil=>rw [hβ] at this;exact this
   |«at» b t=>
    rw [hβ] at this
    obtain ⟨g1,g2,arr',g3,g4,g5,g6,g7⟩:=this
    exact ⟨g1,g2,arr',by rw [fF w _ (cN g3)];exact g3,g4,g5,g6,fun j x y hx hy=>(g7 j x y hx hy).gu (f3 i bk j x hi hx) _⟩
   |gh o=>
    rw [hβ] at this
    exact fv this (fun _ _ h=>h) fun x hx y hc=>by
     obtain ⟨j,hj⟩:=List.getElem?_of_mem hx
     exact hc.gu (f3 i bk j x hi hj) _
 ·have hlt:∀ i b t,i≠id→(aW (cK s.hp id ⟨T,cs,full⟩) i).isSome→(β.set id (.at w.heap.size arr.size)) i= .at b t→b < w.heap.size∧(aW s.hp i).isSome∧β i= .at b t:=by
   intro i b t hne his hbi
   rw [cE,if_neg (Ne.symm hne)] at his
   rw [hoth i hne] at hbi
   obtain ⟨bk,hbk⟩:=Option.isSome_iff_exists.1 his
   obtain ⟨_,_,arr',g3,_⟩:=h.hp.block hbk hbi
   exact ⟨cN g3,his,hbi⟩
  by_cases hi':i=id
  ·by_cases hj':j=id
   ·rw [hi',hj']
   ·subst hi'
    rw [hself] at hbi
    injection hbi with hb _
    have:=(hlt j b t' hj' hj hbj).1
    omega
  ·by_cases hj':j=id
   ·subst hj'
    rw [hself] at hbj
    injection hbj with hb _
    have:=(hlt i b t hi' hi hbi).1
    omega
   ·obtain ⟨_,a1,a2⟩:=hlt i b t hi' hi hbi
    obtain ⟨_,b1,b2⟩:=hlt j b t' hj' hj hbj
    exact h.hp.inj i j b t t' a1 b1 a2 b2
theorem im {G:bE} {β:cM} (z:Value):∀ (j:Nat) x y,(AV.dA z).cells[j]?=some x→z.cells[j]?=some y→Conc G β x y:=by
 intro j x y hx hy
 cases z<;>simp only [AV.dA,AV.cells,Value.cells] at hx hy
 case agg cs=>
  simp only [List.getElem?_map,Array.getElem?_toList,hy,Option.map_some,Option.some.injEq] at hx
  subst hx;exact .v
 all_goals
  cases j with
  |zero=>simp at hx hy;subst hx;subst hy;exact .v
  |succ j=>simp at hx
theorem sS (id:Nat) (z:Value):AV.bz id (AV.dA z).cells=false:=by
 have hl:∀ l:List Value,AV.bz id (l.map AV.v)=false:=by
  intro l;induction l with
  |nil=>rfl
  |cons x l ih=>simp [AV.bz,AV.cv,ih]
 cases z<;>simp only [AV.dA,AV.cells]<;>first|exact hl _|simp [AV.bz,AV.cv]
theorem gn (z:Value):(AV.dA z).cells.length=z.cells.size:=by
 cases z<;>simp [AV.dA,AV.cells,Value.cells]
theorem mB {d:Tmp} {t:TypeId} {z:Value} {n b:Nat} {ty:TypeId} {pos:String} {bC:Array Edge} {g:Option (Nat×Bool)} {s:St} {K:St→Prop} [hi:dm P t z n b]
  (id:Nat) (hf:s.free id=true) (hk:K ⟨s.fr.set d (.ptr id 0),cK s.hp id ⟨t,(AV.dA z).cells,true⟩⟩):eR P ⟨some d,.alloc t,ty,pos,bC,g⟩ s K:=by
 intro R β G a w Q hr
 have h1:=hr.nY hf t (AV.dA z).cells z.cells true (by rw [gn];exact Nat.le_refl _) (fun _=>gn z) (im z) (sS id z)
 have hrun:(execOp a.eval ⟨some d,.alloc t,ty,pos,bC,g⟩).run P w= .ok (.value (.pointer (some ⟨w.heap.size,0,none⟩))) (w.alloc (.cells z.cells t (0,0))):=by
  simp [execOp,Instr.alloc,nt hi,newVar,newRow]
 unfold Oper.wp
 rw [hrun,Oper.upon_value]
 exact ⟨_,_,_,hk,h1.put (some d) (.ptr (t:=z.cells.size) aG)⟩
theorem nv {G:bE} {β:cM} {x:AV} {y:Value} (h:Conc G β x y) (h1:x.one=true∨∃ cs,x= .agg cs) :
  x.cells.length=y.cells.size∧∀ (j:Nat) u v,x.cells[j]?=some u→y.cells[j]?=some v→Conc G β u v:=by
 rcases h1 with h1|⟨cs,rfl⟩
 ·have hy:=h.one h1
  have hc:x.cells=[x]:=by cases x<;>simp_all [AV.cells,AV.one]
  have hv:y.cells=#[y]:=by cases y<;>simp_all [Value.cells,Value.oneCell']
  rw [hc,hv]
  refine ⟨rfl,fun j u v hu hv=>?_⟩
  cases j with
  |zero=>simp at hu hv;subst hu;subst hv;exact h
  |succ j=>simp at hu
 ·cases h with
  |agg xs hl hs=>exact ⟨by simp [AV.cells,Value.cells,hl],fun j u v hu hv=>hs j u v hu (by simpa [Value.cells] using hv)⟩
theorem ke {d:Tmp} {t:TypeId} {x:Operand} {ty:TypeId} {pos:String} {bC:Array Edge} {g:Option (Nat×Bool)} {s:St} {K:St→Prop}
  (id:Nat) (hf:s.free id=true) (h1:(s.eval x).one=true∨∃ cs,s.eval x= .agg cs) (hm:AV.bz id (s.eval x).cells=false)
  (hk:K ⟨s.fr.set d (.ptr id 0),cK s.hp id ⟨t,(s.eval x).cells,true⟩⟩):eR P ⟨some d,.box t x,ty,pos,bC,g⟩ s K:=by
 intro R β G a w Q hr
 obtain ⟨c1,c2⟩:=nv (hr.eval x) h1
 have h2:=hr.nY hf t (s.eval x).cells (a.eval x).cells true aj (fun _=>c1) c2 hm
 have hrun:(execOp a.eval ⟨some d,.box t x,ty,pos,bC,g⟩).run P w= .ok (.value (.pointer (some ⟨w.heap.size,0,none⟩))) (w.alloc (.cells (a.eval x).cells t (0,0))):=by
  simp [execOp,Instr.box,newVar,newRow]
 unfold Oper.wp
 rw [hrun,Oper.upon_value]
 exact ⟨_,_,_,hk,h2.put (some d) (.ptr (t:=(a.eval x).cells.size) aG)⟩
end Go.Ab
namespace Go.Ab
open Go.RowKit
variable {P:Program}
theorem sP.setCell {R:Rg} {w:World} (h:sP R w) {a:Addr} (hb:R.w0.heap.size≤a.block∨R.ex a.block) (v:Value):sP R (w.setCell a v):=
 ⟨h.os,h.tape,h.output,by have:=h.size;simpa using this,fun k hk he=>by
  rw [Below.heap_setCell w a v k (by rintro rfl;rcases hb with hb|hb;omega;exact he hb)];exact h.block k hk he⟩
theorem ig {id:Nat} {cs:List AV} {j:Nat} {x:AV} (hx:cs[j]?=some x) (h:AV.cv id x=true):AV.bz id cs=true:=by
 cases hq:AV.bz id cs with
 |true=>rfl
 |false=>rw [dC hq hx] at h;cases h
theorem c9.O3 {R:Rg} {β:cM} {G:bE} {hp:Hp} {w:World} (h:c9 R β G hp w) {id b t off:Nat} {bk:fZ} {x:AV} {y:Value} (hb:aW hp id=some bk) (hβ:β id= .at b t)
  (hx:Conc G β x y):c9 R β G (cK hp id {bk with cs:=bk.cs.set off x}) (w.setCell ⟨b,off,none⟩ y):=by
 obtain ⟨g1,g2,arr,g3,g4,g5,g6,g7⟩:=h.block hb hβ
 have hne:∀ k o,G k=some o→k≠b:=fun k o hk e=>by subst e;rw [g1] at hk;cases hk
 refine ⟨fun k o hk=>by rw [Below.heap_setCell w _ y k (hne k o hk)];exact h.gs k o hk,fun i bk' hi=>?_,fun i j b t t' hi hj=>?_,h.keeps.setCell g2 y,h.js,h.jv,h.ga.cK (by rw [hb];rfl)⟩
 ·rw [cE] at hi
  by_cases hid:id=i
  ·subst hid
   simp only [if_true,Option.some.injEq] at hi
   subst hi
   unfold bW
   rw [hβ]
   refine ⟨g1,g2,arr.setIfInBounds off y,?_,by simp [g4],by simpa using g5,fun hf=>by simpa using g6 hf,fun j u v hu hv=>?_⟩
   ·simp [World.setCell,Array.getElem?_modify,g3]
   ·rw [List.getElem?_set] at hu
    rw [Array.getElem?_setIfInBounds] at hv
    by_cases hoj:off=j
    ·subst hoj
     simp only [if_true] at hu hv
     split at hu<;>simp at hu
     split at hv<;>simp at hv
     subst hu;subst hv;exact hx
    ·simp only [hoj,if_false] at hu hv
     exact g7 j u v hu hv
  ·simp only [hid,if_false] at hi
   have:=h.blk i bk' hi
   unfold bW at this ⊢
   cases hβi:β i with
   |no=>rw [hβi] at this;exact this
   |nil=>rw [hβi] at this;exact this
   |«at» b' t'=>
    rw [hβi] at this
    obtain ⟨f1,f2,arr',f3,f4⟩:=this
    have hbb:b'≠b:=fun e=>by
     subst e
     exact hid (h.inj id i b' t t' (by rw [hb];rfl) (by rw [hi];rfl) hβ hβi)
    exact ⟨f1,f2,arr',by rw [Below.heap_setCell w _ y b' hbb];exact f3,f4⟩
   |gh o=>rw [hβi] at this;exact this
 ·have key:∀ i,(aW (cK hp id {bk with cs:=bk.cs.set off x}) i).isSome→(aW hp i).isSome:=fun i hi=>by
   rw [cE] at hi
   by_cases hid:id=i
   ·subst hid;rw [hb];rfl
   ·simpa [hid] using hi
  exact h.inj i j b t t' (key i hi) (key j hj)
def fE:List AV→Nat→List AV→List AV
 |l,_,[]=>l
 |l,off,c::r=>fE (l.set off c) (off+1) r
theorem pz:∀ (l:List AV) (off:Nat) (cs:List AV),(fE l off cs).length=l.length
 |_,_,[]=>rfl
 |l,off,c::r=>by rw [fE,pz];simp
theorem DP (hp:Hp) (id:Nat) (x y:fZ):cK (cK hp id x) id y=cK hp id y:=by
 induction hp with
 |nil=>simp [cK]
 |cons p r ih=>
  obtain ⟨i,b⟩:=p
  by_cases h:i=id
  ·simp [cK,h]
  ·simp [cK,h,ih]
theorem FB (hp:Hp) (id:Nat) (bk:fZ) (h:aW hp id=some bk):cK hp id bk=hp:=by
 induction hp with
 |nil=>simp [aW] at h
 |cons p r ih=>
  obtain ⟨i,b⟩:=p
  by_cases hi:i=id
  ·simp [aW,hi] at h;subst h;simp [cK,hi]
  ·simp [aW,hi] at h;simp [cK,hi,ih h]
theorem A9 {R:Rg} {β:cM} {G:bE} {hp:Hp} {w:World} (h:c9 R β G hp w) {id b t off:Nat} {bk:fZ} {y:Value} (hb:aW hp id=some bk) (hβ:β id= .at b t)
  (ho:off < bk.cs.length) (h1:y.oneCell'=true):(store ⟨b,off,none⟩ y).run P w= .ok () (w.setCell ⟨b,off,none⟩ y):=by
 obtain ⟨g1,g2,arr,g3,g4,g5,_⟩:=h.block hb hβ
 have hlt:off < arr.size:=by omega
 have hc:w.cell? ⟨b,off,none⟩=some arr[off]:=by simp [World.cell?,g3,hlt]
 have hf:w.frozen? ⟨b,off,none⟩=false:=by simp [World.frozen?,g3]
 rw [run_store _ _ _ _ _ h1,hc]
 simp [hf]
theorem qV {R:Rg} {β:cM} {G:bE} {id b t off:Nat} (hβ:β id= .at b t):∀ (ys:List Value) (xs:List AV) (i:Nat) (hp:Hp) (bk:fZ) (w:World),c9 R β G hp w→aW hp id=some bk→
  xs.length=ys.length→off+i+ys.length≤bk.cs.length→(∀ (j:Nat) x y,xs[j]?=some x→ys[j]?=some y→Conc G β x y∧y.oneCell'=true)→
  ∃ w',(storeCells ⟨b,off,none⟩ ys i).run P w= .ok () w'∧c9 R β G (cK hp id {bk with cs:=fE bk.cs (off+i) xs}) w'
 |[],[],i,hp,bk,w,h,hb,_,_,_=>⟨w,by simp [storeCells],by simp only [fE];rw [FB hp id bk hb];exact h⟩
 |y::ys,x::xs,i,hp,bk,w,h,hb,hl,hle,hc=>by
  simp only [List.length_cons] at hl hle
  have h0:=hc 0 x y rfl rfl
  have hst:=A9 (P:=P) h hb hβ (off:=off+i) aj h0.2
  have h':=h.O3 hb hβ (off:=off+i) h0.1
  have hb':aW (cK hp id {bk with cs:=bk.cs.set (off+i) x}) id=some {bk with cs:=bk.cs.set (off+i) x}:=by rw [cE];simp
  obtain ⟨w',hrun,hrep⟩:=qV (off:=off) hβ ys xs (i+1) (cK hp id {bk with cs:=bk.cs.set (off+i) x}) {bk with cs:=bk.cs.set (off+i) x} (w.setCell ⟨b,off+i,none⟩ y) h' hb' aj aE (fun j u v hu hv=>hc (j+1) u v (by simpa using hu) (by simpa using hv))
  refine ⟨w',?_,?_⟩
  ·simp only [storeCells,Sem.run_bind,Addr.eV,hst,Result.andThen_ok]
   exact hrun
  ·rw [DP] at hrep
   simp only [fE]
   rw [show off+i+1=off+(i+1) by omega]
   exact hrep
 |[],_::_,_,_,_,_,_,_,hl,_,_=>by simp at hl
 |_::_,[],_,_,_,_,_,_,hl,_,_=>by simp at hl
def iz:List AV→Bool
 |[]=>true
 |x::r=>x.one&&iz r
theorem nw:∀ {cs:List AV} {j:Nat} {x:AV},iz cs=true→cs[j]?=some x→x.one=true
 |[],_,_,_,h=>by simp at h
 |c::cs,0,x,h,hx=>by simp at hx;subst hx;simp [iz] at h;exact h.1
 |c::cs,j+1,x,h,hx=>by simp at hx;simp [iz] at h;exact nw h.2 hx
theorem sg {t:TypeId} {p x:Operand} {id off:Nat} {bk:fZ} {z:Value} {n b:Nat} {ty:TypeId} {pos:String} {bC:Array Edge} {g:Option (Nat×Bool)} {s:St} {K:St→Prop} [hi:dm P t z n b]
  (hp:s.eval p= .ptr id off) (hb:aW s.hp id=some bk) (h1:iz (s.eval x).cells=true) (h2:(s.eval x).one=true∨∃ cs,s.eval x= .agg cs) (hn:(s.eval x).cells.length=n) (hle:off+n≤bk.cs.length)
  (hk:K ⟨s.fr,cK s.hp id {bk with cs:=fE bk.cs off (s.eval x).cells}⟩):eR P ⟨none,.store t p x,ty,pos,bC,g⟩ s K:=by
 intro R β G a w Q hr
 have e1:=hr.eval p;rw [hp] at e1
 obtain ⟨c1,c2⟩:=nv (hr.eval x) h2
 generalize hy:a.eval p=y at e1
 cases e1 with
 |@ptr _ _ _ bb tt hβ=>
  obtain ⟨w',hrun,hrep⟩:=qV (P:=P) hβ (a.eval x).cells.toList (s.eval x).cells 0 s.hp bk w hr.hp hb (off:=off) aE aE
   (fun j u v hu hv=>by
    have hv':(a.eval x).cells[j]?=some v:=by simpa using hv
    have:=c2 j u v hu hv'
    exact ⟨this,this.one (nw h1 hu)⟩)
  have hsz:(a.eval x).cells.size=n:=by omega
  unfold Oper.wp
  have:(execOp a.eval ⟨none,.store t p x,ty,pos,bC,g⟩).run P w= .ok .skip w':=by
   simp [execOp,hy,Instr.storeAt,Instr.sureAddr,storeVar,dV hi,hsz,hrun]
  rw [this,Oper.upon_skip]
  exact ⟨β,G,_,hk,⟨hr.defers,hr.size,hr.fr,by simpa using hrep⟩⟩
def fV (place:Nat→Option Nat):List AV→List (Nat×AV)→List AV
 |cs,[]=>cs
 |cs,(i,x)::r=>fV place (match place i with|some off=>fE cs off x.cells|none=>cs) r
theorem yY {G:bE} {β:cM}:∀ (xs:List AV) (ys:List Value) (cs:List AV) (zs:Array Value) (off:Nat),xs.length=ys.length→cs.length=zs.size→
  (∀ (j:Nat) x y,xs[j]?=some x→ys[j]?=some y→Conc G β x y)→(∀ (j:Nat) x y,cs[j]?=some x→zs[j]?=some y→Conc G β x y)→
  (fE cs off xs).length=(ys.zipIdx.foldl (fun cs (c,j)=>cs.setIfInBounds (off+j) c) zs).size∧
  ∀ (j:Nat) x y,(fE cs off xs)[j]?=some x→(ys.zipIdx.foldl (fun cs (c,j)=>cs.setIfInBounds (off+j) c) zs)[j]?=some y→Conc G β x y:=by
 have key:∀ (xs:List AV) (ys:List Value) (cs:List AV) (zs:Array Value) (off i:Nat),xs.length=ys.length→cs.length=zs.size→
  (∀ (j:Nat) x y,xs[j]?=some x→ys[j]?=some y→Conc G β x y)→(∀ (j:Nat) x y,cs[j]?=some x→zs[j]?=some y→Conc G β x y)→
  (fE cs (off+i) xs).length=((ys.zipIdx i).foldl (fun cs (c,j)=>cs.setIfInBounds (off+j) c) zs).size∧
  ∀ (j:Nat) x y,(fE cs (off+i) xs)[j]?=some x→((ys.zipIdx i).foldl (fun cs (c,j)=>cs.setIfInBounds (off+j) c) zs)[j]?=some y→Conc G β x y:=by
  intro xs
  induction xs with
  |nil=>intro ys cs zs off i hl hc hx hz;cases ys with
   |nil=>exact ⟨hc,hz⟩
   |cons y ys=>simp at hl
  |cons x xs ih=>
   intro ys cs zs off i hl hc hx hz
   cases ys with
   |nil=>simp at hl
   |cons y ys=>
    simp only [fE,List.zipIdx_cons,List.foldl_cons]
    rw [show off+i+1=off+(i+1) by omega]
    refine ih ys _ _ off (i+1) (by simpa using hl) (by simp [hc]) (fun j u v hu hv=>hx (j+1) u v (by simpa using hu) (by simpa using hv)) (fun j u v hu hv=>?_)
    rw [List.getElem?_set] at hu
    rw [Array.getElem?_setIfInBounds] at hv
    by_cases ho:off+i=j
    ·simp only [ho,if_true] at hu hv
     split at hu<;>simp at hu
     split at hv<;>simp at hv
     subst hu;subst hv
     exact hx 0 x y rfl rfl
    ·simp only [ho,if_false] at hu hv
     exact hz j u v hu hv
 intro xs ys cs zs off
 simpa using key xs ys cs zs off 0
def eb (place:Nat→Option (Nat×Nat)) (n:Nat):List (Nat×AV)→Bool
 |[]=>true
 |(i,x)::r=>(match place i with|some (off,size)=>x.cells.length == size&&decide (off+size≤n)|none=>false)&&(x.one|| (match x with| .agg _=>true|_=>false))&&eb place n r
theorem mE {G:bE} {β:cM} {place:Nat→Option (Nat×Nat)}:∀ (ps:List (Nat×AV)) (qs:List (Nat×Value)) (cs:List AV) (zs:Array Value),ps.length=qs.length→cs.length=zs.size→eb place cs.length ps=true→
  (∀ (j:Nat) p q,ps[j]?=some p→qs[j]?=some q→p.1=q.1∧Conc G β p.2 q.2)→(∀ (j:Nat) x y,cs[j]?=some x→zs[j]?=some y→Conc G β x y)→
  ∃ zs',Instr.fill place zs qs=some zs'∧(fV (fun i=>(place i).map (·.1)) cs ps).length=zs'.size∧∀ (j:Nat) x y,(fV (fun i=>(place i).map (·.1)) cs ps)[j]?=some x→zs'[j]?=some y→Conc G β x y:=by
 intro ps
 induction ps with
 |nil=>intro qs cs zs hl hc _ _ hz;cases qs with
  |nil=>exact ⟨zs,rfl,hc,hz⟩
  |cons=>simp at hl
 |cons p ps ih=>
  intro qs cs zs hl hc hok hp hz
  cases qs with
  |nil=>simp at hl
  |cons q qs=>
   obtain ⟨i,x⟩:=p
   obtain ⟨i',y⟩:=q
   obtain ⟨hi,hxy⟩:=hp 0 _ _ rfl rfl
   simp only at hi hxy
   subst hi
   simp only [eb,Bool.and_eq_true] at hok
   obtain ⟨⟨hpl,hone⟩,hrest⟩:=hok
   cases hpi:place i with
   |none=>rw [hpi] at hpl;simp at hpl
   |some os=>
    obtain ⟨off,size⟩:=os
    rw [hpi] at hpl
    simp only [Bool.and_eq_true,beq_iff_eq,decide_eq_true_eq] at hpl
    have h1:x.one=true∨∃ cs,x= .agg cs:=by
     rw [Bool.or_eq_true] at hone
     rcases hone with h|h
     ·exact .inl h
     ·cases x<;>simp at h;exact .inr ⟨_,rfl⟩
    obtain ⟨c1,c2⟩:=nv hxy h1
    obtain ⟨d1,d2⟩:=yY x.cells y.cells.toList cs zs off (by simp [c1]) hc (fun j u v hu hv=>c2 j u v hu (by simpa using hv)) hz
    obtain ⟨zs',e1,e2,e3⟩:=ih qs (fE cs off x.cells) _ (by simpa using hl) d1 (by rw [pz];exact hrest) (fun j p q hp' hq'=>hp (j+1) p q (by simpa using hp') (by simpa using hq')) d2
    refine ⟨zs',?_,?_⟩
    ·simp only [Instr.fill,hpi]
     rw [if_neg aE]
     rw [← Array.foldl_toList]
     simpa using e1
    ·simp only [fV,hpi,Option.map_some]
     exact ⟨e2,e3⟩
def bJ (s:St) (parts:Array (Nat×Operand)):List (Nat×AV):=parts.toList.map fun (i,x)=>(i,s.eval x)
class mf (P:Program) (t:TypeId) (pl:outParam (List (Nat×Nat))):Prop where
 ok:∃ fs:Array Field,P.underlying t=some (.struct fs)∧fs.toList.mapM (fun f=>(P.info? f.type).map fun i=>(f.offset,i.size))=some pl
theorem kL {R:Rg} {β:cM} {G:bE} {s:St} {a:Act} {w:World} (h:eE R β G s a w) (parts:Array (Nat×Operand)) :
  (bJ s parts).length=(parts.map fun (i,x)=>(i,a.eval x)).toList.length∧
  ∀ (j:Nat) p q,(bJ s parts)[j]?=some p→(parts.map fun (i,x)=>(i,a.eval x)).toList[j]?=some q→p.1=q.1∧Conc G β p.2 q.2:=by
 refine ⟨by simp [bJ],fun j p q hp hq=>?_⟩
 simp only [bJ,List.getElem?_map,Array.getElem?_toList,Option.map_eq_some_iff,Array.getElem?_map] at hp hq
 obtain ⟨⟨i,x⟩,h1,rfl⟩:=hp
 obtain ⟨⟨i',x'⟩,h2,rfl⟩:=hq
 rw [h1] at h2
 injection h2 with h2
 injection h2 with h2 h3
 subst h2;subst h3
 exact ⟨rfl,h.eval x⟩
theorem qL {s:St} {t:TypeId} {parts:Array (Nat×Operand)} {pl:List (Nat×Nat)} {z:Value} {n b:Nat} [hF:mf P t pl] [hi:dm P t z n b]
  (hok:eb (fun i=>pl[i]?) (AV.dA z).cells.length (bJ s parts)=true) :
  PV P (.build t parts) s (.agg (fV (fun i=>(pl[i]?).map (·.1)) (AV.dA z).cells (bJ s parts))):=
 dv fun R β G a w h=>by
  obtain ⟨fs,hu,hm⟩:=hF.ok
  obtain ⟨it,hit,hz,hs,_⟩:=hi.ok
  obtain ⟨p1,p2⟩:=kL h parts
  obtain ⟨zs',e1,e2,e3⟩:=mE (G:=G) (β:=β) (place:=fun i=>pl[i]?) (bJ s parts) _ (AV.dA z).cells z.cells p1 (gn z) hok p2 (im z)
  refine ⟨.agg zs',?_,fun w' _ _ _ _ _=>?_⟩
  ·have:=Conc.agg (G:=G) (β:=β) (cs:=fV (fun i=>(pl[i]?).map (·.1)) (AV.dA z).cells (bJ s parts)) zs'.toList (by simpa using e2) (fun j x y hx hy=>e3 j x y hx (by simpa using hy))
   simpa using this
  ·have hb:P.built t (parts.map fun (i,x)=>(i,a.eval x)).toList=some zs':=by
    unfold Program.built
    simp only [hit,hu,hz,hm,List.getElem?_toArray]
    exact e1
   simp only [execOp,Sem.run_bind,run_build w' t _ _ hb,Result.andThen_ok]
   rfl
theorem Dx {s:St} {t el:TypeId} {parts:Array (Nat×Operand)} {N:Nat} {z ze:Value} {n b m c:Nat} [hu:cJ P t (.array N el)] [hi:dm P t z n b] [he:dm P el ze m c]
  (hok:eb (fun i=>some (i * m,m)) (AV.dA z).cells.length (bJ s parts)=true) :
  PV P (.build t parts) s (.agg (fV (fun i=>some (i * m)) (AV.dA z).cells (bJ s parts))):=
 dv fun R β G a w h=>by
  obtain ⟨it,hit,hz,hs,_⟩:=hi.ok
  obtain ⟨ie,hie,_,hse,_⟩:=he.ok
  obtain ⟨p1,p2⟩:=kL h parts
  obtain ⟨zs',e1,e2,e3⟩:=mE (G:=G) (β:=β) (place:=fun i=>some (i * m,m)) (bJ s parts) _ (AV.dA z).cells z.cells p1 (gn z) hok p2 (im z)
  refine ⟨.agg zs',?_,fun w' _ _ _ _ _=>?_⟩
  ·have:=Conc.agg (G:=G) (β:=β) (cs:=fV (fun i=>some (i * m)) (AV.dA z).cells (bJ s parts)) zs'.toList (by simpa using e2) (fun j x y hx hy=>e3 j x y hx (by simpa using hy))
   simpa using this
  ·have hb:P.built t (parts.map fun (i,x)=>(i,a.eval x)).toList=some zs':=by
    unfold Program.built
    simp only [hit,hu.ok,hz,hie,hse]
    exact e1
   simp only [execOp,Sem.run_bind,run_build w' t _ _ hb,Result.andThen_ok]
   rfl
def bE.set (G:bE) (b:Nat) (o:Obj):bE:=fun k=>if k=b then some o else G k
theorem eE.DQ {R:Rg} {β:cM} {G:bE} {s:St} {a:Act} {w:World} (h:eE R β G s a w) (o:Obj) :
  eE R β (G.set w.heap.size o) s a (w.alloc o)∧∀ b x,G b=some x→(G.set w.heap.size o) b=some x:=by
 have hgs:∀ b o,G b=some o→b < w.heap.size:=fun b o hb=>cN (h.hp.gs b o hb)
 have hG:∀ b x,G b=some x→(G.set w.heap.size o) b=some x:=fun b x hb=>by
  have:=hgs b x hb
  simp only [bE.set];rw [if_neg aj];exact hb
 refine ⟨⟨h.defers.mono hG,h.size,fun i x y hx hy=>(h.fr i x y hx hy).mono hG,⟨fun b x hb=>?_,fun id bk hi=>?_,h.hp.inj,h.hp.keeps.alloc _,fun b hb=>?_,h.hp.jv,h.hp.ga⟩⟩,hG⟩
 ·simp only [bE.set] at hb
  split at hb
  ·rename_i e;subst e;injection hb with hb;subst hb;exact heap_alloc_new w _
  ·rw [fF w _ (hgs b x hb)];exact h.hp.gs b x hb
 ·have:=h.hp.blk id bk hi
  unfold bW at this ⊢
  cases hβ:β id with
  |no=>rw [hβ] at this;exact this
  |nil=>rw [hβ] at this;exact this
  |«at» b t=>
   rw [hβ] at this
   obtain ⟨g1,g2,arr',g3,g4,g5,g6,g7⟩:=this
   refine ⟨?_,g2,arr',by rw [fF w _ (cN g3)];exact g3,g4,g5,g6,fun j x y hx hy=>(g7 j x y hx hy).mono hG⟩
   have:=cN g3
   simp only [bE.set];rw [if_neg aj];exact g1
  |gh o=>rw [hβ] at this;exact fv this hG fun x _ y hc=>hc.mono hG
 ·simp only [bE.set] at hb
  split at hb
  ·rename_i e;subst e;exact .inr (.inl h.hp.keeps.size)
  ·exact h.hp.js b hb
mutual
def AV.fm:AV→Bool
 | .ptr ..=>false
 | .sl ..=>false
 | .yl ..=>false
 | .agg cs=>AV.cj cs
 | .dr cs=>AV.cj cs
 | .fn _ cs=>AV.cj cs
 | .any=>true
 | .v _=>true
 | .cr _ _ _=>true
 | .bx _=>true
def AV.cj:List AV→Bool
 |[]=>true
 |x::r=>AV.fm x&&AV.cj r
end
theorem fw:∀ {cs:List AV} {j:Nat} {x:AV},AV.cj cs=true→cs[j]?=some x→AV.fm x=true
 |[],_,_,_,h=>by simp at h
 |c::cs,0,x,h,hx=>by simp at hx;subst hx;simp [AV.cj] at h;exact h.1
 |c::cs,j+1,x,h,hx=>by simp at hx;simp [AV.cj] at h;exact fw h.2 hx
theorem Conc.mu {G:bE} {β:cM} {x:AV} {y:Value} (h:Conc G β x y) (hp:x.fm=true) (β':cM):Conc G β' x y:=by
 induction h generalizing β' with
 |any=>exact .any
 |v=>exact .v
 |agg xs hl _ ih=>exact .agg xs hl fun j x y hx hy=>ih j x y hx hy (fw (by simpa [AV.fm] using hp) hx) β'
 |dr xs hl _ ih=>exact .dr xs hl fun j x y hx hy=>ih j x y hx hy (fw (by simpa [AV.fm] using hp) hx) β'
 |fn xs hf hl _ ih=>exact .fn xs hf hl fun j x y hx hy=>ih j x y hx hy (fw (by simpa [AV.fm] using hp) hx) β'
 |qC _ ih=>exact .qC (ih (by simpa [AV.fm,AV.cj] using hp) β')
 |ptr=>simp [AV.fm] at hp
 |yl=>simp [AV.fm] at hp
 |j5=>simp [AV.fm] at hp
 |sl=>simp [AV.fm] at hp
 |cr ys hu hl hc hb hA hr hs=>exact .cr ys hu hl hc hb hA hr hs
 |bx ys hl hr hs=>exact .bx ys hl hr hs
def pw:Nat→List (Nat×AV)→Bool
 |_,[]=>true
 |k,(i,_)::r=>i == k&&pw (k+1) r
theorem uy:∀ (xs pre sT rest:List AV),sT.length=xs.length→fE (pre++(sT++rest)) pre.length xs=pre++(xs++rest)
 |[],pre,sT,rest,h=>by
  have:sT=[]:=List.eq_nil_of_length_eq_zero (by simpa using h)
  subst this;rfl
 |x::xs,pre,[],rest,h=>by simp at h
 |x::xs,pre,o::sT,rest,h=>by
  have ih:=uy xs (pre++[x]) sT rest (by simpa using h)
  simp only [fE]
  have h1:(pre++(o::sT++rest)).set pre.length x=(pre++[x])++(sT++rest):=by
   rw [List.set_append_right _ _ (Nat.le_refl _)];simp
  rw [h1]
  have h2:pre.length+1=(pre++[x]).length:=by simp
  rw [h2,ih];simp
theorem lF {m:Nat}:∀ (ps:List (Nat×AV)) (k:Nat) (pre sT:List AV),pw k ps=true→pre.length=k * m→sT.length=ps.length * m→(∀ p∈ps,p.2.cells.length=m)→
  fV (fun i=>some (i * m)) (pre++sT) ps=pre++ps.flatMap fun p=>p.2.cells
 |[],k,pre,sT,_,_,ho,_=>by
  have:sT=[]:=List.eq_nil_of_length_eq_zero (by simpa using ho)
  subst this;simp [fV]
 |(i,x)::ps,k,pre,sT,hd,hp,ho,hm=>by
  simp only [pw,Bool.and_eq_true,beq_iff_eq] at hd
  obtain ⟨rfl,hd⟩:=hd
  have hx:=hm (i,x) ax
  simp only at hx
  have hol:m≤sT.length:=by rw [ho,List.length_cons,Nat.add_mul];omega
  have hsplit:sT=sT.take m++sT.drop m:=(List.take_append_drop m sT).symm
  simp only [fV]
  rw [show i * m=pre.length from hp.symm,hsplit,uy x.cells pre (sT.take m) (sT.drop m) (by simp [hx];omega)]
  have:=lF ps (i+1) (pre++x.cells) (sT.drop m) hd (by simp [hp,hx,Nat.add_mul]) (by simp [ho,Nat.add_mul]) (fun p hp=>hm p (by simp [hp]))
  rw [← List.append_assoc,this]
  simp [List.flatMap_cons]
theorem lG {place:Nat→Option (Nat×Nat)} {n m:Nat} (hpl:∀ i o s,place i=some (o,s)→s=m):∀ (ps:List (Nat×AV)),eb place n ps=true→∀ p∈ps,p.2.cells.length=m
 |[],_,p,hp=>by simp at hp
 |(i,x)::ps,h,p,hp=>by
  simp only [eb,Bool.and_eq_true] at h
  obtain ⟨⟨h1,_⟩,h2⟩:=h
  rcases List.mem_cons.1 hp with rfl|hp
  ·cases hq:place i with
   |none=>rw [hq] at h1;simp at h1
   |some os=>
    obtain ⟨o,sz⟩:=os
    rw [hq] at h1
    simp only [Bool.and_eq_true,beq_iff_eq] at h1
    simp only [h1.1,hpl i o sz hq]
  ·exact lG hpl ps h2 p hp
theorem nR {d:Tmp} {t el:TypeId} {len:Nat} {parts:Array (Nat×Operand)} {z:Value} {m bw:Nat} {ty:TypeId} {pos:String} {bC:Array Edge} {g:Option (Nat×Bool)} {s:St} {K:St→Prop}
  [hu:cJ P t (.slice el)] [hi:dm P el z m bw] (hsm:decide (0 < len * m)=true∧decide (len * m≤16777216)=true∧decide (len * bw≤140737488355328)=true)
  (hd:pw 0 (bJ s parts)=true) (hl:(bJ s parts).length=len) (hok:eb (fun i=>some (i * m,m)) (len * m) (bJ s parts)=true)
  (hpu:AV.cj ((bJ s parts).map (·.2))=true)
  (hk:K (s.put (some d) (.cr m bw ((bJ s parts).map (·.2))))):∀ R β G a w Q,eE R β G s a w→(Oper.mk (some d) (.buildSlice t len parts) ty pos bC g).wp P a w (fun a' w'=>Ext w w'∧RK R K a' w') Q:=by
 intro R β G a w Q hr
 obtain ⟨s1,s2,s3⟩:=hsm
 simp only [decide_eq_true_eq] at s1 s2 s3
 obtain ⟨ie,hie,hz0,hse,_⟩:=hi.ok
 obtain ⟨p1,p2⟩:=kL hr parts
 have hps:=lG (m:=m) (by intro i o s h;simp at h;exact h.2.symm) _ hok
 have hok':eb (fun i=>some (i * m,m)) (List.replicate (len * m) AV.any).length (bJ s parts)=true:=by simpa using hok
 obtain ⟨zs',e1,e2,e3⟩:=mE (G:=G) (β:=β) (place:=fun i=>some (i * m,m)) (bJ s parts) _ (List.replicate (len * m) .any) ((Array.range (len * m)).map (z.cells[· % z.cells.size]!)) p1 ax hok' p2
  (fun j x y hx hy=>by
   rw [List.getElem?_replicate] at hx
   split at hx<;>simp at hx
   subst hx;exact .any)
 have hfill:fV (fun i=>some (i * m)) (List.replicate (len * m) AV.any) (bJ s parts)=(bJ s parts).flatMap fun p=>p.2.cells:=by
  have:=lF (m:=m) (bJ s parts) 0 [] (List.replicate (len * m) AV.any) hd ax (by simp [hl]) hps
  simpa using this
 have e2':(fV (fun i=>some (i * m)) (List.replicate (len * m) AV.any) (bJ s parts)).length=zs'.size:=e2
 have e3':∀ (j:Nat) x y,(fV (fun i=>some (i * m)) (List.replicate (len * m) AV.any) (bJ s parts))[j]?=some x→zs'[j]?=some y→Conc G β x y:=e3
 rw [hfill] at e2' e3'
 have hrun:(Instr.buildSlice t len (parts.map fun (i,x)=>(i,a.eval x))).run P w= .ok (.slice (some ⟨w.heap.size,0,none⟩) len len) (w.alloc (.cells zs' el)):=
  run_buildSlice w t el len _ zs' ie z hu.ok hie hz0 (by rw [hse];omega) (by rw [hse];omega) (by rw [hse];exact e1)
 obtain ⟨hrep,hG⟩:=hr.DQ (.cells zs' el)
 unfold Oper.wp
 have hexec:(execOp a.eval ⟨some d,.buildSlice t len parts,ty,pos,bC,g⟩).run P w= .ok (.value (.slice (some ⟨w.heap.size,0,none⟩) len len)) (w.alloc (.cells zs' el)):=by
  simp only [execOp,Sem.run_bind,hrun,Result.andThen_ok];rfl
 rw [hexec,Oper.upon_value]
 refine ⟨(Below.refl _ _).alloc (Nat.le_refl _) _,β,_,_,hk,hrep.put (some d) ?_⟩
 have hes:∀ e∈(bJ s parts).map (·.2),e.cells.length=m:=fun e he=>by
  obtain ⟨p,hp,rfl⟩:=List.mem_map.1 he
  exact hps p hp
 have hfm:((bJ s parts).map (·.2)).flatMap AV.cells=(bJ s parts).flatMap fun p=>p.2.cells:=by rw [List.flatMap_map]
 have hlen:((bJ s parts).map (·.2)).length=len:=by simp [hl]
 have hzl:zs'.size=len * m:=by rw [← e2',← hfm,jb hes,hlen]
 have:=Conc.cr (G:=G.set w.heap.size (.cells zs' el)) (β:=β) (sz:=m) (bw:=bw) (es:=(bJ s parts).map (·.2)) (A:=some ⟨w.heap.size,0,none⟩) (c:=len) zs'.toList hes (by rw [hlen];simp [hzl]) (by rw [hlen];exact Nat.le_refl _) (by rw [hlen];exact s3) (fun _=>by simp)
  (fun j y hy=>⟨_,rfl,by
   rw [Addr.eV]
   simp only [dO,bE.set,if_true]
   simpa using hy⟩)
  (fun j x y hx hy=>by
   rw [hfm] at hx
   have hxx:AV.fm x=true:=by
    obtain ⟨p,hp,hx'⟩:=List.mem_flatMap.1 (List.mem_of_getElem? hx)
    obtain ⟨i,hi'⟩:=List.getElem?_of_mem (List.mem_map_of_mem (f:=(·.2)) hp)
    have hpp:=fw hpu hi'
    obtain ⟨i2,hi2⟩:=List.getElem?_of_mem hx'
    cases hq:p.2 with
    |agg cs=>
     rw [hq] at hx' hpp hi2
     simp only [AV.cells] at hi2
     exact fw (by simpa [AV.fm] using hpp) hi2
    |_=>rw [hq] at hx' hpp;simp only [AV.cells,List.mem_singleton] at hx';subst hx';exact hpp
   exact ((e3' j x y hx (by simpa using hy)).mu hxx lj).mono hG)
 rw [hlen] at this
 exact this
theorem uo {d:Tmp} {t el:TypeId} {len:Nat} {parts:Array (Nat×Operand)} {z:Value} {m bw:Nat} {ty:TypeId} {pos:String} {bC:Array Edge} {g:Option (Nat×Bool)} {s:St} {K:St→Prop}
  [hu:cJ P t (.slice el)] [hi:dm P el z m bw] (hsm:decide (0 < len * m)=true∧decide (len * m≤16777216)=true∧decide (len * bw≤140737488355328)=true)
  (hd:pw 0 (bJ s parts)=true) (hl:(bJ s parts).length=len) (hok:eb (fun i=>some (i * m,m)) (len * m) (bJ s parts)=true)
  (hpu:AV.cj ((bJ s parts).map (·.2))=true)
  (hk:K (s.put (some d) (.cr m bw ((bJ s parts).map (·.2))))):eR P ⟨some d,.buildSlice t len parts,ty,pos,bC,g⟩ s K:=
 fun R β G a w Q hr=>Oper.wp_mono (fun _ _ h=>h.2) (nR hsm hd hl hok hpu hk R β G a w Q hr)
end Go.Ab
namespace Go.Ab
open Go.RowKit
variable {P:Program}
def sO (K:St→Prop) (Q:Exit→St→Prop):Exit→St→Prop
 | .normal,s=>K s
 |e,s=>Q e s
def A5 (id:Nat) (Q:Exit→St→Prop):Exit→St→Prop
 | .exit id',s=>if id'=id then Q .normal s else Q (.exit id') s
 |e,s=>Q e s
def RX (R:Rg) (Q:Exit→St→Prop) (e:Exit) (a:Act) (w:World):Prop:=RK R (Q e) a w
def iA (ro:Option Nat):Fence:={Fence.wide with round:=ro}
def hJ (l:List Oper):Bool:=l.all fun o=>match o.op with| .defer _=>false|_=>true
theorem pR {l:List Oper} (h:hJ l=true):∀ (i:Nat) o,l.toArray[i]?=some o→∀ c,o.op≠.defer c:=by
 intro i o hi c hc
 have:=List.all_eq_true.1 h o (List.mem_of_getElem? (by simpa using hi))
 rw [hc] at this;cases this
def QN (R:Rg) (K:St→Prop):Exit→Act→World→Prop
 | .normal,a,w=>RK R K a w
 |_,_,_=>False
theorem Ba {R:Rg} {K:St→Prop}:¬LetsOut (QN R K):=fun ⟨_,_,h⟩=>h
theorem xD {ro:Option Nat} {n:Nat} {f:FuncId} {args:Array Value} {w:World} {R:Ending→World→Prop} (h:Calls P f args w R):CallsIn (iA ro) n P f args w R:=
 (callsIn_wide (n:=n)).2 h
theorem FC {ro:Option Nat} {n:Nat} {o:Oper} {a:Act} {w:World} {next next':Act→World→Prop} {R:Rg} {K:St→Prop} (hnd:∀ c,o.op≠.defer c) (hn:∀ a w,next a w→next' a w)
  (h:o.wp P a w next (QN R K)):o.wpIn (iA ro) n P a w next' (QN R K):=by
 refine ⟨fun _ _=>trivial,?_⟩
 rw [show (iA ro).round=ro from rfl,Oper.semAt_eq ro _ o hnd]
 unfold Oper.wp at h
 generalize (execOp a.eval o).run P w=r at *
 cases r with
 |ok x w'=>
  cases x<;>simp only [Oper.upon,Oper.uponIn] at h ⊢
  case value v=>exact hn _ _ h
  case skip=>exact hn _ _ h
  case defer d=>exact hn _ _ h
  case enter f args=>
   refine ⟨fun h=>by simp [iA,Fence.wide] at h,(xD h).mono fun e w' he=>?_⟩
   cases e with
   |returned v=>exact hn _ _ he
   |panicked c=>exact he
   |outgrown=>exact he
  case row row args=>
   refine ⟨fun h=>by simp [iA,Fence.wide] at h,fun c cs _=>?_⟩
   obtain ⟨v,w2,h1,h2⟩:=h c cs
   exact ⟨v,w2,hn _ _ h1,stepsIn_wide.2 h2⟩
 |halt x w'=>cases x<;>simp only [Oper.upon,Oper.uponIn] at h ⊢<;>exact h
theorem yZ {ro:Option Nat} {n:Nat} {ops:Array Oper} {R:Rg} {K:St→Prop} (hnd:∀ (i:Nat) o,ops[i]?=some o→∀ c,o.op≠.defer c) :
  ∀ (l:List Nat) (a:Act) (w:World),wpOps P ops (QN R K) l a w→wpOpsIn (iA ro) n P ops (QN R K) l a w:=by
 intro l
 induction l with
 |nil=>intro a w h;exact h
 |cons i rest ih=>
  intro a w h
  simp only [wpOps,wpOpsIn] at h ⊢
  cases ho:ops[i]? with
  |none=>simp only [ho] at h ⊢;exact ih a w h
  |some o=>
   simp only [ho] at h ⊢
   split
   ·rename_i hw
    simp only [hw,if_true] at h
    exact FC (hnd i o ho) ih (h.resolve_right fun hh=>Ba hh.2)
   ·rename_i hw
    simp only [hw,if_false,Bool.false_eq_true] at h
    exact ⟨fun _ _=>trivial,ih _ w h⟩
theorem DR {ro:Option Nat} {n id:Nat} {l:List Oper} {R:Rg} {K:St→Prop} {a:Act} {w:World} (hd:hJ l=true) (h:wpList P l.toArray (QN R K) l a w):(Code.region id l.toArray false).wpIn (iA ro) n P (QN R K) a w:=
 wpIn_region (yZ (pR hd) _ a w (by
  have:=wpOps_eq_wpList (P:=P) (ops:=l.toArray) (Q:=QN R K) l 0 ax
  rw [List.range_eq_range',List.size_toArray,this];exact h))
theorem vX {ro:Option Nat} {n id:Nat} {l:List Oper} {R:Rg} {K:St→Prop} {a:Act} {w:World} (hd:hJ l=true) (hm:P.follows .mixedOrders=true)
  (h:wpAny P .any l.toArray (QN R K) l.toArray.size (Array.replicate l.toArray.size false) a {w with drawn:=w.drawn+1}):(Code.region id l.toArray true).wpIn (iA ro) n P (QN R K) a w:=
 wpIn_region_draw fun t=>by
  simp only [Region.schedule,hm,Bool.true_or,if_true]
  exact yZ (pR hd) _ a _ (wpAny_sound _ t _ a _ h)
def mF:Code→Bool
 | .seq a b=>mF a&&mF b
 | .cond _ a b=>mF a&&mF b
 | .block _ c=>mF c
 | .loop c=>mF c
 | .rangeFunc _ _ _ _=>false
 | .scope c=>mF c
 |_=>true
def FD (ro:Option Nat) (c:Code):Prop:=ro=none∨mF c=true
def AW (P:Program) (c:Code) (s:St) (Q:Exit→St→Prop):Prop:=
 ∀ ro,FD ro c→∀ R β G a w,eE R β G s a w→c.wpIn (iA ro) 0 P (RX R Q) a w
theorem iK {c:Code} {s:St} {Q Q':Exit→St→Prop} (h:AW P c s Q) (hq:∀ e s,Q e s→Q' e s):AW P c s Q':=
 fun ro ho R β G a w hr=>wpIn_mono (h ro ho R β G a w hr) (fun e _ _ ⟨β',G',s',hs,hr'⟩=>⟨β',G',s',hq e s' hs,hr'⟩)
theorem Cw {R:Rg} {Q:Exit→St→Prop}:∀ e a w,QN R (Q .normal) e a w→RX R Q e a w:=fun e a w h=>by
 cases e<;>first|exact h|exact h.elim
theorem dG {id:Nat} {l:List Oper} {s:St} {Q:Exit→St→Prop} (h:ef P l.toArray l s (Q .normal)) (hd:hJ l=true:=by rfl):AW P (.region id l.toArray false) s Q:=
 fun ro _ R β G a w hr=>wpIn_mono (DR hd (h R β G a w _ (fun _ _ h=>h) hr)) Cw
theorem aM {x y:Code} {s:St} {Q:Exit→St→Prop} (h:∀ K:St→Prop,(∀ s,AW P y s Q→K s)→AW P x s (sO K Q)):AW P (.seq x y) s Q:=by
 intro ro ho R β G a w hr
 have hox:FD ro x:=ho.imp (fun h=>h) fun h=>by simp only [mF,Bool.and_eq_true] at h;exact h.1
 have hoy:FD ro y:=ho.imp (fun h=>h) fun h=>by simp only [mF,Bool.and_eq_true] at h;exact h.2
 refine wpIn_seq (wpIn_mono (h (fun s=>AW P y s Q) (fun _ h=>h) ro hox R β G a w hr) (fun e a₁ w₁ hq=>?_))
 obtain ⟨β',G',s',hs,hr'⟩:=hq
 cases e with
 |normal=>exact hs ro hoy R β' G' a₁ w₁ hr'
 |_=>exact ⟨β',G',s',hs,hr'⟩
theorem Cu {s:St} {Q:Exit→St→Prop} (h:Q .normal s):AW P .skip s Q:=fun _ _ _ β G _ _ hr=>wpIn_skip ⟨β,G,s,h,hr⟩
theorem Fz {s:St} {Q:Exit→St→Prop} (h:Q .ret s):AW P .ret s Q:=fun _ _ _ β G _ _ hr=>wpIn_ret ⟨β,G,s,h,hr⟩
theorem Ct {id:Nat} {s:St} {Q:Exit→St→Prop} (h:Q (.exit id) s):AW P (.exit id) s Q:=fun _ _ _ β G _ _ hr=>wpIn_exit ⟨β,G,s,h,hr⟩
theorem aN {id:Nat} {c:Code} {s:St} {Q:Exit→St→Prop} (h:AW P c s (A5 id Q)):AW P (.block id c) s Q:=by
 intro ro ho R β G a w hr
 refine wpIn_block (wpIn_mono (h ro (ho.imp (fun h=>h) fun h=>h) R β G a w hr) (fun e a' w' hq=>?_))
 obtain ⟨β',G',s',hs,hr'⟩:=hq
 cases e with
 |exit id'=>
  simp only [A5] at hs
  simp only [Exit.inBlock]
  split at hs
  ·rename_i he;rw [if_pos he];exact ⟨β',G',s',hs,hr'⟩
  ·rename_i he;rw [if_neg he];exact ⟨β',G',s',hs,hr'⟩
 |_=>exact ⟨β',G',s',hs,hr'⟩
theorem xB {c:Operand} {x y:Code} {s:St} {Q:Exit→St→Prop} {b:Bool} (hc:s.eval c= .bool b) (ht:b=true→AW P x s Q) (hf:b=false→AW P y s Q):AW P (.cond c x y) s Q:=by
 intro ro ho R β G a w hr
 have hox:FD ro x:=ho.imp (fun h=>h) fun h=>by simp only [mF,Bool.and_eq_true] at h;exact h.1
 have hoy:FD ro y:=ho.imp (fun h=>h) fun h=>by simp only [mF,Bool.and_eq_true] at h;exact h.2
 have h:=hr.eval c;rw [hc] at h
 exact wpIn_cond_split (il h) (fun hb=>ht hb ro hox R β G a w hr) (fun hb=>hf hb ro hoy R β G a w hr)
theorem least {p:Nat→Prop} (h:∃ n,p n):∃ n,p n∧∀ m,p m→n≤m:=by
 obtain ⟨n,hn⟩:=h
 induction n using Nat.strongRecOn with
 |_ n ih=>
  by_cases hex:∃ m,m < n∧p m
  ·obtain ⟨m,hm,hp⟩:=hex;exact ih m hm hp
  ·exact ⟨n,hn,fun m hm=>Nat.le_of_not_lt fun hlt=>hex ⟨m,hlt,hm⟩⟩
theorem Cx {c:Code} {s:St} {Q:Exit→St→Prop} (I:Nat→St→Prop) {n0:Nat} (h0:I n0 s)
  (hr:∀ n s,I n s→AW P c s (sO (fun s'=>∃ m,m < n∧I m s') Q)):AW P (.loop c) s Q:=by
 intro ro ho R β G a w hrep
 let p:Act→World→Nat→Prop:=fun a w n=>∃ β G s,I n s∧eE R β G s a w
 have hex:∀ a w,(∃ n,p a w n)→∃ n,p a w n∧∀ m,p a w m→n≤m:=fun a w h=>least h
 let m:Act→World→Nat:=fun a w=>@dite Nat (∃ n,p a w n) (Classical.propDecidable _) (fun h=>Classical.choose (hex a w h)) (fun _=>0)
 have hm:∀ a w (h:∃ n,p a w n),p a w (m a w)∧∀ k,p a w k→m a w≤k:=fun a w h=>by
  simp only [m,dif_pos h]
  exact Classical.choose_spec (hex a w h)
 refine wpIn_loop (fun a w=>∃ n,p a w n) m ⟨n0,β,G,s,h0,hrep⟩ fun a w hI=>?_
 obtain ⟨⟨β1,G1,s1,hs1,hr1⟩,hmin⟩:=hm a w hI
 refine wpIn_mono (hr _ s1 hs1 ro (ho.imp (fun h=>h) fun h=>h) R β1 G1 a w hr1) (fun e a' w' hq=>?_)
 obtain ⟨β',G',s',hs,hr'⟩:=hq
 cases e with
 |normal=>
  obtain ⟨k,hlt,hi⟩:=hs
  have hex':∃ n,p a' w' n:=⟨k,β',G',s',hi,hr'⟩
  exact ⟨hex',Nat.lt_of_le_of_lt ((hm a' w' hex').2 _ ⟨β',G',s',hi,hr'⟩) hlt⟩
 |_=>exact ⟨β',G',s',hs,hr'⟩
def Le (s s':St):Prop:=∀ R β G a w,eE R β G s a w→∃ β' G',eE R β' G' s' a w
theorem Le.refl (s:St):Le s s:=fun _ β G _ _ h=>⟨β,G,h⟩
theorem Le.trans {a b c:St} (h:Le a b) (k:Le b c):Le a c:=fun R β G x w hr=>let ⟨β',G',h'⟩:=h R β G x w hr;k R β' G' x w h'
theorem cT {c:Code} {s s':St} {Q:Exit→St→Prop} (hle:Le s s') (h:AW P c s' Q):AW P c s Q:=
 fun ro ho R β G a w hr=>let ⟨β',G',hr'⟩:=hle R β G a w hr;h ro ho R β' G' a w hr'
inductive mq:List AV→List AV→Prop
 |nil:mq [] []
 |keep {x l l'}:mq l l'→mq (x::l) (x::l')
 |drop {x l l'}:mq l l'→mq (x::l) (.any::l')
theorem mq.get {l l':List AV} (h:mq l l'):l.length=l'.length∧∀ (i:Nat) x',l'[i]?=some x'→∃ x,l[i]?=some x∧(x'=x∨x'= .any):=by
 induction h with
 |nil=>exact ⟨rfl,fun i x h=>by simp at h⟩
 |keep _ ih=>exact ⟨by simp [ih.1],fun i x' h=>by cases i with
   |zero=>exact ⟨_,rfl,.inl (by simpa using h.symm)⟩
   |succ i=>simpa using ih.2 i x' (by simpa using h)⟩
 |drop _ ih=>exact ⟨by simp [ih.1],fun i x' h=>by cases i with
   |zero=>exact ⟨_,rfl,.inr (by simpa using h.symm)⟩
   |succ i=>simpa using ih.2 i x' (by simpa using h)⟩
def gi (l l':Hp):Prop:=∀ i b,aW l' i=some b→aW l i=some b
theorem dW {f f':List AV} {h h':Hp} (hf:mq f f') (hh:gi h h'):Le ⟨f,h⟩ ⟨f',h'⟩:=by
 intro R β G a w hr
 obtain ⟨h1,h2⟩:=hf.get
 refine ⟨β,G,hr.defers,by rw [hr.size];exact h1,fun i x y hx hy=>?_,⟨hr.hp.gs,fun id bk hi=>hr.hp.blk id bk (hh _ _ hi),fun i j b t t' hi hj=>?_,hr.hp.keeps,hr.hp.js,hr.hp.jv,hr.hp.ga.sub fun i hi=>by obtain ⟨b,hb⟩:=Option.isSome_iff_exists.1 hi;rw [hh i b hb];rfl⟩⟩
 ·obtain ⟨x0,hx0,he⟩:=h2 i x hx
  rcases he with rfl|rfl
  ·exact hr.fr i _ y hx0 hy
  ·exact .any
 ·obtain ⟨b1,hb1⟩:=Option.isSome_iff_exists.1 hi
  obtain ⟨b2,hb2⟩:=Option.isSome_iff_exists.1 hj
  exact hr.hp.inj i j b t t' (by simp [hh _ _ hb1]) (by simp [hh _ _ hb2])
def kD (G:bE) (w:World):Prop:=∀ b o,G b=some o→w.heap[b]?=some o
def uc (G:bE) (args:List AV) (vals:List Value):Prop:=args.length=vals.length∧∀ (j:Nat) x y,args[j]?=some x→vals[j]?=some y→Conc G lj x y
def bg (P:Program) (f:FuncId) (args:List AV) (Q:AV→Prop):Prop:=
 ∀ G w vals,kD G w→uc G args vals→Calls P f vals.toArray w fun e w'=>∃ y G' x,e= .returned y∧Q x∧Conc G' lj x y∧
  (∀ b,G' b≠none→G b≠none∨w.heap.size≤b)∧kD G' w'∧Ext w w'
theorem bg.mono {f:FuncId} {args:List AV} {Q Q':AV→Prop} (h:bg P f args Q) (hq:∀ x,Q x→Q' x):bg P f args Q':=
 fun G w vals h1 h2=>(h G w vals h1 h2).mono fun _ _ ⟨y,G',x,he,hQ,rest⟩=>⟨y,G',x,he,hq x hQ,rest⟩
def RV (P:Program) (rs:Array ResultVar) (s:St) (x:AV):Prop:=
 ∀ fn:Func,fn.results=rs→∀ R β G a w,eE R β G s a w→∃ y,(results fn a.tmps).run P w= .ok y w∧Conc G β x y
def Bb (tmps:Array Value):ResultVar→Sem Value
 | .tmp t=>pure (tmps.getD t undef)
 | .cell a t=>do loadVar t (← asAddr (tmps.getD a undef))
theorem kM (fn:Func) (tmps:Array Value):results fn tmps=(do
  let vs ← fn.results.mapM (Bb tmps)
  pure (if h:vs.size=1 then vs[0] else .tuple vs)):=by
 unfold results
 congr 2
def jX (P:Program) (r:ResultVar) (s:St) (x:AV):Prop:=
 ∀ R β G a w,eE R β G s a w→∃ y,(Bb a.tmps r).run P w= .ok y w∧Conc G β x y
theorem aO {t:Tmp} {s:St} {x:AV} (h:s.fr[t]?=some x):jX P (.tmp t) s x:=fun R β G a w hr=>by
 have:=hr.eval (.tmp t)
 simp only [St.eval,List.getD_eq_getElem?_getD,h,Option.getD_some] at this
 exact ⟨_,rfl,this⟩
theorem bt {p:Tmp} {t:TypeId} {s:St} {x:AV} (h:PV P (.load t (.tmp p)) s x):jX P (.cell p t) s x:=fun R β G a w hr=>by
 obtain ⟨y,hy,hrun⟩:=h R β G a w hr
 refine ⟨y,?_,hy⟩
 have := hrun w none 0 "" #[] none (Below.refl _ _)
 simp only [execOp,Act.eval,Instr.loadAt] at this
 simp only [Bb]
 generalize a.tmps.getD p undef=v at *
 cases v with
 |pointer ad=>
  cases ad with
  |none=>simp [Instr.sureAddr] at this
  |some ad=>
   simp only [Instr.sureAddr,asAddr,Sem.run_bind,Sem.run_pure,Result.andThen_ok] at this ⊢
   cases hl:(loadVar t ad).run P w with
   |ok u w'=>rw [hl] at this;simp at this;rw [this.1,this.2]
   |halt u w'=>rw [hl] at this;simp at this
 |_=>simp [Instr.sureAddr] at this
theorem aQ {r:ResultVar} {s:St} {x:AV} (h:jX P r s x):RV P #[r] s x:=fun fn hf R β G a w hr=>by
 obtain ⟨y,h1,h2⟩:=h R β G a w hr
 refine ⟨y,?_,h2⟩
 rw [kM,hf]
 simp [Array.mapM_eq_mapM_toList,h1]
theorem dx {r q:ResultVar} {s:St} {x z:AV} (h:jX P r s x) (h':jX P q s z):RV P #[r,q] s (.dr [x,z]):=fun fn hf R β G a w hr=>by
 obtain ⟨y,h1,h2⟩:=h R β G a w hr
 obtain ⟨u,k1,k2⟩:=h' R β G a w hr
 refine ⟨.tuple #[y,u],?_,?_⟩
 ·rw [kM,hf]
  simp [Array.mapM_eq_mapM_toList,h1,k1]
 ·have:=Conc.dr (G:=G) (β:=β) (cs:=[x,z]) [y,u] rfl (by
   intro j a b ha hb
   match j with
   |0=>simp at ha hb;subst ha;subst hb;exact h2
   |1=>simp at ha hb;subst ha;subst hb;exact k2
   |j+2=>simp at ha)
  simpa using this
theorem qW {r q t:ResultVar} {s:St} {x z m:AV} (h:jX P r s x) (h':jX P q s z) (h'':jX P t s m):RV P #[r,q,t] s (.dr [x,z,m]):=fun fn hf R β G a w hr=>by
 obtain ⟨y,h1,h2⟩:=h R β G a w hr
 obtain ⟨u,k1,k2⟩:=h' R β G a w hr
 obtain ⟨v,l1,l2⟩:=h'' R β G a w hr
 refine ⟨.tuple #[y,u,v],?_,?_⟩
 ·rw [kM,hf]
  simp [Array.mapM_eq_mapM_toList,h1,k1,l1]
 ·have:=Conc.dr (G:=G) (β:=β) (cs:=[x,z,m]) [y,u,v] rfl (by
   intro j a b ha hb
   match j with
   |0=>simp at ha hb;subst ha;subst hb;exact h2
   |1=>simp at ha hb;subst ha;subst hb;exact k2
   |2=>simp at ha hb;subst ha;subst hb;exact l2
   |j+3=>simp at ha)
  simpa using this
def Fin (P:Program) (rs:Array ResultVar) (Q:AV→Prop):Exit→St→Prop
 | .normal,s| .ret,s=>∃ s' x,Le s s'∧RV P rs s' x∧x.fm=true∧Q x
 |_,_=>False
theorem pN {G:bE} {w w':World} (h:kD G w) (he:Ext w w'):kD G w':=
 fun b o hb=>by rw [he.block b (cN (h b o hb))];exact h b o hb
def bE.del (G:bE) (D:Nat):bE:=fun k=>if k=D then none else G k
theorem wz {G:bE} {D:Nat} {o:Option (List Deferred)} (hD:G D=some (.deferred o)) {a:Addr} {y:Value} (h:dO G a=some y):dO (G.del D) a=some y:=by
 unfold dO at *
 by_cases hb:a.block=D
 ·rw [hb,hD] at h;cases h
 ·simp only [bE.del,hb,if_false];exact h
theorem c9.Lr {R:Rg} {β:cM} {G:bE} {hp:Hp} {w:World} (h:c9 R β G hp w) {D:Nat} {o:Option (List Deferred)} (hn:R.w0.heap.size≤D) (hD:G D=some (.deferred o)):c9 R β (G.del D) hp (w.putObj D (.deferred none)):=by
 have hoth:∀ b,b≠D→(w.putObj D (.deferred none)).heap[b]?=w.heap[b]?:=fun b hb=>World.putObj_heap_other hb
 have hc:∀ {x y},Conc G β x y→Conc (G.del D) β x y:=fun hc=>hc.vW (fun _ _=>rfl) fun _ _ h=>wz hD h
 refine ⟨fun b x hb=>?_,fun id bk hi=>?_,h.inj,?_,fun b hb=>?_,h.jv,h.ga⟩
 ·simp only [bE.del] at hb
  split at hb
  ·cases hb
  ·rename_i hne;rw [hoth b hne];exact h.gs b x hb
 ·have:=h.blk id bk hi
  unfold bW at this ⊢
  cases hβ:β id with
  |no=>rw [hβ] at this;exact this
  |nil=>rw [hβ] at this;exact this
  |«at» b t=>
   rw [hβ] at this
   obtain ⟨g1,g2,arr,g3,g4,g5,g6,g7⟩:=this
   have hne:b≠D:=fun e=>by subst e;rw [hD] at g1;cases g1
   exact ⟨by simp only [bE.del,hne,if_false];exact g1,g2,arr,by rw [hoth b hne];exact g3,g4,g5,g6,fun j x y hx hy=>hc (g7 j x y hx hy)⟩
  |gh o=>
   rw [hβ] at this
   rcases this with ⟨outs,g0,gf,g1,g2,g3⟩|⟨b,es,clock,e0,e1,e2,e3,e4,e5⟩
   ·refine .inl ⟨outs,g0,gf,?_,g2,fun j x y hx hy=>hc (g3 j x y hx hy)⟩
    cases o with
    |none=>exact g1
    |some p=>
     obtain ⟨h0,hm,D',f',h1,h2,h3,h6,h4,h5⟩:=g1
     exact ⟨h0,hm,D',f',h1,h2,h3,h6,by simp only [bE.del];rw [if_neg aj];exact h4,by simp only [bE.del];rw [if_neg aj];exact h5⟩
   ·exact .inr ⟨b,es,clock,e0,e1,e2,by simp only [bE.del];rw [if_neg (fun e=>by subst e;rw [hD] at e3;cases e3)];exact e3,e4,fun j x y hx hy=>hc (e5 j x y hx hy)⟩
 ·have hk:=h.keeps
  refine ⟨hk.os,hk.tape,hk.output,by have:=hk.size;simpa [World.putObj] using this,fun k h1 h2=>?_⟩
  rw [hoth k aj];exact hk.block k h1 h2
 ·simp only [bE.del] at hb
  split at hb
  ·exact absurd rfl hb
  ·exact h.js b hb
theorem wA {F:Fence} {n:Nat} {fn:Func} {tmps:Array Value} {R':Ending→World→Prop} {R:Rg} {β:cM} {hp:Hp} (C:bE→World→Prop)
  (hC:∀ (G:bE) w D,C G w→c9 R β G hp w→R.w0.heap.size≤D→G D=some (.deferred (some []))→C (G.del D) (w.putObj D (.deferred none)))
  (hend:∀ G w,c9 R β G hp w→C G w→∃ y,(results fn tmps).run P w= .ok y w∧R' (.returned y) w):∀ (Ds:List Nat) (G:bE) (w:World),c9 R β G hp w→C G w→Ds.Nodup→(∀ D∈Ds,R.w0.heap.size≤D∧G D=some (.deferred (some [])))→
   LeavesInM F n P fn tmps R' (Ds.map fun D=>{target:=.collected D,args:=#[]}) .returning w
 |[],G,w,h,hc,_,_=>by
  obtain ⟨y,h1,h2⟩:=hend G w h hc
  exact ⟨y,h1,h2⟩
 |D::Ds,G,w,h,hc,hnd,hD=>by
  obtain ⟨d1,d2⟩:=hD D ax
  refine ⟨by simp,.inl ⟨D,_,rfl,run_takeDeferred (h.gs D _ d2),wA C hC hend Ds (G.del D) _ (h.Lr d1 d2) (hC G w D hc h d1 d2) (List.nodup_cons.1 hnd).2 fun D' hD'=>?_⟩⟩
  obtain ⟨e1,e2⟩:=hD D' (by simp [hD'])
  exact ⟨e1,by simp only [bE.del];rw [if_neg (fun e:D'=D=>(List.nodup_cons.1 hnd).1 (e ▸ hD'))];exact e2⟩
theorem fU {f:FuncId} {fn:Func} {c:Code} {rs:Array ResultVar} {vals:Array Value} {R:Rg} {β:cM} {G:bE} {s:St} {w:World} {Q:Exit→St→Prop} {post:Ending→World→Prop}
  (hf:P.funcs[f]?=some fn) (hb:fn.body=some c) (hrs:fn.results=rs) (hrep:eE R β G s {tmps:=vals++Array.replicate (fn.ntmps - vals.size) undef,defers:=[]} w) (h:AW P c s Q)
  (hq:∀ e s',Q e s'→(e= .normal∨e= .ret)∧∃ s'' x,Le s' s''∧RV P rs s'' x∧∀ β2 G2 y w2,Conc G2 β2 x y→c9 R β2 G2 s''.hp w2→post (.returned y) w2):Calls P f vals w post:=by
 refine (callsIn_wide (n:=0)).1 (callsIn_of_wp_marks hf hb trivial (wpIn_mono (h none (.inl rfl) R β G _ w hrep) fun e a' w' hx=>?_))
 obtain ⟨β',G',s',hs,hr'⟩:=hx
 obtain ⟨he,s'',x,hle,hrv,hpost⟩:=hq e s' hs
 obtain ⟨β2,G2,hr2⟩:=hle _ _ _ _ _ hr'
 obtain ⟨Ds,d1,d2,d3⟩:=hr2.defers
 have key:LeavesInM Fence.wide 0 P fn a'.tmps post a'.defers .returning w':=by
  rw [d1]
  refine wA (R:=R) (β:=β2) (hp:=s''.hp) (fun G w=>∀ (i:Nat) u v,s''.fr[i]?=some u→a'.tmps[i]?=some v→Conc G β2 u v) (fun G w D hc _ _ hD i u v hu hv=>(hc i u v hu hv).vW (fun _ _=>rfl) fun _ _ h=>wz hD h) (fun G3 w3 hH hC=>?_) Ds G2 w' hr2.hp hr2.fr d2 d3
  obtain ⟨y,hy,hcy⟩:=hrv fn hrs R β2 G3 {a' with defers:=[]} w3 ⟨sj,hr2.size,hC,hH⟩
  exact ⟨y,hy,hpost _ _ _ _ hcy hH⟩
 rcases he with rfl|rfl<;>exact key
theorem iR {R:Rg} {β:cM} {G:bE} {hp:Hp} {w:World} {args:List AV} {vals:List Value} {n:Nat} (hl:args.length=vals.length) (hc:∀ (j:Nat) x y,args[j]?=some x→vals[j]?=some y→Conc G β x y) (hH:c9 R β G hp w) :
  eE R β G ⟨args++List.replicate (n - args.length) .any,hp⟩ {tmps:=vals.toArray++Array.replicate (n - vals.toArray.size) undef,defers:=[]} w:=by
 refine ⟨sj,by simp [hl],fun i x y hx hy=>?_,hH⟩
 by_cases hi:i < args.length
 ·rw [List.getElem?_append_left hi] at hx
  rw [Array.getElem?_append_left aE] at hy
  exact hc i x y hx (by simpa using hy)
 ·rw [List.getElem?_append_right aj,List.getElem?_replicate] at hx
  split at hx<;>simp at hx
  subst hx;exact .any
theorem yW {f:FuncId} {fn:Func} {c:Code} {args:List AV} {Q:AV→Prop} {n:Nat} {rs:Array ResultVar} (hf:P.funcs[f]?=some fn) (hb:fn.body=some c) (hn:fn.ntmps=n) (hrs:fn.results=rs)
  (h:AW P c ⟨args++List.replicate (n - args.length) .any,[]⟩ (Fin P rs Q)):bg P f args Q:=by
 intro G w vals hG ⟨hl,hc⟩
 subst hn
 refine fU (R:=⟨w,fun _=>False,G,fun _=>none,ln.no⟩) (β:=lj) (G:=G) hf hb hrs (iR hl hc ⟨hG,fun id bk h=>by simp [aW] at h,fun i j b t t' h=>by simp [aW] at h,⟨rfl,rfl,rfl,Nat.le_refl _,fun _ _ _=>rfl⟩,fun b h=>.inl h,qz,iy.nil⟩) h fun e s' hq=>?_
 have key:(∃ s'' x,Le s' s''∧RV P rs s'' x∧x.fm=true∧Q x)→∃ s'' x,Le s' s''∧RV P rs s'' x∧∀ β2 G2 y w2,Conc G2 β2 x y→c9 ⟨w,fun _=>False,G,fun _=>none,ln.no⟩ β2 G2 s''.hp w2→
   (fun (e:Ending) (w':World)=>∃ y G' x,e=Ending.returned y∧Q x∧Conc G' lj x y∧(∀ b,G' b≠none→G b≠none∨w.heap.size≤b)∧kD G' w'∧Ext w w') (.returned y) w2:=by
  rintro ⟨s'',x,hle,hrv,hp,hQ⟩
  refine ⟨s'',x,hle,hrv,fun β2 G2 y w2 hcy hH=>⟨y,G2,x,rfl,hQ,hcy.mu hp lj,(fun b hb=>(hH.js b hb).imp (fun h=>h) (fun h=>h.elim (fun h=>h) (fun h=>h.elim))),hH.gs,?_⟩⟩
  have hk:=hH.keeps
  exact ⟨hk.os,hk.tape,hk.output,hk.size,fun k hk'=>hk.block k hk' ax⟩
 cases e with
 |normal=>exact ⟨.inl rfl,key hq⟩
 |ret=>exact ⟨.inr rfl,key hq⟩
 |_=>exact hq.elim
theorem eE.later {R:Rg} {β:cM} {G G':bE} {s:St} {a:Act} {w w':World} (h:eE R β G s a w) (he:Ext w w') (hG':kD G' w') (hd:∀ b,G' b≠none→G b≠none∨w.heap.size≤b) :
  ∃ G'',eE R β G'' s a w'∧(∀ b o,G' b=some o→G'' b=some o):=by
 let G'':bE:=fun b=>match G b with|some o=>some o|none=>G' b
 have hgs:kD G w':=pN h.hp.gs he
 have m1:∀ b o,G b=some o→G'' b=some o:=fun b o hb=>by simp [G'',hb]
 have m2:∀ b o,G' b=some o→G'' b=some o:=fun b o hb=>by
  cases hg:G b with
  |none=>simp [G'',hg,hb]
  |some o'=>
   have e1:=hgs b o' hg
   have e2:=hG' b o hb
   rw [e1] at e2;injection e2 with e2;subst e2
   exact m1 b _ hg
 refine ⟨G'',⟨h.defers.mono m1,h.size,fun i x y hx hy=>(h.fr i x y hx hy).mono m1,⟨fun b o hb=>?_,fun id bk hi=>?_,h.hp.inj,?_,fun b hb=>?_,h.hp.jv,h.hp.ga⟩⟩,m2⟩
 ·simp only [G''] at hb
  split at hb
  ·rename_i o' hg;injection hb with hb;subst hb;exact hgs b _ hg
  ·exact hG' b o hb
 ·have:=h.hp.blk id bk hi
  unfold bW at this ⊢
  cases hβ:β id with
  |no=>rw [hβ] at this;exact this
  |nil=>rw [hβ] at this;exact this
  |«at» b t=>
   rw [hβ] at this
   obtain ⟨g1,g2,arr',g3,g4,g5,g6,g7⟩:=this
   refine ⟨?_,g2,arr',by rw [he.block b (cN g3)];exact g3,g4,g5,g6,fun j x y hx hy=>(g7 j x y hx hy).mono m1⟩
   simp only [G'',g1]
   cases hq:G' b with
   |none=>rfl
   |some o=>
    rcases hd b (by rw [hq];simp) with h1|h1
    ·exact absurd g1 h1
    ·have:=cN g3;omega
  |gh o=>rw [hβ] at this;exact fv this m1 fun x _ y hc=>hc.mono m1
 ·have hk:=h.hp.keeps
  refine ⟨he.os.trans hk.os,he.tape.trans hk.tape,he.output.trans hk.output,Nat.le_trans hk.size he.size,fun k h1 h2=>?_⟩
  rw [he.block k (Nat.lt_of_lt_of_le h1 hk.size)]
  exact hk.block k h1 h2
 ·have hb':G b≠none∨G' b≠none:=by
   simp only [G''] at hb
   cases hg:G b with
   |none=>rw [hg] at hb;exact .inr hb
   |some o=>exact .inl ax
  rcases hb' with hb'|hb'
  ·exact h.hp.js b hb'
  ·rcases hd b hb' with h1|h1
   ·exact h.hp.js b h1
   ·exact .inr (.inl (Nat.le_trans h.hp.keeps.size h1))
theorem uz {f : FuncId} {fn : Func} {c : Code} (hf : P.funcs[f]? = some fn) (hb : fn.body = some c) (hn : fn.name ≠ "runtime.NumGoroutine") (args : Array Value) (w : World) :
  (callFunc f args).run P w= .ok (.enter f args) w:=by
 simp [callFunc,hf,hn,hb]
class cS (P:Program) (f:FuncId):Prop where
 ok:∀ args w,(callFunc f args).run P w= .ok (.enter f args) w
 lt:f < 1000000000
def cn (s:St) (args:Array Operand):List AV:=args.toList.map s.eval
theorem nb {R:Rg} {β:cM} {G:bE} {s:St} {a:Act} {w:World} (h:eE R β G s a w) (args:Array Operand) (hp:AV.cj (cn s args)=true) :
  uc G (cn s args) (args.map a.eval).toList:=by
 refine ⟨by simp [cn],fun j x y hx hy=>?_⟩
 have hpx:=fw hp hx
 simp only [cn,List.getElem?_map,Array.getElem?_toList,Option.map_eq_some_iff,Array.getElem?_map] at hx hy
 obtain ⟨o,h1,rfl⟩:=hx
 obtain ⟨o',h2,rfl⟩:=hy
 rw [h1] at h2;injection h2 with h2;subst h2
 exact (h.eval o).mu hpx lj
theorem cH {d:Option Tmp} {f:FuncId} {args:Array Operand} {eQ:Array TypeId} {ty:TypeId} {pos:String} {bC:Array Edge} {g:Option (Nat×Bool)} {s:St} {K:St→Prop} {Q:AV→Prop} [hc:cS P f]
  (h:bg P f (cn s args) Q) (hp:AV.cj (cn s args)=true) (hk:∀ x,Q x→K (s.put d x)):eR P ⟨d,.call {callee:=.value (.func f),args,argTypes:=eQ},ty,pos,bC,g⟩ s K:=by
 intro R β G a w Q' hr
 have hrun:(execOp a.eval ⟨d,.call {callee:=.value (.func f),args,argTypes:=eQ},ty,pos,bC,g⟩).run P w= .ok (.enter f (args.map a.eval)) w:=by
  simp [execOp,resolve,Act.eval,Deferred.ofValue,invoke,hc.ok]
 unfold Oper.wp
 rw [hrun,Oper.upon_enter]
 have:=h G w (args.map a.eval).toList hr.hp.gs (nb hr args hp)
 simp only [Array.toArray_toList] at this
 refine this.mono fun e w' ⟨y,G',x,he,hQ,hcx,hd,hG',hext⟩=>?_
 subst he
 obtain ⟨G'',hr',hm⟩:=hr.later hext hG' hd
 exact ⟨β,G'',_,hk x hQ,hr'.put d ((hcx.mono hm).free β)⟩
end Go.Ab
namespace Go.Ab
variable {P:Program}
theorem bG {t:TypeId} {z:Value} {n b:Nat} (h:(P.info? t).map (fun i=>(i.zero,i.size,i.bytes))=some (some z,n,b)):dm P t z n b:=by
 cases hi:P.info? t with
 |none=>rw [hi] at h;simp at h
 |some i=>
  rw [hi] at h
  simp only [Option.map_some,Option.some.injEq,Prod.mk.injEq] at h
  exact ⟨⟨i,hi,h.1,h.2.1,h.2.2⟩⟩
theorem bc {f : FuncId} {fn : Func} (hf : P.funcs[f]? = some fn) (hs : fn.body.isSome = true) (hn : (fn.name == "runtime.NumGoroutine") = false) (hlt : f < 1000000000 := by decide) : cS P f := by
 obtain ⟨c,hc⟩:=Option.isSome_iff_exists.1 hs
 exact ⟨fun args w=>uz hf hc (by simpa using hn) args w,hlt⟩
end Go.Ab
namespace Go.Ab
variable {P:Program}
theorem yU {c:Operand} {x y:Code} {s:St} {Q:Exit→St→Prop} (hc:s.eval c= .bool true) (h:AW P x s Q):AW P (.cond c x y) s Q:=
 xB hc (fun _=>h) (fun h=>by cases h)
theorem yV {c:Operand} {x y:Code} {s:St} {Q:Exit→St→Prop} (hc:s.eval c= .bool false) (h:AW P y s Q):AW P (.cond c x y) s Q:=
 xB hc (fun h=>by cases h) (fun _=>h)
theorem aT {rs:Array ResultVar} {Q:AV→Prop} {e:Exit} {s s':St} {x:AV} (hle:Le s s') (hrv:RV P rs s' x) (hp:x.fm=true) (hQ:Q x) (he:e= .ret∨e= .normal:=by first|exact .inl rfl|exact .inr rfl):Fin P rs Q e s:=by
 have:∃ s' x,Le s s'∧RV P rs s' x∧x.fm=true∧Q x:=⟨s',x,hle,hrv,hp,hQ⟩
 rcases he with rfl|rfl<;>exact this
def jw:List Nat→List AV→List AV
 |[],f=>f
 |i::r,f=>jw r (f.set i .any)
def gk:List (Nat×AV)→List AV→List AV
 |[],f=>f
 |(i,x)::r,f=>gk r (f.set i x)
theorem bO {ι:Type} {c:Code} {fr:List AV} {hp:Hp} {Q:Exit→St→Prop} (ws:List Nat) (C:ι→Prop) (μ:ι→Nat) (sl:ι→List (Nat×AV)) (hq:ι→Hp) (i0:ι) (h0:C i0)
  (hs:Le ⟨fr,hp⟩ ⟨gk (sl i0) (jw ws fr),hq i0⟩)
  (hr:∀ i,C i→∀ K:St→Prop,(∀ s',(∃ j,C j∧μ j < μ i∧Le s' ⟨gk (sl j) (jw ws fr),hq j⟩)→K s')→AW P c ⟨gk (sl i) (jw ws fr),hq i⟩ (sO K Q)):AW P (.loop c) ⟨fr,hp⟩ Q:=by
 refine cT hs (Cx (fun n s=>∃ i,C i∧μ i=n∧s=⟨gk (sl i) (jw ws fr),hq i⟩) ⟨i0,h0,rfl,rfl⟩ ?_)
 rintro n s ⟨i,hi,rfl,rfl⟩
 refine fun ro ho R β G a w hrep=>wpIn_mono (hr i hi (fun s'=>∃ j,C j∧μ j < μ i∧Le s' ⟨gk (sl j) (jw ws fr),hq j⟩) (fun _ h=>h) ro ho R β G a w hrep) (fun e a' w' hx=>?_)
 obtain ⟨β',G',s',hs',hr'⟩:=hx
 cases e with
 |normal=>
  obtain ⟨j,hj,hlt,hle⟩:=hs'
  obtain ⟨β2,G2,hr2⟩:=hle R β' G' a' w' hr'
  exact ⟨β2,G2,_,⟨μ j,hlt,j,hj,rfl,rfl⟩,hr2⟩
 |_=>exact ⟨β',G',s',hs',hr'⟩
theorem cL {c:Code} {s:St} {Q:Exit→St→Prop} {i sz bw:Nat} {es:List AV} (hx:s.fr[i]?=some (.cr sz bw es)) (h:es.length * bw≤140737488355328→AW P c s Q):AW P c s Q:=by
 intro ro ho R β G a w hr
 have h1:=hr.eval (.tmp i)
 simp only [St.eval,List.getD_eq_getElem?_getD,hx,Option.getD_some] at h1
 have hb:es.length * bw≤140737488355328:=by generalize a.eval (.tmp i)=y at h1;cases h1;assumption
 exact h hb ro ho R β G a w hr
theorem dI {x x':AV} {l l':List AV} (h:mq l l') (hx:x=x'):mq (x::l) (x'::l'):=hx ▸ .keep h
theorem DK (h:Hp):gi h h:=fun _ _ h=>h
theorem aY (h:Hp):gi h []:=fun _ _ h=>by simp [aW] at h
end Go.Ab
namespace Go.Ab
open Go.RowKit
variable {P:Program}
def AV.dJ (id:Nat) (x:AV):AV:=if AV.cv id x then .any else x
def AV.ct (id:Nat):List AV→List AV
 |[]=>[]
 |x::r=>AV.dJ id x::AV.ct id r
def dZ (id:Nat):Hp→Hp
 |[]=>[]
 |(i,b)::r=>if i=id then dZ id r else (i,{b with cs:=AV.ct id b.cs})::dZ id r
def St.dJ (s:St) (id:Nat):St:=⟨AV.ct id s.fr,dZ id s.hp⟩
@[simp] theorem MN (id:Nat):AV.dJ id .any= .any:=rfl
@[simp] theorem Ow (id:Nat) (x:Value):AV.dJ id (.v x)= .v x:=rfl
@[simp] theorem MO (id a b:Nat) (es:List AV):AV.dJ id (.cr a b es)= .cr a b es:=rfl
@[simp] theorem Ls (id:Nat) (es:List AV):AV.dJ id (.bx es)= .bx es:=rfl
@[simp] theorem mr (id i o:Nat):AV.dJ id (.ptr i o)=if i=id then .any else .ptr i o:=by
 simp [AV.dJ,AV.cv]
@[simp] theorem oa (id a b i o n:Nat):AV.dJ id (.sl a b i o n)=if i=id then .any else .sl a b i o n:=by
 simp [AV.dJ,AV.cv]
theorem nc {id:Nat} {x:AV} (h:x.fm=true):AV.dJ id x=x:=by
 have key:∀ (x:AV),x.fm=true→AV.cv id x=false:=by
  intro x
  induction x using AV.rec (motive_2:=fun cs=>AV.cj cs=true→AV.bz id cs=false) with
  |agg cs ih=>intro h;simp only [AV.fm] at h;simp only [AV.cv];exact ih h
  |dr cs ih=>intro h;simp only [AV.fm] at h;simp only [AV.cv];exact ih h
  |fn f cs ih=>intro h;simp only [AV.fm] at h;simp only [AV.cv];exact ih h
  |ptr=>intro h;simp [AV.fm] at h
  |sl=>intro h;simp [AV.fm] at h
  |yl=>intro h;simp [AV.fm] at h
  |nil=>rfl
  |cons x r h1 h2=>rename_i h;simp only [AV.cj,Bool.and_eq_true] at h;simp only [AV.bz,h1 h.1,h2 h.2,Bool.or_self]
  |_=>intro _;rfl
 simp [AV.dJ,key x h]
theorem gZ (id:Nat):∀ (l:List AV) (i:Nat),(AV.ct id l)[i]?=l[i]?.map (AV.dJ id)
 |[],i=>by simp [AV.ct]
 |x::l,0=>by simp [AV.ct]
 |x::l,i+1=>by simp [AV.ct,gZ id l i]
theorem da (id:Nat) (l:List AV):(AV.ct id l).length=l.length:=by
 induction l with
 |nil=>rfl
 |cons x l ih=>simp [AV.ct,ih]
theorem r9 (id:Nat) (l:List AV):AV.ct id l=l.map (AV.dJ id):=by
 induction l with
 |nil=>rfl
 |cons x l ih=>simp [AV.ct,ih]
theorem pS {α:Type} (id:Nat) (f:α→AV) (xs:List α) (h:∀ a,(f a).fm=true):AV.ct id (xs.map f)=xs.map f:=by
 induction xs with
 |nil=>rfl
 |cons x l ih=>simp [AV.ct,ih,nc (h x)]
theorem pA (id:Nat) (a b:List AV):AV.ct id (a++b)=AV.ct id a++AV.ct id b:=by
 induction a with
 |nil=>rfl
 |cons x l ih=>simp [AV.ct,ih]
theorem kE {id:Nat} {l:List AV} (h:AV.cj l=true):AV.ct id l=l:=by
 induction l with
 |nil=>rfl
 |cons x l ih=>simp only [AV.cj,Bool.and_eq_true] at h;simp [AV.ct,ih h.2,nc h.1]
theorem dK {α:Type} (f:α→AV) (xs:List α) (h:∀ a,(f a).fm=true):AV.cj (xs.map f)=true:=by
 induction xs with
 |nil=>rfl
 |cons x l ih=>simp [AV.cj,ih,h x]
theorem nZ (a b:List AV):AV.cj (a++b)=(AV.cj a&&AV.cj b):=by
 induction a with
 |nil=>rfl
 |cons x l ih=>simp [AV.cj,ih,Bool.and_assoc]
theorem eH (id:Nat) (hp:Hp) (i:Nat):aW (dZ id hp) i=if id=i then none else (aW hp i).map fun b=>{b with cs:=AV.ct id b.cs}:=by
 induction hp with
 |nil=>simp [dZ,aW]
 |cons p r ih=>
  obtain ⟨j,b⟩:=p
  by_cases hj:j=id
  ·subst hj
   simp only [dZ,if_true,ih,aW]
   split<;>rfl
  ·simp only [dZ,hj,if_false,aW,ih]
   by_cases hji:j=i
   ·subst hji;simp [Ne.symm hj]
   ·simp [hji]
theorem ou {id i:Nat} {hp:Hp} (h:(aW (dZ id hp) i).isSome):(aW hp i).isSome∧i≠id:=by
 rw [eH] at h
 split at h
 ·simp at h
 ·rename_i hne;exact ⟨by simpa using h,Ne.symm hne⟩
theorem iy.dJ {β:cM} {hp:Hp} (h:iy β hp) {id:Nat} (k:BK):iy (β.set id k) (dZ id hp):=h.ext fun i _ hi=>by
 obtain ⟨h1,h2⟩:=ou hi
 exact ⟨h1,by simp [cM.set,h2]⟩
theorem uA {G:bE} {β:cM} {sz bw id off n:Nat} {v:Value} (h:Conc G β (.sl sz bw id off n) v):β id= .nil∨∃ b t,β id= .at b t:=by
 cases h with
 |j5 h=>exact .inl h
 |sl h=>exact .inr ⟨_,_,h⟩
theorem Conc.jY {G:bE} {β β':cM} {x:AV} {y:Value} {id:Nat} (h:Conc G β x y) (hβ:∀ i,i≠id→β' i=β i):Conc G β' (AV.dJ id x) y:=by
 unfold AV.dJ
 split
 ·exact .any
 ·rename_i hm
  exact h.ext (fun i hi=>hβ i (by rintro rfl;exact hm hi)) (fun _ _ h=>h)
theorem eE.xE {R:Rg} {β:cM} {G:bE} {s:St} {a:Act} {w w':World} (h:eE R β G s a w) {id:Nat} {row:Option Nat} (hg:w.grownBy w' row)
  (hrow:∀ b,row=some b→∃ t,β id= .at b t) (hid:(aW s.hp id).isSome) (hlt:id≤999999999) (k:BK) (bk:fZ)
  (hbk:match k with| .no=>False| .gh _=>False| .nil=>bk.cs=[]∧bk.full=false| .at b t=>(row=some b∨w.heap.size≤b)∧∃ arr:Array Value,w'.heap[b]?=some (.cells arr bk.T (0,0))∧arr.size=t∧bk.cs.length≤t∧
   (bk.full=true→bk.cs.length=t)∧∀ (j:Nat) x y,bk.cs[j]?=some x→arr[j]?=some y→Conc G (β.set id k) x y) :
  eE R (β.set id k) G ⟨AV.ct id s.fr,cK (dZ id s.hp) id bk⟩ a w':=by
 obtain ⟨bk0,hbk0⟩:=Option.isSome_iff_exists.1 hid
 have hself:(β.set id k) id=k:=by simp [cM.set]
 have hoth:∀ i,i≠id→(β.set id k) i=β i:=fun i hi=>by simp [cM.set,hi]
 have hrb:∀ b,row=some b→G b=none∧(R.w0.heap.size≤b∨R.ex b)∧b < w.heap.size:=fun b hb=>by
  obtain ⟨t,ht⟩:=hrow b hb
  obtain ⟨g1,g2,arr,g3,_⟩:=h.hp.block hbk0 ht
  exact ⟨g1,g2,cN g3⟩
 have hgs:∀ b o,G b=some o→b < w.heap.size∧w'.heap[b]?=some o:=fun b o hb=>by
  have h1:=h.hp.gs b o hb
  refine ⟨cN h1,?_⟩
  rw [hg.block b (cN h1) (fun e=>by have:=(hrb b e.symm).1;rw [hb] at this;cases this)]
  exact h1
 refine ⟨h.defers,by rw [da];exact h.size,fun i x y hx hy=>?_,⟨fun b o hb=>(hgs b o hb).2,fun i bk' hi=>?_,fun i j b t t' hi hj hbi hbj=>?_,?_,h.hp.js,h.hp.jv.set _ hlt,h.hp.ga.DN _ aj fun i hne hi=>by
  rw [cE,if_neg (Ne.symm hne)] at hi
  exact (ou hi).1⟩⟩
 ·rw [gZ,Option.map_eq_some_iff] at hx
  obtain ⟨x0,hx0,rfl⟩:=hx
  exact (h.fr i x0 y hx0 hy).jY hoth
 ·rw [cE] at hi
  by_cases hid':id=i
  ·subst hid'
   simp only [if_true,Option.some.injEq] at hi
   subst hi
   unfold bW
   rw [hself]
   cases k with
   |no=>exact hbk
   |gh o=>exact hbk.elim
   |nil=>exact hbk
   |«at» b t=>
    obtain ⟨hb,arr,e1,e2,e3,e4,e5⟩:=hbk
    refine ⟨?_,?_,arr,e1,e2,e3,e4,e5⟩
    ·rcases hb with hb|hb
     ·exact (hrb b hb).1
     ·cases hq:G b with
      |none=>rfl
      |some o=>exact absurd (hgs b o hq).1 aj
    ·rcases hb with hb|hb
     ·exact (hrb b hb).2.1
     ·exact .inl (Nat.le_trans h.hp.keeps.size hb)
  ·simp only [hid',if_false,eH,Option.map_eq_some_iff] at hi
   obtain ⟨bk1,hi1,rfl⟩:=hi
   have:=h.hp.blk i bk1 hi1
   unfold bW at this ⊢
   rw [hoth i (Ne.symm hid')]
   cases hβ:β i with
   |no=>rw [hβ] at this;exact this
   |nil=>rw [hβ] at this;exact ⟨by rw [this.1];rfl,this.2⟩
   |«at» b t=>
    rw [hβ] at this
    obtain ⟨g1,g2,arr',g3,g4,g5,g6,g7⟩:=this
    refine ⟨g1,g2,arr',?_,g4,by simpa [da] using g5,by simpa [da] using g6,fun j x y hx hy=>?_⟩
    ·rw [hg.block b (cN g3) (fun e=>by
      obtain ⟨t',ht'⟩:=hrow b e.symm
      exact hid' (h.hp.inj id i b t' t hid (by rw [hi1];rfl) ht' hβ))]
     exact g3
    ·simp only [gZ,Option.map_eq_some_iff] at hx
     obtain ⟨x0,hx0,rfl⟩:=hx
     exact (g7 j x0 y hx0 hy).jY hoth
   |gh o=>rw [hβ] at this;exact oP this (fun _ _ h=>h) (AV.dJ id) (fun x _ y hc=>hc.jY hoth) _ (r9 _ _)
 ·have key:∀ i b t,i≠id→(aW (cK (dZ id s.hp) id bk) i).isSome→(β.set id k) i= .at b t→(aW s.hp i).isSome∧β i= .at b t∧b < w.heap.size:=by
   intro i b t hne his hbi
   rw [cE,if_neg (Ne.symm hne),eH,if_neg (Ne.symm hne)] at his
   rw [hoth i hne] at hbi
   obtain ⟨bk1,hb1⟩:=Option.isSome_iff_exists.1 his
   rw [Option.map_eq_some_iff] at hb1
   obtain ⟨bk2,hb2,_⟩:=hb1
   obtain ⟨_,_,arr',g3,_⟩:=h.hp.block hb2 hbi
   exact ⟨by rw [hb2];rfl,hbi,cN g3⟩
  have own:∀ b t,k= .at b t→row=some b∨w.heap.size≤b:=by
   intro b t hk;subst hk;exact hbk.1
  by_cases hi':i=id
  ·by_cases hj':j=id
   ·rw [hi',hj']
   ·exfalso
    subst hi'
    rw [hself] at hbi
    obtain ⟨k1,k2,k3⟩:=key j b t' hj' hj hbj
    rcases own b t hbi with hb|hb
    ·obtain ⟨t0,ht0⟩:=hrow b hb
     exact hj' (h.hp.inj i j b t0 t' hid k1 ht0 k2).symm
    ·omega
  ·by_cases hj':j=id
   ·exfalso
    subst hj'
    rw [hself] at hbj
    obtain ⟨k1,k2,k3⟩:=key i b t hi' hi hbi
    rcases own b t' hbj with hb|hb
    ·obtain ⟨t0,ht0⟩:=hrow b hb
     exact hi' (h.hp.inj j i b t0 t hid k1 ht0 k2).symm
    ·omega
   ·obtain ⟨a1,a2,_⟩:=key i b t hi' hi hbi
    obtain ⟨b1,b2,_⟩:=key j b t' hj' hj hbj
    exact h.hp.inj i j b t t' a1 b1 a2 b2
 ·have hk:=h.hp.keeps
  refine ⟨hg.os.trans hk.os,hg.tape.trans hk.tape,hg.output.trans hk.output,Nat.le_trans hk.size hg.size,fun j h1 h2=>?_⟩
  rw [hg.block j (Nat.lt_of_lt_of_le h1 hk.size) (fun e=>by rcases (hrb j e.symm).2.1 with h3|h3;omega;exact h2 h3)]
  exact hk.block j h1 h2
theorem lH (w:World) (t ty e:TypeId) (i:TypeInfo) (ht:P.underlying t=some (.slice e)) (hi:P.info? e=some i)
  (A:Option Addr) (n cap c:Nat) (hA:A=none→n=0∧cap=0) (hn:n≤cap):(Builtin.append_ #[t,t] ty #[.slice A n cap,.slice none 0 c]).run P w= .ok (.slice A n cap) w:=by
 cases A with
 |none=>obtain ⟨rfl,rfl⟩:=hA rfl;simp [Builtin.append_,run_underlying ht,sizeOf,typeInfo,hi,Builtin.lenOf,Builtin.firstCells]
 |some a=>simp [Builtin.append_,run_underlying ht,sizeOf,typeInfo,hi,Builtin.lenOf,Builtin.firstCells,hn,storeCells]
def wy (es:List AV):Prop:=∀ e∈es,iz e.cells=true
theorem DL {x:AV} (h:iz x.cells=true):wy [x]:=by intro e he;simp at he;subst he;exact h
theorem DM {α:Type} {f:α→AV} {xs:List α} (h:∀ a,iz (f a).cells=true):wy (xs.map f):=by
 intro e he;obtain ⟨a,_,rfl⟩:=List.mem_map.1 he;exact h a
theorem Bc {es:List AV} (h:wy es) {j:Nat} {x:AV} (hx:(es.flatMap AV.cells)[j]?=some x):x.one=true:=by
 obtain ⟨e,he,hx'⟩:=List.mem_flatMap.1 (List.mem_of_getElem? hx)
 obtain ⟨i,hi⟩:=List.getElem?_of_mem hx'
 exact nw (h e he) hi
theorem ux {d:Tmp} {t el:TypeId} {x y:Operand} {sz bw id n:Nat} {z:Value} {bk:fZ} {es:List AV} {ty:TypeId} {pos:String} {bC:Array Edge} {g:Option (Nat×Bool)} {s:St} {K:St→Prop}
  [hu:cJ P t (.slice el)] [hi:dm P el z sz bw]
  (hx:s.eval x= .sl sz bw id 0 n) (hb:aW s.hp id=some bk) (hT:bk.T=el) (hl:bk.cs.length=n * sz) (hy:s.eval y= .cr sz bw es) (h1:wy es)
  (hz:z.cells.size=sz) (hs:0 < sz) (hw:0 < bw) (hbytes:(n+es.length) * bw≤140737488355328)
  (hk:K ⟨(AV.ct id s.fr).set d (.sl sz bw id 0 (n+es.length)),cK (dZ id s.hp) id ⟨el,AV.ct id bk.cs++es.flatMap AV.cells,false⟩⟩) :
  eR P ⟨some d,.call {callee:=.builtin .append,args:=#[x,y],argTypes:=#[t,t]},ty,pos,bC,g⟩ s K:=by
 intro R β G a w Q hr
 have e1:=hr.eval x;rw [hx] at e1
 have e2:=hr.eval y;rw [hy] at e2
 generalize hxv:a.eval x=vx at e1
 generalize hyv:a.eval y=vy at e2
 have hlt:id≤999999999:=hr.hp.jv id (uA e1)
 obtain ⟨i0,hi0,hz0,hs0,hb0⟩:=hi.ok
 have hexec:∀ r w',(Builtin.append_ #[t,t] ty #[vx,vy]).run P w= .ok r w'→(execOp a.eval ⟨some d,.call {callee:=.builtin .append,args:=#[x,y],argTypes:=#[t,t]},ty,pos,bC,g⟩).run P w= .ok (.value r) w':=by
  intro r w' h
  simp [execOp,resolve,invoke,builtin,hxv,hyv,h]
 have hmax:n+es.length≤maxLen:=by
  have h2:(n+es.length) * 1≤(n+es.length) * bw:=Nat.mul_le_mul_left _ hw
  simp only [maxLen];omega
 cases e2 with
 |@cr _ _ _ _ A c ys hu' hl' hc hbb hA hrd hsc=>
  have hyl:ys.length=es.length * sz:=hl'
  have hflat:(es.flatMap AV.cells).length=ys.length:=by rw [jb hu',hyl]
  have hones:∀ u∈ys,u.oneCell'=true:=fun u hm=>by
   obtain ⟨j,hj⟩:=List.getElem?_of_mem hm
   have hjl:j < (es.flatMap AV.cells).length:=by rw [hflat];exact bS hj
   exact (hsc j _ u (List.getElem?_eq_getElem hjl) hj).one (Bc h1 (List.getElem?_eq_getElem hjl))
  have hcells:∀ ad,A=some ad→∀ (j:Nat) u,ys[j]?=some u→w.cell? (ad.add j)=some u:=fun ad had j u hj=>by
   obtain ⟨a',ha',hg'⟩:=hrd j u hj
   rw [had] at ha';injection ha' with ha';subst ha'
   exact lX hr.hp (Below.refl _ _) hg'
  have hβne:β id≠.no:=fun e=>by have:=hr.hp.blk id bk hb;unfold bW at this;rw [e] at this;exact this
  have newcells:∀ (arr0:Array Value) (arr:Array Value) (k:BK),(∀ (j:Nat) x y,bk.cs[j]?=some x→arr0[j]?=some y→Conc G β x y)→bk.cs.length≤arr0.size→
    arr.toList.take ((n+es.length) * sz)=arr0.toList.take (n * sz)++ys→∀ (j:Nat) x y,(AV.ct id bk.cs++es.flatMap AV.cells)[j]?=some x→arr[j]?=some y→Conc G (β.set id k) x y:=by
   intro arr0 arr k h0 h0l htake j x' y' hx' hy'
   have hjl:j < n * sz+ys.length:=by have:=bS hx';simp [da,hl,hflat] at this;exact this
   have hy2:(arr0.toList.take (n * sz)++ys)[j]?=some y':=by
    rw [← htake,List.getElem?_take,if_pos (by rw [Nat.add_mul,← hyl];exact hjl)]
    simpa using hy'
   have hlen0:(arr0.toList.take (n * sz)).length=n * sz:=by simp;omega
   by_cases hj:j < n * sz
   ·rw [List.getElem?_append_left (by rw [da,hl];exact hj),gZ,Option.map_eq_some_iff] at hx'
    obtain ⟨x0,hx0,rfl⟩:=hx'
    rw [List.getElem?_append_left (by rw [hlen0];exact hj),List.getElem?_take,if_pos hj] at hy2
    exact (h0 j x0 y' hx0 (by simpa using hy2)).jY (fun i hi=>by simp [cM.set,hi])
   ·rw [List.getElem?_append_right (by rw [da,hl];omega),da,hl] at hx'
    rw [List.getElem?_append_right (by rw [hlen0];omega),hlen0] at hy2
    exact (hsc _ x' y' hx' hy2).free _
  have fin:∀ (v':Value) (w':World) (row:Option Nat) (arr0:Array Value),(Builtin.append_ #[t,t] ty #[vx,.slice A es.length c]).run P w= .ok v' w'→w.grownBy w' row→(∀ b,row=some b→∃ t,β id= .at b t)→
    (∀ (j:Nat) x y,bk.cs[j]?=some x→arr0[j]?=some y→Conc G β x y)→bk.cs.length≤arr0.size→
    w'.ownsRow R.w0.heap.size el sz v' (n+es.length) (arr0.toList.take (n * sz)++ys)∨(∃ b tt cap cur,v'= .slice (some ⟨b,0,none⟩) (n+es.length) cap∧row=some b∧w'.heap[b]?=some (.cells cur el (0,0))∧n+es.length≤cap∧cap≤maxLen∧cur.size=cap * sz∧cur.size=tt∧cur.toList.take ((n+es.length) * sz)=arr0.toList.take (n * sz)++ys)→
    (∀ b,v'.ownBlock=some b→row=some b∨w.heap.size≤b)→RK R K (a.put (some d) v') w':=by
   intro v' w' row arr0 hrun hgrow hrow h0 h0l hown hat
   have hown':(v'= .slice none 0 0∧n+es.length=0)∨∃ b cap cur,v'= .slice (some ⟨b,0,none⟩) (n+es.length) cap∧w'.heap[b]?=some (.cells cur el (0,0))∧n+es.length≤cap∧cap≤maxLen∧cur.size=cap * sz∧cur.toList.take ((n+es.length) * sz)=arr0.toList.take (n * sz)++ys:=by
    rcases hown with hown|⟨b,tt,cap,cur,h1,h2,h3,h4,h5,h6,h7,h8⟩
    ·rcases hown.2 with ⟨h1,h2⟩|⟨b,cap,cur,h1,h2,h3,h4,h5,h6,h7⟩
     ·exact .inl ⟨h1,h2⟩
     ·exact .inr ⟨b,cap,cur,h1,h3,h4,h5,h6,h7⟩
    ·exact .inr ⟨b,cap,cur,h1,h3,h4,h5,h6,h8⟩
   rcases hown' with ⟨hv,hn0⟩|⟨b,cap,cur,hv,hcur,hcap,hcm,hcs,htake⟩
   ·have hn:n=0:=by omega
    have hel:es.length=0:=by omega
    have hes:es=[]:=List.eq_nil_of_length_eq_zero hel
    have hbk:bk.cs=[]:=List.eq_nil_of_length_eq_zero (by rw [hl,hn];simp)
    have hrep:=hr.xE (id:=id) hgrow hrow (by rw [hb];rfl) hlt .nil ⟨el,AV.ct id bk.cs++es.flatMap AV.cells,false⟩ ⟨by simp [hbk,hes,AV.ct],rfl⟩
    refine ⟨_,_,_,hk,hrep.put (some d) ?_⟩
    rw [hv,hn0]
    exact .j5 aG
   ·have hrep:=hr.xE (id:=id) hgrow hrow (by rw [hb];rfl) hlt (.at b cur.size) ⟨el,AV.ct id bk.cs++es.flatMap AV.cells,false⟩
     ⟨hat b (by rw [hv];rfl),cur,hcur,rfl,by
      simp only [List.length_append,da,hl,hflat,hyl,hcs,← Nat.add_mul]
      exact Nat.mul_le_mul_right _ hcap,(fun h=>by cases h),newcells arr0 cur _ h0 h0l htake⟩
    refine ⟨_,_,_,hk,hrep.put (some d) ?_⟩
    rw [hv]
    exact .sl (t:=cur.size) aG hcap (by rw [hcs];omega) hcm hbytes
  unfold Oper.wp
  cases e1 with
  |j5 hβ=>
   have hbk:bk.cs=[]:=by have:=hr.hp.blk id bk hb;unfold bW at this;rw [hβ] at this;exact this.1
   cases A with
   |none=>
    have hel:es.length=0:=by
     rcases Nat.eq_zero_or_pos es.length with h|h
     ·exact h
     ·exact absurd rfl (hA h)
    have hrun:=lH (P:=P) w t ty el i0 hu.ok hi0 none 0 0 c (fun _=>⟨rfl,rfl⟩) (Nat.le_refl _)
    rw [hel] at hexec
    rw [hexec _ _ hrun,Oper.upon_value]
    have hy0:ys=[]:=List.eq_nil_of_length_eq_zero (by rw [hyl,hel];simp)
    exact fin _ w none #[] (by rw [hel];exact hrun) ⟨rfl,rfl,rfl,Nat.le_refl _,fun _ _ _=>rfl⟩ (fun _ h=>by cases h) (by simp [hbk]) (by simp [hbk])
     (.inl ⟨by simp [hy0,hel],.inl ⟨rfl,by simp [hel]⟩⟩) (fun b h=>by cases h)
   |some ad=>
    obtain ⟨v',w',hrun,hown,hgr,_,hat⟩:=run_append_own_at (P:=P) w R.w0.heap.size t ty el i0 z sz bw hu.ok hi0 hz0 hs0 hb0 hz hs (.slice none 0 0) 0 [] (World.ownsRow_nil _ _ _ _) ad es.length c ys hyl (hcells ad rfl) hones hmax hbytes hr.hp.keeps.size
    rw [hexec _ _ hrun,Oper.upon_value]
    exact fin v' w' none #[] hrun hgr (fun _ h=>by cases h) (by simp [hbk]) (by simp [hbk]) (.inl (by simpa using hown)) (fun b h=>by
     rcases hat with h'|h'
     ·rw [h'] at h;cases h
     ·rw [h'] at h;injection h with h;exact .inr aj)
  |@sl _ _ _ _ _ _ cap b tt hβ hn ht hm hbw=>
   obtain ⟨g1,g2,arr,g3,g4,g5,g6,g7⟩:=hr.hp.block hb hβ
   have hrow:∀ b',some b=some b'→∃ t,β id= .at b' t:=fun b' h=>by injection h with h;subst h;exact ⟨tt,hβ⟩
   have hcs:arr.size=cap * sz:=by rw [g4,← ht];omega
   cases A with
   |none=>
    have hel:es.length=0:=by
     rcases Nat.eq_zero_or_pos es.length with h|h
     ·exact h
     ·exact absurd rfl (hA h)
    have hrun:=lH (P:=P) w t ty el i0 hu.ok hi0 (some ⟨b,0,none⟩) n cap c (fun h=>by cases h) hn
    rw [hel] at hexec
    rw [hexec _ _ hrun,Oper.upon_value]
    have hy0:ys=[]:=List.eq_nil_of_length_eq_zero (by rw [hyl,hel];simp)
    exact fin _ w (some b) arr (by rw [hel];exact hrun) ⟨rfl,rfl,rfl,Nat.le_refl _,fun _ _ _=>rfl⟩ hrow g7 aj
     (.inr ⟨b,tt,cap,arr,by rw [hel];rfl,rfl,by rw [← hT];exact g3,by omega,hm,hcs,g4,by rw [hel,hy0];simp⟩) (fun b' h=>.inl h)
   |some ad=>
    have hown0:w.ownsRow 0 el sz (.slice (some ⟨b,0,none⟩) n cap) n (arr.toList.take (n * sz)):=
     ⟨by simp;omega,.inr ⟨b,cap,arr,rfl,Nat.zero_le _,by rw [← hT];exact g3,hn,hm,hcs,rfl⟩⟩
    obtain ⟨v',w',hrun,hown,hgr,_,hat⟩:=run_append_own_at (P:=P) w 0 t ty el i0 z sz bw hu.ok hi0 hz0 hs0 hb0 hz hs _ n _ hown0 ad es.length c ys hyl (hcells ad rfl) hones hmax hbytes (Nat.zero_le _)
    rw [hexec _ _ hrun,Oper.upon_value]
    have hat':∀ b',v'.ownBlock=some b'→some b=some b'∨w.heap.size≤b':=fun b' h=>by
     rcases hat with h'|h'
     ·rw [h'] at h;exact .inl h
     ·rw [h'] at h;injection h with h;exact .inr aj
    rcases hown.2 with ⟨h1',h2'⟩|⟨b',cap',cur',h1',h2',h3',h4',h5',h6',h7'⟩
    ·exact fin v' w' (some b) arr hrun hgr hrow g7 aj (.inl ⟨hown.1,.inl ⟨h1',h2'⟩⟩) hat'
    ·rcases hat' b' (by rw [h1'];rfl) with hbb'|hbb'
     ·injection hbb' with hbb';subst hbb'
      exact fin v' w' (some b) arr hrun hgr hrow g7 aj (.inr ⟨b,cur'.size,cap',cur',h1',rfl,h3',h4',h5',h6',rfl,h7'⟩) hat'
     ·exact fin v' w' (some b) arr hrun hgr hrow g7 aj (.inl ⟨hown.1,.inr ⟨b',cap',cur',h1',Nat.le_trans hr.hp.keeps.size hbb',h3',h4',h5',h6',h7'⟩⟩) hat'
end Go.Ab
namespace Go.Ab
open Go.RowKit
variable {P:Program}
section float
variable {ops:Array Oper} {Q:Exit→Act→World→Prop}
def early (ops:Array Oper) (hs:List Nat) (i:Nat):Bool:=hs.any fun k=>!((Region.before ops).getD i 0).testBit k
def DE (P:Program) (ops:Array Oper) (Q:Exit→Act→World→Prop) (hs:List Nat):Nat→Array Bool→Act→World→Prop
 |0,listed,a,w=>Region.ready .any ops listed=[]∧Q .normal a w
 |f+1,listed,a,w=>(Region.ready .any ops listed=[]→Q .normal a w)∧
  ∀ i∈Region.ready .any ops listed,wpOp P ops Q i (fun a' w'=>(early ops hs i=true→Ext w w')∧DE P ops Q hs f (listed.setIfInBounds i true) a' w') a w
theorem y4 {hs:List Nat}:∀ (f:Nat) (listed:Array Bool) (a:Act) (w:World),DE P ops Q hs f listed a w→wpAny P .any ops Q f listed a w
 |0,_,_,_,h=>h
 |f+1,_,_,_,h=>⟨h.1,fun i hi=>wpOp_mono (fun a' w' h'=>y4 f _ a' w' h'.2) (h.2 i hi)⟩
theorem wB (acc:Nat→Nat) (k:Nat):∀ (l:List Edge) (x:Nat),(l.foldl (fun s e=>if Region.binds .any e then s||| 2 ^ e.on||| acc e.on else s) x).testBit k=true→
  x.testBit k=true∨∃ e∈l,Region.binds .any e=true∧(e.on=k∨(acc e.on).testBit k=true)
 |[],x,h=>.inl h
 |e::l,x,h=>by
  simp only [List.foldl_cons] at h
  rcases wB acc k l _ h with h1|⟨e',he',hb,h1⟩
  ·by_cases hb:Region.binds .any e=true
   ·simp only [hb,if_true,Nat.testBit_or,Nat.testBit_two_pow,Bool.or_eq_true,decide_eq_true_eq] at h1
    rcases h1 with (h1|h1)|h1
    ·exact .inl h1
    ·exact .inr ⟨e,by simp,hb,.inl h1⟩
    ·exact .inr ⟨e,by simp,hb,.inr h1⟩
   ·simp only [hb,Bool.false_eq_true,if_false] at h1
    exact .inl h1
  ·exact .inr ⟨e',by simp [he'],hb,h1⟩
theorem ov (ops:Array Oper):(Region.before ops).size=ops.size∧∀ (j:Nat) o,ops[j]?=some o→∀ k,((Region.before ops).getD j 0).testBit k=true→
  ∃ e∈o.after,Region.binds .any e=true∧(e.on=k∨(e.on < j∧((Region.before ops).getD e.on 0).testBit k=true)):=by
 have key:∀ (l:List Oper) (acc:Array Nat) (pre:List Oper),acc.size=pre.length→
   (∀ (j:Nat) o,pre[j]?=some o→∀ k,(acc.getD j 0).testBit k=true→∃ e∈o.after,Region.binds .any e=true∧(e.on=k∨(e.on < j∧(acc.getD e.on 0).testBit k=true)))→
   let r:=l.foldl (fun acc o=>acc.push (o.after.foldl (fun s e=>if Region.binds .any e then s||| 2 ^ e.on||| acc.getD e.on 0 else s) 0)) acc
   r.size=(pre++l).length∧(∀ i,i < acc.size→r.getD i 0=acc.getD i 0)∧∀ (j:Nat) o,(pre++l)[j]?=some o→∀ k,(r.getD j 0).testBit k=true→∃ e∈o.after,Region.binds .any e=true∧(e.on=k∨(e.on < j∧(r.getD e.on 0).testBit k=true)):=by
  intro l
  induction l with
  |nil=>intro acc pre hs hp;exact ⟨by simpa using hs,fun _ _=>rfl,by simpa using hp⟩
  |cons o l ih=>
   intro acc pre hs hp
   simp only [List.foldl_cons]
   generalize hv:o.after.foldl (fun s e=>if Region.binds .any e then s||| 2 ^ e.on||| acc.getD e.on 0 else s) 0=v
   have hpush:∀ i,i < acc.size→(acc.push v).getD i 0=acc.getD i 0:=fun i hi=>by
    simp only [Array.getD_eq_getD_getElem?,Array.getElem?_push,Nat.ne_of_lt hi,if_false]
   have hlast:(acc.push v).getD acc.size 0=v:=by simp [Array.getD_eq_getD_getElem?]
   have hge:∀ i,acc.size≤i→acc.getD i 0=0:=fun i hi=>by simp [Array.getD_eq_getD_getElem?,Array.getElem?_eq_none hi]
   have hmono:∀ i k,(acc.getD i 0).testBit k=true→((acc.push v).getD i 0).testBit k=true:=fun i k h=>by
    rcases Nat.lt_or_ge i acc.size with hi|hi
    ·rw [hpush i hi];exact h
    ·rw [hge i hi] at h;simp at h
   have hp':∀ (j:Nat) o',(pre++[o])[j]?=some o'→∀ k,((acc.push v).getD j 0).testBit k=true→∃ e∈o'.after,Region.binds .any e=true∧(e.on=k∨(e.on < j∧((acc.push v).getD e.on 0).testBit k=true)):=by
    intro j o' ho' k hk
    rcases Nat.lt_or_ge j pre.length with hj|hj
    ·rw [List.getElem?_append_left hj] at ho'
     rw [hpush j aj] at hk
     obtain ⟨e,he,hb,h⟩:=hp j o' ho' k hk
     exact ⟨e,he,hb,h.imp id (fun h=>⟨h.1,hmono _ _ h.2⟩)⟩
    ·rw [List.getElem?_append_right hj] at ho'
     have hj0:j - pre.length=0:=by have:=bS ho';simp at this;omega
     rw [hj0] at ho'
     simp at ho';subst ho'
     have hje:j=acc.size:=by omega
     rw [hje,hlast,← hv,← Array.foldl_toList] at hk
     rcases wB (fun i=>acc.getD i 0) k o.after.toList 0 hk with h|⟨e,he,hb,h⟩
     ·simp at h
     ·refine ⟨e,by simpa using he,hb,h.imp id (fun h=>⟨?_,hmono _ _ h⟩)⟩
      rcases Nat.lt_or_ge e.on acc.size with h'|h'
      ·omega
      ·rw [hge _ h'] at h;simp at h
   obtain ⟨h1,h2,h3⟩:=ih (acc.push v) (pre++[o]) (by simp [hs]) hp'
   refine ⟨by simpa using h1,fun i hi=>by rw [h2 i aE,hpush i hi],by simpa using h3⟩
 have:=key ops.toList #[] [] rfl (fun j o h=>by simp at h)
 simp only [Region.before]
 rw [← Array.foldl_toList]
 refine ⟨by simpa using this.1,fun j o ho=>this.2.2 j o (by simpa using ho)⟩
theorem nS {listed:Array Bool} (hc:∀ j oj,ops[j]?=some oj→listed.getD j false=true→∀ e∈oj.after,Region.binds .any e=true→listed.getD e.on false=true)
  {k:Nat} (hk:listed.getD k false=false):∀ (n j:Nat) (oj:Oper),n=j→ops[j]?=some oj→(∀ e∈oj.after,Region.binds .any e=true→listed.getD e.on false=true)→((Region.before ops).getD j 0).testBit k=false:=by
 intro n
 induction n using Nat.strongRecOn with
 |_ n ih=>
  intro j oj hn ho hall
  subst hn
  cases hb:((Region.before ops).getD n 0).testBit k with
  |false=>rfl
  |true=>
   exfalso
   obtain ⟨e,he,hbi,h⟩:=(ov ops).2 n oj ho k hb
   have hl:=hall e he hbi
   rcases h with rfl|⟨hlt,h⟩
   ·rw [hk] at hl;cases hl
   ·cases hoe:ops[e.on]? with
    |none=>
     have:(Region.before ops).getD e.on 0=0:=by
      have h1:=(ov ops).1
      have h2:ops.size≤e.on:=by
       rcases Nat.lt_or_ge e.on ops.size with h'|h'
       ·rw [Array.getElem?_eq_getElem h'] at hoe;cases hoe
       ·exact h'
      simp [Array.getD_eq_getD_getElem?,Array.getElem?_eq_none (by rw [h1];exact h2)]
     rw [this] at h;simp at h
    |some oe=>
     have:=ih e.on hlt e.on oe rfl hoe (hc e.on oe hoe hl)
     rw [this] at h;cases h
def gM (P:Program) (ops:Array Oper) (w0:World) (o:Oper) (v:Value) (a:Act):Prop:=
 (Region.wanted o (yielded ops a.tmps)=true∧∀ w,Ext w0 w→(execOp a.eval o).run P w= .ok (.value v) w)∨
 (Region.wanted o (yielded ops a.tmps)=false∧v=undef)
theorem gM.wpOp {w0:World} {i:Nat} {o:Oper} {v:Value} {a:Act} (hi:ops[i]?=some o) (hy:gM P ops w0 o v a)
  {K:Act→World→Prop} {w:World} (he:Ext w0 w) (h:K (a.put o.dst v) w):wpOp P ops Q i K a w:=by
 unfold Go.wpOp
 simp only [hi]
 rcases hy with ⟨hw,hv⟩|⟨hw,rfl⟩
 ·simp only [hw,if_true,Oper.wp,hv w he,Oper.upon];exact .inl h
 ·simp only [hw,Bool.false_eq_true,if_false];exact h
theorem gM.of_same {w0:World} {o:Oper} {v:Value} {a a':Act} (hy:gM P ops w0 o v a) (he:execOp a'.eval o=execOp a.eval o)
  (hw:Region.wanted o (yielded ops a'.tmps)=Region.wanted o (yielded ops a.tmps)):gM P ops w0 o v a':=by
 unfold gM at *
 rw [he,hw]
 exact hy
theorem DS {w0:World} {j:Nat} {oi oj:Oper} {v:Value} (hj:ops[j]?=some oj) (hap:oi.apart ops oj=true)
  (hsi:∀ cs b,oi.op≠.select cs b) (hsj:∀ cs b,oj.op≠.select cs b)
  (hQ:∀ c a w,¬Q (.panic c) a w) {K:Act→World→Prop} {a:Act} {w:World}
  (hy:gM P ops w0 oi v a) (h:wpOp P ops Q j K (a.put oi.dst v) w) :
  wpOp P ops Q j (fun a' w'=>gM P ops w0 oi v a'∧K (a'.put oi.dst v) w') a w:=by
 obtain ⟨h1,h2,h3⟩:=Oper.apart_spec hap
 have keep:∀ (a:Act),gM P ops w0 oi v a→∀ u,gM P ops w0 oi v (a.put oj.dst u):=fun a hy u=>
  hy.of_same (execOp_put oi hsi a oj.dst u h3) (wanted_put oi a oj.dst u h3)
 have keepD:∀ d,gM P ops w0 oi v {a with defers:=d::a.defers}:=fun d=>hy.of_same rfl rfl
 unfold wpOp at *
 simp only [hj] at *
 rw [wanted_put oj a oi.dst v h1] at h
 split
 ·rename_i hw
  simp only [hw,if_true] at h
  rcases h with h|⟨hasks,hlets⟩
  case inr=>exact .inr ⟨by unfold Oper.asks at *;rw [execOp_put oj hsj a oi.dst v h1] at hasks;exact hasks,hlets⟩
  refine .inl ?_
  unfold Oper.wp at *
  rw [execOp_put oj hsj a oi.dst v h1] at h
  generalize (execOp a.eval oj).run P w=r at *
  cases r with
  |ok n w'=>
   cases n<;>simp only [Oper.upon] at h ⊢
   case value u=>exact ⟨keep a hy u,by rw [← Act.put_comm a v u h2];exact h⟩
   case skip=>exact ⟨keep a hy _,by rw [← Act.put_comm a v undef h2];exact h⟩
   case defer d=>
    refine ⟨keep _ (keepD d) _,?_⟩
    rw [← Act.put_comm _ v undef h2,← Act.put_defers]
    exact h
   case enter f args=>
    refine Calls.mono h fun e w'' he=>?_
    cases e with
    |returned u=>exact ⟨keep a hy u,by rw [← Act.put_comm a v u h2];exact he⟩
    |panicked c=>exact absurd he (hQ _ _ _)
    |outgrown=>exact he
   case row row args=>exact Rows.mono h fun u w'' he=>⟨keep a hy u,by rw [← Act.put_comm a v u h2];exact he⟩
  |halt x w'=>
   cases x<;>simp only [Oper.upon] at h ⊢
   case panic u=>exact absurd h (hQ _ _ _)
 ·rename_i hw
  simp only [hw] at h
  exact ⟨keep a hy _,by rw [← Act.put_comm a v undef h2];exact h⟩
theorem xF {listed:Array Bool} {i:Nat} (h:listed.getD i true=false):listed.getD i false=false:=by
 rcases Nat.lt_or_ge i listed.size with h'|h'
 ·simp [h'] at h ⊢;exact h
 ·simp [Array.getElem?_eq_none h'] at h
def Closed (ops:Array Oper) (listed:Array Bool):Prop:=∀ j oj,ops[j]?=some oj→listed.getD j false=true→∀ e∈oj.after,Region.binds .any e=true→listed.getD e.on false=true
theorem Closed.set {listed:Array Bool} (hc:Closed ops listed) {i:Nat} (hi:i∈Region.ready .any ops listed):Closed ops (listed.setIfInBounds i true):=by
 obtain ⟨_,oi,hoi,hall⟩:=mem_ready.1 hi
 intro j oj hj hl e he hb
 by_cases hij:i=j
 ·subst hij
  have:oj=oi:=Option.some.inj (hj.symm.trans hoi)
  subst this
  exact getD_set_true (hall e he hb)
 ·rw [getD_set_ne false hij] at hl
  exact getD_set_true (hc j oj hj hl e he hb)
theorem y5 (n:Nat):Closed ops (Array.replicate n false):=by
 intro j oj _ hl
 rcases Nat.lt_or_ge j n with h|h
 ·simp [h] at hl
 ·simp [h] at hl
theorem Bd {hs:List Nat} {i:Nat} {oi:Oper} {v:Value} {w0:World} (hi:ops[i]?=some oi) (hh:i∈hs) (hsel:∀ (j:Nat) (o:Oper) cs b,ops[j]?=some o→o.op≠.select cs b)
  (hQ:∀ c a w,¬Q (.panic c) a w) :
  ∀ (fuel:Nat) (listed:Array Bool) (a:Act) (w:World),Closed ops listed→Ext w0 w→
   (∀ j oj,ops[j]?=some oj→j≠i→listed.getD j true=false→(∀ e∈oj.after,Region.binds .any e=true→e.on≠i)→oi.apart ops oj=true)→
   i∈Region.ready .any ops listed→gM P ops w0 oi v a→
   DE P ops Q hs fuel (listed.setIfInBounds i true) (a.put oi.dst v) w→DE P ops Q hs (fuel+1) listed a w:=by
 intro fuel
 induction fuel with
 |zero=>
  intro listed a w hcl hex _ hr hy H
  refine ⟨fun h=>(by rw [h] at hr;cases hr),fun j hj=>?_⟩
  by_cases hji:j=i
  ·subst hji;exact hy.wpOp hi hex ⟨fun _=>Below.refl _ _,H⟩
  ·have:=ready_mono hj hji
   rw [H.1] at this
   cases this
 |succ fuel ih=>
  intro listed a w hcl hex hfree hr hy H
  refine ⟨fun h=>(by rw [h] at hr;cases hr),fun j hj=>?_⟩
  by_cases hji:j=i
  ·subst hji;exact hy.wpOp hi hex ⟨fun _=>Below.refl _ _,H⟩
  ·have h1:=H.2 j (ready_mono hj hji)
   obtain ⟨hjun,oj,hoj,hall⟩:=mem_ready.1 hj
   have hun:=xF (mem_ready.1 hr).1
   have hnot:∀ e∈oj.after,Region.binds .any e=true→e.on≠i:=fun e he hb heq=>by
    have h1:=hall e he hb
    rw [heq,hun] at h1;cases h1
   have hearly:early ops hs j=true:=by
    have:=nS hcl hun j j oj rfl hoj hall
    simp only [early,List.any_eq_true]
    exact ⟨i,hh,by rw [this];rfl⟩
   have h2:=DS hoj (hfree j oj hoj hji hjun hnot) (fun cs b=>hsel i oi cs b hi) (fun cs b=>hsel j oj cs b hoj) hQ hy h1
   have hfree':∀ k ok,ops[k]?=some ok→k≠i→(listed.setIfInBounds j true).getD k true=false→
     (∀ e∈ok.after,Region.binds .any e=true→e.on≠i)→oi.apart ops ok=true:=fun k ok hk hki hun hno=>by
    refine hfree k ok hk hki ?_ hno
    by_cases hjk:j=k
    ·subst hjk;exact hjun
    ·rw [getD_set_ne true hjk] at hun;exact hun
   refine wpOp_mono (fun a' w' h3=>⟨h3.2.1,ih (listed.setIfInBounds j true) a' w' (hcl.set hj) ?_ hfree' (ready_mono hr (Ne.symm hji)) h3.1 ?_⟩) h2
   ·exact hex.trans ((h3.2.1 hearly).mono hex.size)
   ·rw [Array.setIfInBounds_comm _ _ hji]
    exact h3.2.2
end float
def dg (P:Program) (ops:Array Oper) (hs:List Nat) (fuel:Nat) (listed:Array Bool) (s:St) (K:St→Prop):Prop:=
 ∀ R β G a w,eE R β G s a w→Closed ops listed→DE P ops (QN R K) hs fuel listed a w
theorem eE.drew {R:Rg} {β:cM} {G:bE} {s:St} {a:Act} {w:World} (h:eE R β G s a w):eE R β G s a {w with drawn:=w.drawn+1}:=
 ⟨h.defers,h.size,h.fr,⟨h.hp.gs,h.hp.blk,h.hp.inj,⟨h.hp.keeps.os,h.hp.keeps.tape,h.hp.keeps.output,h.hp.keeps.size,h.hp.keeps.block⟩,h.hp.js,h.hp.jv,h.hp.ga⟩⟩
theorem tN {id:Nat} {l:List Oper} {s:St} {Q:Exit→St→Prop} (n:Nat) (hs:List Nat) (hn:l.length=n) (hm:P.follows .mixedOrders=true) (h:dg P l.toArray hs n (Array.replicate n false) s (Q .normal)) (hd:hJ l=true:=by rfl):AW P (.region id l.toArray true) s Q:=by
 subst hn
 intro ro ho R β G a w hr
 have h1:=y4 _ _ _ _ (h R β G a _ hr.drew (y5 _))
 exact wpIn_mono (vX hd hm (by simpa using h1)) Cw
theorem om {ops:Array Oper} {hs:List Nat} {f:Nat} {listed:Array Bool} {s:St} {K:St→Prop} (hr:Region.ready .any ops listed=[]) (h:K s):dg P ops hs f listed s K:=by
 intro R β G a w hrep _
 cases f with
 |zero=>exact ⟨hr,β,G,s,h,hrep⟩
 |succ f=>exact ⟨fun _=>⟨β,G,s,h,hrep⟩,fun i hi=>by rw [hr] at hi;cases hi⟩
theorem ow {ops:Array Oper} {hs:List Nat} {f:Nat} {listed:Array Bool} {s:St} {K:St→Prop} {o:Oper} {x:AV} (i:Nat) (hi:ops[i]?=some o)
  (hb:(Region.noSelect ops&&(Region.ready .any ops listed).contains i&&Region.free .any ops listed i&&hs.contains i)=true)
  (hy:∀ R β G a w,eE R β G s a w→∃ y,Conc G β x y∧gM P ops w o y a)
  (h:dg P ops hs f (listed.setIfInBounds i true) (s.put o.dst x) K):dg P ops hs (f+1) listed s K:=by
 simp only [Bool.and_eq_true,List.contains_iff_mem] at hb
 obtain ⟨⟨⟨h1,h2⟩,h3⟩,h4⟩:=hb
 intro R β G a w hr hcl
 obtain ⟨y,hy1,hy2⟩:=hy R β G a w hr
 refine Bd hi h4 (Region.noSelect_spec h1) (fun _ _ _ h=>h) f listed a w hcl (Below.refl _ _) (Region.free_spec hi h3) h2 hy2 ?_
 exact h R β G _ w (hr.put o.dst hy1) (hcl.set h2)
theorem DT {ops:Array Oper} {s:St} {x:AV} {d:Option Tmp} {op:Op} {ty:TypeId} {pos:String} {bC:Array Edge} (h:PV P op s x) :
  ∀ R β G a w,eE R β G s a w→∃ y,Conc G β x y∧gM P ops w ⟨d,op,ty,pos,bC,none⟩ y a:=fun R β G a w hr=>by
 obtain ⟨y,h1,h2⟩:=h R β G a w hr
 exact ⟨y,h1,.inl ⟨rfl,fun w' he=>h2 w' d ty pos bC none he⟩⟩
theorem fX {ops:Array Oper} {R:Rg} {β:cM} {G:bE} {s:St} {a:Act} {w:World} (hr:eE R β G s a w) {j t:Nat} {u:Value} (ht:(ops[j]?).bind (·.dst)=some t) (hc:s.fr[t]?=some (.v u)) :
  yielded ops a.tmps j=(match (generalizing:=false) u with| .bool b=>some b|_=>none):=by
 have hlt:t < a.tmps.size:=by rw [hr.size];exact bS hc
 have hb:=eF (hr.fr t _ _ hc (Array.getElem?_eq_getElem hlt))
 unfold yielded
 rw [ht]
 simp only [Option.bind_some,Array.getElem?_eq_getElem hlt,hb]
 cases u<;>rfl
theorem Cl {ops:Array Oper} {hs:List Nat} {f:Nat} {listed:Array Bool} {s:St} {K:St→Prop} {d:Option Tmp} {op:Op} {ty:TypeId} {pos:String} {bC:Array Edge} {x:AV} (i:Nat) (hi:ops[i]?=some ⟨d,op,ty,pos,bC,none⟩)
  (hb:(Region.noSelect ops&&(Region.ready .any ops listed).contains i&&Region.free .any ops listed i&&hs.contains i)=true)
  (hp:PV P op s x) (h:∀ K':St→Prop,(∀ s',dg P ops hs f (listed.setIfInBounds i true) s' K→K' s')→K' (s.put d x)):dg P ops hs (f+1) listed s K:=
 ow i hi hb (DT hp) (h _ fun _ h=>h)
theorem yP {ops:Array Oper} {hs:List Nat} {f:Nat} {listed:Array Bool} {s:St} {K:St→Prop} {d:Option Tmp} {op:Op} {ty:TypeId} {pos:String} {bC:Array Edge} {x:AV} {j t:Nat} {b:Bool} (i:Nat) (hi:ops[i]?=some ⟨d,op,ty,pos,bC,some (j,b)⟩)
  (hb:(Region.noSelect ops&&(Region.ready .any ops listed).contains i&&Region.free .any ops listed i&&hs.contains i)=true)
  (ht:(ops[j]?).bind (·.dst)=some t) (hc:s.fr[t]?=some (.bool b))
  (hp:PV P op s x) (h:∀ K':St→Prop,(∀ s',dg P ops hs f (listed.setIfInBounds i true) s' K→K' s')→K' (s.put d x)):dg P ops hs (f+1) listed s K:=
 ow i hi hb (fun R β G a w hr=>by
  obtain ⟨y,h1,h2⟩:=hp R β G a w hr
  have hg:=fX hr ht hc
  exact ⟨y,h1,.inl ⟨by simp [Region.wanted,hg],fun w' he=>h2 w' d ty pos bC _ he⟩⟩) (h _ fun _ h=>h)
theorem tL {ops:Array Oper} {hs:List Nat} {f:Nat} {listed:Array Bool} {s:St} {K:St→Prop} {d:Option Tmp} {op:Op} {ty:TypeId} {pos:String} {bC:Array Edge} {j t:Nat} {b:Bool} {u:Value} (i:Nat) (hi:ops[i]?=some ⟨d,op,ty,pos,bC,some (j,b)⟩)
  (hb:(Region.noSelect ops&&(Region.ready .any ops listed).contains i&&Region.free .any ops listed i&&hs.contains i)=true)
  (ht:(ops[j]?).bind (·.dst)=some t) (hc:s.fr[t]?=some (.v u)) (hu:(match u with| .bool c=>c != b|_=>true)=true)
  (h:∀ K':St→Prop,(∀ s',dg P ops hs f (listed.setIfInBounds i true) s' K→K' s')→K' (s.put d (.v undef))):dg P ops hs (f+1) listed s K:=
 ow i hi hb (fun R β G a w hr=>by
  have hg':=fX hr ht hc
  refine ⟨undef,.v,.inr ⟨?_,rfl⟩⟩
  simp only [Region.wanted,hg']
  cases u<;>simp at hu ⊢
  exact hu) (h _ fun _ h=>h)
def dz (P:Program) (o:Oper) (s:St) (K:St→Prop):Prop:=
 ∀ R β G a w Q,eE R β G s a w→o.wp P a w (fun a' w'=>Ext w w'∧RK R K a' w') Q
theorem DF {ops:Array Oper} {hs:List Nat} {f:Nat} {listed:Array Bool} {s:St} {K:St→Prop} {d:Option Tmp} {op:Op} {ty:TypeId} {pos:String} {bC:Array Edge} (i:Nat) (hi:ops[i]?=some ⟨d,op,ty,pos,bC,none⟩) (hr:Region.ready .any ops listed=[i]) (he:early ops hs i=false)
  (h:∀ K':St→Prop,(∀ s',dg P ops hs f (listed.setIfInBounds i true) s' K→K' s')→eR P ⟨d,op,ty,pos,bC,none⟩ s K'):dg P ops hs (f+1) listed s K:=by
 intro R β G a w hrep hcl
 refine ⟨fun h=>(by rw [hr] at h;cases h),fun j hj=>?_⟩
 rw [hr] at hj
 have hji:j=i:=by simpa using hj
 subst hji
 have hmem:j∈Region.ready .any ops listed:=by rw [hr];exact hj
 unfold wpOp
 simp only [hi]
 rw [if_pos (by simp [Region.wanted])]
 refine .inl (Oper.wp_mono (fun a' w' ⟨β',G',s',hs',hr'⟩=>⟨fun h=>(by rw [he] at h;cases h),hs' R β' G' a' w' hr' (hcl.set hmem)⟩) (h _ (fun _ h=>h) R β G a w _ hrep))
theorem A3 {ops:Array Oper} {hs:List Nat} {f:Nat} {listed:Array Bool} {s:St} {K:St→Prop} {d:Option Tmp} {op:Op} {ty:TypeId} {pos:String} {bC:Array Edge} (i:Nat) (hi:ops[i]?=some ⟨d,op,ty,pos,bC,none⟩) (hr:Region.ready .any ops listed=[i])
  (h:∀ K':St→Prop,(∀ s',dg P ops hs f (listed.setIfInBounds i true) s' K→K' s')→dz P ⟨d,op,ty,pos,bC,none⟩ s K'):dg P ops hs (f+1) listed s K:=by
 intro R β G a w hrep hcl
 refine ⟨fun h=>(by rw [hr] at h;cases h),fun j hj=>?_⟩
 rw [hr] at hj
 have hji:j=i:=by simpa using hj
 subst hji
 have hmem:j∈Region.ready .any ops listed:=by rw [hr];exact hj
 unfold wpOp
 simp only [hi]
 rw [if_pos (by simp [Region.wanted])]
 refine .inl (Oper.wp_mono (fun a' w' ⟨hx,β',G',s',hs',hr'⟩=>⟨fun _=>hx,hs' R β' G' a' w' hr' (hcl.set hmem)⟩) (h _ (fun _ h=>h) R β G a w _ hrep))
theorem yQ {ops:Array Oper} {hs:List Nat} {f:Nat} {listed:Array Bool} {s:St} {K:St→Prop} {d:Option Tmp} {op:Op} {ty:TypeId} {pos:String} {bC:Array Edge} {j t:Nat} {b:Bool} (i:Nat) (hi:ops[i]?=some ⟨d,op,ty,pos,bC,some (j,b)⟩) (hr:Region.ready .any ops listed=[i])
  (ht:(ops[j]?).bind (·.dst)=some t) (hc:s.fr[t]?=some (.bool b))
  (h:∀ K':St→Prop,(∀ s',dg P ops hs f (listed.setIfInBounds i true) s' K→K' s')→dz P ⟨d,op,ty,pos,bC,some (j,b)⟩ s K'):dg P ops hs (f+1) listed s K:=by
 intro R β G a w hrep hcl
 refine ⟨fun h=>(by rw [hr] at h;cases h),fun k hj=>?_⟩
 rw [hr] at hj
 have hji:k=i:=by simpa using hj
 subst hji
 have hmem:k∈Region.ready .any ops listed:=by rw [hr];exact hj
 have hgk:=fX hrep ht hc
 unfold wpOp
 simp only [hi]
 rw [if_pos (by simp [Region.wanted,hgk])]
 refine .inl (Oper.wp_mono (fun a' w' ⟨hx,β',G',s',hs',hr'⟩=>⟨fun _=>hx,hs' R β' G' a' w' hr' (hcl.set hmem)⟩) (h _ (fun _ h=>h) R β G a w _ hrep))
theorem DJ {d:Option Tmp} {f:FuncId} {args:Array Operand} {eQ:Array TypeId} {ty:TypeId} {pos:String} {bC:Array Edge} {g:Option (Nat×Bool)} {s:St} {K:St→Prop} {Q:AV→Prop} [hc:cS P f]
  (h:bg P f (cn s args) Q) (hp:AV.cj (cn s args)=true) (hk:∀ x,Q x→K (s.put d x)):dz P ⟨d,.call {callee:=.value (.func f),args,argTypes:=eQ},ty,pos,bC,g⟩ s K:=by
 intro R β G a w Q' hr
 have hrun:(execOp a.eval ⟨d,.call {callee:=.value (.func f),args,argTypes:=eQ},ty,pos,bC,g⟩).run P w= .ok (.enter f (args.map a.eval)) w:=by
  simp [execOp,resolve,Act.eval,Deferred.ofValue,invoke,hc.ok]
 unfold Oper.wp
 rw [hrun,Oper.upon_enter]
 have:=h G w (args.map a.eval).toList hr.hp.gs (nb hr args hp)
 simp only [Array.toArray_toList] at this
 refine this.mono fun e w' ⟨y,G',x,he,hQ,hcx,hd,hG',hext⟩=>?_
 subst he
 obtain ⟨G'',hr',hm⟩:=hr.later hext hG' hd
 exact ⟨hext,β,G'',_,hk x hQ,hr'.put d ((hcx.mono hm).free β)⟩
theorem dq {d:Tmp} {t el:TypeId} {len:Nat} {parts:Array (Nat×Operand)} {z:Value} {m bw:Nat} {ty:TypeId} {pos:String} {bC:Array Edge} {g:Option (Nat×Bool)} {s:St} {K:St→Prop}
  [hu:cJ P t (.slice el)] [hi:dm P el z m bw] (hsm:decide (0 < len * m)=true∧decide (len * m≤16777216)=true∧decide (len * bw≤140737488355328)=true)
  (hd:pw 0 (bJ s parts)=true) (hl:(bJ s parts).length=len) (hok:eb (fun i=>some (i * m,m)) (len * m) (bJ s parts)=true)
  (hpu:AV.cj ((bJ s parts).map (·.2))=true)
  (hk:K (s.put (some d) (.cr m bw ((bJ s parts).map (·.2))))):dz P ⟨some d,.buildSlice t len parts,ty,pos,bC,g⟩ s K:=
 nR hsm hd hl hok hpu hk
theorem mj {o:Oper} {s:St} {K:St→Prop} (h:dz P o s K):eR P o s K:=fun R β G a w Q hr=>Oper.wp_mono (fun _ _ h=>h.2) (h R β G a w Q hr)
theorem iM {d:Tmp} {t:TypeId} {z:Value} {n b:Nat} {ty:TypeId} {pos:String} {bC:Array Edge} {g:Option (Nat×Bool)} {s:St} {K:St→Prop} [hi:dm P t z n b]
  (id:Nat) (hf:s.free id=true) (hk:K ⟨s.fr.set d (.ptr id 0),cK s.hp id ⟨t,(AV.dA z).cells,true⟩⟩):dz P ⟨some d,.alloc t,ty,pos,bC,g⟩ s K:=by
 intro R β G a w Q hr
 have h1:=hr.nY hf t (AV.dA z).cells z.cells true (by rw [gn];exact Nat.le_refl _) (fun _=>gn z) (im z) (sS id z)
 have hrun:(execOp a.eval ⟨some d,.alloc t,ty,pos,bC,g⟩).run P w= .ok (.value (.pointer (some ⟨w.heap.size,0,none⟩))) (w.alloc (.cells z.cells t (0,0))):=by
  simp [execOp,Instr.alloc,nt hi,newVar,newRow]
 unfold Oper.wp
 rw [hrun,Oper.upon_value]
 exact ⟨(Below.refl _ _).alloc (Nat.le_refl _) _,_,_,_,hk,h1.put (some d) (.ptr (t:=z.cells.size) aG)⟩
theorem y6 {d:Tmp} {t:TypeId} {x:Operand} {ty:TypeId} {pos:String} {bC:Array Edge} {g:Option (Nat×Bool)} {s:St} {K:St→Prop}
  (id:Nat) (hf:s.free id=true) (h1:(s.eval x).one=true∨∃ cs,s.eval x= .agg cs) (hm:AV.bz id (s.eval x).cells=false)
  (hk:K ⟨s.fr.set d (.ptr id 0),cK s.hp id ⟨t,(s.eval x).cells,true⟩⟩):dz P ⟨some d,.box t x,ty,pos,bC,g⟩ s K:=by
 intro R β G a w Q hr
 obtain ⟨c1,c2⟩:=nv (hr.eval x) h1
 have h2:=hr.nY hf t (s.eval x).cells (a.eval x).cells true aj (fun _=>c1) c2 hm
 have hrun:(execOp a.eval ⟨some d,.box t x,ty,pos,bC,g⟩).run P w= .ok (.value (.pointer (some ⟨w.heap.size,0,none⟩))) (w.alloc (.cells (a.eval x).cells t (0,0))):=by
  simp [execOp,Instr.box,newVar,newRow]
 unfold Oper.wp
 rw [hrun,Oper.upon_value]
 exact ⟨(Below.refl _ _).alloc (Nat.le_refl _) _,_,_,_,hk,h2.put (some d) (.ptr (t:=(a.eval x).cells.size) aG)⟩
end Go.Ab
namespace Go.Ab
open Go.RowKit
variable {P:Program}
theorem y7 {t:TypeId} {f1 f2:Field} {k1 k2:IntKind} (hu:cJ P t (.struct #[f1,f2])) (h1:cJ P f1.type (.int k1)) (h2:cJ P f2.type (.int k2)) (ho:f1.offset=0∧f2.offset=1)
  (hn : (f1.name == "_" || f2.name == "_") = false) (hs : P.stoodInHeld t = false) (a b c d : Int) (w : World) :
  (Op.equalIn 10000 t (.agg #[.int .i64 a,.int .i64 b]) (.agg #[.int .i64 c,.int .i64 d])).run P w= .ok (a == c&&b == d) w:=by
 have hf:P.fieldsOf t=#[f1,f2]:=by simp [Program.fieldsOf,hu.ok]
 rw [run_equalIn_agg w 9999 t _ _ (by rw [hf];exact hu.ok) hs,hf]
 rw [Bool.or_eq_false_iff] at hn
 have n1 : f1.name ≠ "_" := by simpa using hn.1
 have n2 : f2.name ≠ "_" := by simpa using hn.2
 simp only [Op.eqFields,n1,n2,ne_eq,not_false_eq_true,if_true,Sem.run_bind,part,c8 h1.ok,c8 h2.ok,kc,Result.andThen_ok,Bool.false_eq_true,if_false,ho.1,ho.2]
 simp only [List.getElem?_toArray,List.getElem?_cons_zero,List.getElem?_cons_succ,Sem.run_pure,Result.andThen_ok,run_equalIn_int w 9998 _ _ _ _ _ h1.ok,run_equalIn_int w 9998 _ _ _ _ _ h2.ok]
 cases hac:(a == c)
 ·rfl
 ·simp only [Bool.not_true,Bool.false_eq_true,if_false,c8 h2.ok,kc,Sem.run_bind,Sem.run_pure,Result.andThen_ok,run_equalIn_int w 9998 _ _ _ _ _ h2.ok,Bool.true_and]
  cases hbd:(b == d)<;>rfl
theorem iT {G:bE} {β:cM} {a b:Int} {y:Value} (h:Conc G β (.agg [.int a,.int b]) y):y= .agg #[.int .i64 a,.int .i64 b]:=by
 cases h with
 |agg xs hl hs=>
  match xs,hl with
  |[x1,x2],_=>
   have e1:=cX (hs 0 _ _ rfl rfl)
   have e2:=cX (hs 1 _ _ rfl rfl)
   subst e1;subst e2;rfl
theorem tJ {s:St} {x y:Operand} {a b c d:Int} {t u:TypeId} {f1 f2:Field} {k1 k2:IntKind} [hu:cJ P t (.struct #[f1,f2])] [h1:cJ P f1.type (.int k1)] [h2:cJ P f2.type (.int k2)]
  (hx:s.eval x= .agg [.int a,.int b]) (hy:s.eval y= .agg [.int c,.int d])
  (hc : (decide (f1.offset = 0) && decide (f2.offset = 1) && !(f1.name == "_" || f2.name == "_") && !P.stoodInHeld t && !P.eqGuardType P.depth t) = true) : PV P (.binOp .eql t x y u) s (.bool (a == c && b == d)) :=
 dv fun _ _ _ ac _ h=>⟨_,.v,fun w' _ _ _ _ _=>by
  simp only [Bool.and_eq_true,decide_eq_true_eq,Bool.not_eq_true'] at hc
  obtain ⟨⟨⟨⟨o1,o2⟩,hn⟩,hs⟩,hg⟩:=hc
  have e1:=h.eval x;rw [hx] at e1
  have e2:=h.eval y;rw [hy] at e2
  simp only [execOp,iT e1,iT e2,Sem.run_bind,run_eqGuard_agg w' _ t _ _ _ _ hg,Result.andThen_ok,run_eql_struct,y7 hu h1 h2 ⟨o1,o2⟩ hn hs]
  rfl⟩
theorem tK {s:St} {x y:Operand} {a b c d:Int} {t u:TypeId} {f1 f2:Field} {k1 k2:IntKind} [hu:cJ P t (.struct #[f1,f2])] [h1:cJ P f1.type (.int k1)] [h2:cJ P f2.type (.int k2)]
  (hx:s.eval x= .agg [.int a,.int b]) (hy:s.eval y= .agg [.int c,.int d])
  (hc : (decide (f1.offset = 0) && decide (f2.offset = 1) && !(f1.name == "_" || f2.name == "_") && !P.stoodInHeld t && !P.eqGuardType P.depth t) = true) : PV P (.binOp .neq t x y u) s (.bool (!(a == c && b == d))) :=
 dv fun _ _ _ ac _ h=>⟨_,.v,fun w' _ _ _ _ _=>by
  simp only [Bool.and_eq_true,decide_eq_true_eq,Bool.not_eq_true'] at hc
  obtain ⟨⟨⟨⟨o1,o2⟩,hn⟩,hs⟩,hg⟩:=hc
  have e1:=h.eval x;rw [hx] at e1
  have e2:=h.eval y;rw [hy] at e2
  simp only [execOp,iT e1,iT e2,Sem.run_bind,run_eqGuard_agg w' _ t _ _ _ _ hg,Result.andThen_ok,run_neq_struct,y7 hu h1 h2 ⟨o1,o2⟩ hn hs]
  rfl⟩
theorem mG (op:BinOp) (t:TypeId) (x y:Operand) (a b:Bool) (w:World):(eqGuard op t x y (.bool a) (.bool b)).run P w= .ok () w:=by
 unfold eqGuard;cases op<;>simp
theorem tH {s:St} {x y:Operand} {a b:Bool} {t u:TypeId} [hu:cJ P t .bool] (hx:s.eval x= .bool a) (hy:s.eval y= .bool b):PV P (.binOp .eql t x y u) s (.bool (a == b)):=
 dv fun _ _ _ ac _ h=>⟨_,.v,fun w' _ _ _ _ _=>by
  have e1:=h.eval x;rw [hx] at e1
  have e2:=h.eval y;rw [hy] at e2
  simp only [execOp,il e1,il e2,Sem.run_bind,mG,Result.andThen_ok]
  simp only [binOp,Op.equal,Sem.run_bind,Op.maxDepth,run_equalIn_bool w' 9999 t a b hu.ok,Result.andThen_ok]
  rfl⟩
theorem tI {s:St} {x y:Operand} {a b:Bool} {t u:TypeId} [hu:cJ P t .bool] (hx:s.eval x= .bool a) (hy:s.eval y= .bool b):PV P (.binOp .neq t x y u) s (.bool (!(a == b))):=
 dv fun _ _ _ ac _ h=>⟨_,.v,fun w' _ _ _ _ _=>by
  have e1:=h.eval x;rw [hx] at e1
  have e2:=h.eval y;rw [hy] at e2
  simp only [execOp,il e1,il e2,Sem.run_bind,mG,Result.andThen_ok]
  simp only [binOp,Op.equal,Sem.run_bind,Op.maxDepth,run_equalIn_bool w' 9999 t a b hu.ok,Result.andThen_ok]
  rfl⟩
theorem lI (op:BinOp) (t:TypeId) (x y:Operand) (a b:Option Addr) (n c n' c':Nat) (w:World):(eqGuard op t x y (.slice a n c) (.slice b n' c')).run P w= .ok () w:=by
 unfold eqGuard;cases op<;>simp
theorem wC {d:Option Tmp} {x:Operand} {t u e:TypeId} {sz bw:Nat} {es:List AV} {ty:TypeId} {pos:String} {bC:Array Edge} {g:Option (Nat×Bool)} {s:St} {K:St→Prop} [hu:cJ P t (.slice e)]
  (hx:s.eval x= .cr sz bw es) (hk:∀ b:Bool,(b=true→es=[])→K (s.put d (.bool b))):eR P ⟨d,.binOp .eql t x (.const (.slice none 0 0)) u,ty,pos,bC,g⟩ s K:=by
 intro R β G a w Q hr
 have e1:=hr.eval x;rw [hx] at e1
 generalize hy:a.eval x=y at e1
 cases e1 with
 |@cr _ _ _ _ A c ys _ _ _ _ hA _ _=>
  have hrun:(execOp a.eval ⟨d,.binOp .eql t x (.const (.slice none 0 0)) u,ty,pos,bC,g⟩).run P w= .ok (.value (.bool A.isNone)) w:=by
   have hce:a.eval (.const (.slice none 0 0))= .slice none 0 0:=rfl
   simp only [execOp,hy,hce,Sem.run_bind,lI,Result.andThen_ok,Lib.run_eql_slice_nil w t e A es.length c 0 0 hu.ok]
   rfl
  unfold Oper.wp
  rw [hrun,Oper.upon_value]
  refine ⟨β,G,_,hk A.isNone (fun h=>?_),hr.put d .v⟩
  cases A with
  |none=>exact List.eq_nil_of_length_eq_zero (Nat.eq_zero_of_not_pos fun h=>hA h rfl)
  |some a=>cases h
theorem Lg {s:St} {x y:Operand} {a b:Int} {eQ:Array TypeId} (hx:s.eval x= .int a) (hy:s.eval y= .int b):PV P (.call {callee:=.builtin .min,args:=#[x,y],argTypes:=eQ}) s (.int (min a b)):=
 dv fun _ _ _ ac _ h=>⟨_,.v,fun w' _ _ _ _ _=>by
  have e1:=h.eval x;rw [hx] at e1
  have e2:=h.eval y;rw [hy] at e2
  have:(if b < a then b else a)=min a b:=by rw [Int.min_def];split<;>split<;>omega
  simp [execOp,resolve,invoke,builtin,cX e1,cX e2,run_min_int2,this]⟩
theorem Lh {s:St} {x y:Operand} {a b:Int} {eQ:Array TypeId} (hx:s.eval x= .int a) (hy:s.eval y= .int b):PV P (.call {callee:=.builtin .max,args:=#[x,y],argTypes:=eQ}) s (.int (max a b)):=
 dv fun _ _ _ ac _ h=>⟨_,.v,fun w' _ _ _ _ _=>by
  have e1:=h.eval x;rw [hx] at e1
  have e2:=h.eval y;rw [hy] at e2
  have:(if a < b then b else a)=max a b:=by rw [Int.max_def];split<;>split<;>omega
  simp [execOp,resolve,invoke,builtin,cX e1,cX e2,run_max_int2,this]⟩
theorem gw {R:Rg} {β:cM} {G:bE} {s:St} {a:Act} {w:World} (h:eE R β G s a w) (args:Array Operand) :
  (cn s args).length=(args.map a.eval).toList.length∧∀ (j:Nat) x y,(cn s args)[j]?=some x→(args.map a.eval).toList[j]?=some y→Conc G β x y:=by
 refine ⟨by simp [cn],fun j x y hx hy=>?_⟩
 simp only [cn,List.getElem?_map,Array.getElem?_toList,Option.map_eq_some_iff,Array.getElem?_map] at hx hy
 obtain ⟨o,h1,rfl⟩:=hx
 obtain ⟨o',h2,rfl⟩:=hy
 rw [h1] at h2;injection h2 with h2;subst h2
 exact h.eval o
theorem cD {s:St} {f:FuncId} {caps:Array Operand} (hf:f≤999999999:=by decide):PV P (.makeFunc (.func f) #[] caps) s (.fn f (cn s caps)):=
 dv fun R β G a w h=>by
  obtain ⟨h1,h2⟩:=gw h caps
  refine ⟨.func (.func f) #[] (caps.map a.eval),?_,fun w' _ _ _ _ _=>by simp [execOp,Instr.makeFunc]⟩
  have:=Conc.fn (G:=G) (β:=β) (f:=f) (cs:=cn s caps) (caps.map a.eval).toList hf h1 h2
  rw [Array.toArray_toList] at this
  exact this
theorem cu {s:St} {x:Operand} {id off:Nat} (hx:s.eval x= .ptr id off):PV P (.nilCheck x) s (.ptr id off):=
 dv fun R β G a w h=>by
  have e1:=h.eval x;rw [hx] at e1
  generalize hy:a.eval x=y at e1
  cases e1 with
  |ptr hb=>exact ⟨_,.ptr hb,fun w' _ _ _ _ _=>by simp [execOp,hy]⟩
theorem b8 {s:St} {x:Operand} {cs:List AV} (hx:s.eval x= .bx cs):PV P (.nilCheck x) s (.bx cs):=
 dv fun R β G a w h=>by
  have e1:=h.eval x;rw [hx] at e1
  generalize hy:a.eval x=y at e1
  cases e1 with
  |bx ys hl hr hs=>exact ⟨_,.bx ys hl hr hs,fun w' _ _ _ _ _=>by simp [execOp,hy]⟩
theorem b9 {s:St} {x:Operand} {f:FuncId} {cs:List AV} (hx:s.eval x= .fn f cs):PV P (.nilCheck x) s (.fn f cs):=
 dv fun R β G a w h=>by
  have e1:=h.eval x;rw [hx] at e1
  generalize hy:a.eval x=y at e1
  cases e1 with
  |fn xs hf hl hs=>exact ⟨_,.fn xs hf hl hs,fun w' _ _ _ _ _=>by simp [execOp,hy]⟩
  |qC h=>exact ⟨_,.qC h,fun w' _ _ _ _ _=>by simp [execOp,hy]⟩
theorem jf {G:bE} {β:cM} {f:FuncId} {cs:List AV} {y:Value} (h:Conc G β (.fn f cs) y) (hlt:f < 1000000000):∃ xs:List Value,y= .func (.func f) #[] xs.toArray∧cs.length=xs.length∧∀ (j:Nat) x v,cs[j]?=some x→xs[j]?=some v→Conc G β x v:=by
 cases h with
 |fn xs hf hl hs=>exact ⟨xs,rfl,hl,hs⟩
 |qC _=>exact absurd hlt (Nat.not_lt.2 (Nat.le_add_right 1000000000 _))
theorem ev {d:Option Tmp} {fo:Operand} {f:FuncId} {caps:List AV} {args:Array Operand} {eQ:Array TypeId} {ty:TypeId} {pos:String} {bC:Array Edge} {g:Option (Nat×Bool)} {s:St} {K:St→Prop} {Q:AV→Prop}
  (hf:s.eval fo= .fn f caps) [hc:cS P f]
  (h:bg P f (cn s args++caps) Q) (hp:AV.cj (cn s args++caps)=true) (hk:∀ x,Q x→K (s.put d x)):dz P ⟨d,.call {callee:=.value fo,args,argTypes:=eQ},ty,pos,bC,g⟩ s K:=by
 intro R β G a w Q' hr
 have e1:=hr.eval fo;rw [hf] at e1
 obtain ⟨xs,hfv,hxl,hxs⟩:=jf e1 hc.lt
 have hrun:(execOp a.eval ⟨d,.call {callee:=.value fo,args,argTypes:=eQ},ty,pos,bC,g⟩).run P w= .ok (.enter f (args.map a.eval++xs.toArray)) w:=by
  simp [execOp,resolve,hfv,Deferred.ofValue,invoke,hc.ok]
 unfold Oper.wp
 rw [hrun,Oper.upon_enter]
 obtain ⟨l1,l2⟩:=gw hr args
 have hcl:uc G (cn s args++caps) ((args.map a.eval).toList++xs):=by
  refine ⟨by simp [l1,hxl],fun j x y hx hy=>?_⟩
  have hpx:=fw hp hx
  rcases Nat.lt_or_ge j (cn s args).length with hj|hj
  ·rw [List.getElem?_append_left hj] at hx
   rw [List.getElem?_append_left aj] at hy
   exact (l2 j x y hx hy).mu hpx lj
  ·rw [List.getElem?_append_right hj] at hx
   rw [List.getElem?_append_right aj,← l1] at hy
   exact (hxs _ x y hx hy).mu hpx lj
 have:=h G w _ hr.hp.gs hcl
 have harr:((args.map a.eval).toList++xs).toArray=args.map a.eval++xs.toArray:=by
  apply Array.ext';simp
 rw [harr] at this
 refine this.mono fun e w' ⟨y,G',x,he,hQ,hcx,hd,hG',hext⟩=>?_
 subst he
 obtain ⟨G'',hr',hm⟩:=hr.later hext hG' hd
 exact ⟨hext,β,G'',_,hk x hQ,hr'.put d ((hcx.mono hm).free β)⟩
theorem gA {d:Option Tmp} {fo:Operand} {f:FuncId} {caps:List AV} {args:Array Operand} {eQ:Array TypeId} {ty:TypeId} {pos:String} {bC:Array Edge} {g:Option (Nat×Bool)} {s:St} {K:St→Prop} {Q:AV→Prop}
  (hf:s.eval fo= .fn f caps) [hc:cS P f]
  (h:bg P f (cn s args++caps) Q) (hp:AV.cj (cn s args++caps)=true) (hk:∀ x,Q x→K (s.put d x)):eR P ⟨d,.call {callee:=.value fo,args,argTypes:=eQ},ty,pos,bC,g⟩ s K:=
 mj (ev hf h hp hk)
mutual
def AV.iv (id:Nat) (cs:List AV):AV→AV
 | .ptr i o=>if i=id then .bx (cs.drop o) else .ptr i o
 | .sl a b i o n=>if i=id then .any else .sl a b i o n
 | .yl i y=>if i=id then .any else .yl i y
 | .agg l=>.agg (AV.eJ id cs l)
 | .dr l=>.dr (AV.eJ id cs l)
 | .fn f l=>.fn f (AV.eJ id cs l)
 | .any=>.any
 | .v x=>.v x
 | .cr a b l=>.cr a b l
 | .bx l=>.bx l
def AV.eJ (id:Nat) (cs:List AV):List AV→List AV
 |[]=>[]
 |x::r=>AV.iv id cs x::AV.eJ id cs r
end
theorem DU (id:Nat) (cs l:List AV):AV.eJ id cs l=l.map (AV.iv id cs):=by
 induction l with
 |nil=>rfl
 |cons x l ih=>simp [AV.eJ,ih]
def ki (id:Nat) (cs:List AV):Hp→Hp
 |[]=>[]
 |(i,b)::r=>if i=id then ki id cs r else (i,{b with cs:=AV.eJ id cs b.cs})::ki id cs r
theorem jy (id:Nat) (cs:List AV):∀ (l:List AV) (i:Nat),(AV.eJ id cs l)[i]?=l[i]?.map (AV.iv id cs)
 |[],i=>by simp [AV.eJ]
 |x::l,0=>by simp [AV.eJ]
 |x::l,i+1=>by simp [AV.eJ,jy id cs l i]
theorem jz (id:Nat) (cs l:List AV):(AV.eJ id cs l).length=l.length:=by
 induction l with
 |nil=>rfl
 |cons x l ih=>simp [AV.eJ,ih]
theorem ny (id:Nat) (cs:List AV) (hp:Hp) (i:Nat):aW (ki id cs hp) i=if id=i then none else (aW hp i).map fun b=>{b with cs:=AV.eJ id cs b.cs}:=by
 induction hp with
 |nil=>simp [ki,aW]
 |cons p r ih=>
  obtain ⟨j,b⟩:=p
  by_cases hj:j=id
  ·subst hj
   simp only [ki,if_true,ih,aW]
   split<;>rfl
  ·simp only [ki,hj,if_false,aW,ih]
   by_cases hji:j=i
   ·subst hji;simp [Ne.symm hj]
   ·simp [hji]
theorem Conc.Lt {G:bE} {β:cM} {x:AV} {y:Value} (h:Conc G β x y) {id b t:Nat} {arr:Array Value} {T:TypeId} (hβ:β id= .at b t) (cs:List AV) (hle:cs.length≤arr.size)
  (hcs:∀ (j:Nat) u v,cs[j]?=some u→arr[j]?=some v→Conc G lj u v) (hG:G b=none):Conc (G.set b (.cells arr T (0,0))) β (AV.iv id cs x) y:=by
 have hm:∀ k o,G k=some o→(G.set b (.cells arr T (0,0))) k=some o:=fun k o hk=>by
  simp only [bE.set];rw [if_neg (by rintro rfl;rw [hG] at hk;cases hk)];exact hk
 have key:∀ {β x y},Conc G β x y→β id= .at b t→Conc (G.set b (.cells arr T (0,0))) β (AV.iv id cs x) y:=by
  intro β x y h
  induction h with
  |any=>intro _;exact .any
  |v=>intro _;exact .v
  |agg xs hl _ ih=>
   intro hb
   simp only [AV.iv]
   refine .agg xs (by rw [jz];exact hl) fun j u v hu hv=>?_
   rw [jy,Option.map_eq_some_iff] at hu
   obtain ⟨u0,hu0,rfl⟩:=hu
   exact ih j u0 v hu0 hv hb
  |dr xs hl _ ih=>
   intro hb
   simp only [AV.iv]
   refine .dr xs (by rw [jz];exact hl) fun j u v hu hv=>?_
   rw [jy,Option.map_eq_some_iff] at hu
   obtain ⟨u0,hu0,rfl⟩:=hu
   exact ih j u0 v hu0 hv hb
  |fn xs hf hl _ ih=>
   intro hb
   simp only [AV.iv]
   refine .fn xs hf (by rw [jz];exact hl) fun j u v hu hv=>?_
   rw [jy,Option.map_eq_some_iff] at hu
   obtain ⟨u0,hu0,rfl⟩:=hu
   exact ih j u0 v hu0 hv hb
  |qC _ ih=>
   intro hb
   simp only [AV.iv,AV.eJ]
   exact .qC (ih hb)
  |@ptr β i o b' t' h=>
   intro hb
   simp only [AV.iv]
   split
   ·rename_i e;subst e
    rw [hb] at h;injection h with h1 h2;subst h1
    refine .bx ((arr.toList.drop o).take (cs.length - o)) aE (fun j v hv=>?_) (fun j u v hu hv=>?_)
    ·rw [Addr.eV]
     have hj:j < cs.length - o:=by have:=bS hv;simp at this;omega
     simp only [List.getElem?_take,hj,if_true,List.getElem?_drop,Array.getElem?_toList] at hv
     simpa [dO,bE.set] using hv
    ·have hj:j < cs.length - o:=by have:=bS hv;simp at this;omega
     simp only [List.getElem?_take,hj,if_true,List.getElem?_drop,Array.getElem?_toList] at hv
     rw [List.getElem?_drop] at hu
     exact (hcs _ u v hu hv).mono hm
   ·exact .ptr h
  |j5 h=>
   intro hb
   simp only [AV.iv]
   split
   ·exact .any
   ·exact .j5 h
  |yl h=>
   intro hb
   simp only [AV.iv]
   split
   ·exact .any
   ·exact .yl h
  |sl h hn ht hmm hbb=>
   intro hb
   simp only [AV.iv]
   split
   ·exact .any
   ·exact .sl h hn ht hmm hbb
  |cr ys hu hl hc hb' hA hr hs _=>
   intro _
   simp only [AV.iv]
   exact .cr ys hu hl hc hb' hA (fun j v hv=>let ⟨a,ha,hg⟩:=hr j v hv;⟨a,ha,iL hm hg⟩) (fun j u v hu hv=>(hs j u v hu hv).mono hm)
  |bx ys hl hr hs _=>
   intro _
   simp only [AV.iv]
   exact .bx ys hl (fun j v hv=>iL hm (hr j v hv)) (fun j u v hu hv=>(hs j u v hu hv).mono hm)
 exact key h hβ
theorem bQ {f:List AV} {hp:Hp} (id:Nat) {bk:fZ} (hb:aW hp id=some bk) (hp1:AV.cj bk.cs=true) (hne:bk.full=true):Le ⟨f,hp⟩ ⟨AV.eJ id bk.cs f,ki id bk.cs hp⟩:=by
 intro R β G a w h
 have h0:=h.hp.blk id bk hb
 unfold bW at h0
 cases hβ:β id with
 |no=>rw [hβ] at h0;exact h0.elim
 |nil=>rw [hβ] at h0;rw [hne] at h0;cases h0.2
 |gh o=>rw [hβ] at h0;have:=sM.MM h0;rw [hne] at this;cases this.1
 |«at» b t=>
  rw [hβ] at h0
  obtain ⟨g1,g2,arr,g3,g4,g5,g6,g7⟩:=h0
  have hcs:∀ (j:Nat) u v,bk.cs[j]?=some u→arr[j]?=some v→Conc G lj u v:=fun j u v hu hv=>(g7 j u v hu hv).mu (fw hp1 hu) lj
  have y8:∀ {x y},Conc G β x y→Conc (G.set b (.cells arr bk.T (0,0))) β (AV.iv id bk.cs x) y:=fun hx=>hx.Lt hβ bk.cs aj hcs g1
  have hmono:∀ k o,G k=some o→(G.set b (.cells arr bk.T (0,0))) k=some o:=fun k o hk=>by
   simp only [bE.set];rw [if_neg (by rintro rfl;rw [g1] at hk;cases hk)];exact hk
  refine ⟨β,G.set b (.cells arr bk.T (0,0)),h.defers.mono hmono,by rw [jz];exact h.size,fun i x y hx hy=>?_,⟨fun k o hk=>?_,fun i bk' hi=>?_,fun i j b' t t' hi hj=>?_,h.hp.keeps,fun k hk=>?_,h.hp.jv,h.hp.ga.sub fun i hi=>by
   rw [ny] at hi
   split at hi
   ·cases hi
   ·simpa using hi⟩⟩
  ·rw [jy,Option.map_eq_some_iff] at hx
   obtain ⟨x0,hx0,rfl⟩:=hx
   exact y8 (h.fr i x0 y hx0 hy)
  ·simp only [bE.set] at hk
   split at hk
   ·rename_i e;subst e;injection hk with hk;subst hk;exact g3
   ·exact h.hp.gs k o hk
  ·rw [ny] at hi
   by_cases hid:id=i
   ·simp [hid] at hi
   ·simp only [hid,if_false,Option.map_eq_some_iff] at hi
    obtain ⟨bk1,hi1,rfl⟩:=hi
    have:=h.hp.blk i bk1 hi1
    unfold bW at this ⊢
    cases hβi:β i with
    |no=>rw [hβi] at this;exact this
    |nil=>rw [hβi] at this;exact ⟨by rw [this.1];rfl,this.2⟩
    |«at» b1 t1=>
     rw [hβi] at this
     obtain ⟨k1,k2,arr',k3,k4,k5,k6,k7⟩:=this
     have hbb:b1≠b:=fun e=>by subst e;exact hid (h.hp.inj id i b1 t t1 (by rw [hb];rfl) (by rw [hi1];rfl) hβ hβi)
     refine ⟨by simp only [bE.set];rw [if_neg hbb];exact k1,k2,arr',k3,k4,by simpa [jz] using k5,by simpa [jz] using k6,fun j x y hx hy=>?_⟩
     simp only [jy,Option.map_eq_some_iff] at hx
     obtain ⟨x0,hx0,rfl⟩:=hx
     exact y8 (k7 j x0 y hx0 hy)
    |gh o=>rw [hβi] at this;exact oP this hmono (AV.iv id bk.cs) (fun x _ y hc=>y8 hc) _ (DU _ _ _)
  ·have key:∀ i,(aW (ki id bk.cs hp) i).isSome→(aW hp i).isSome:=fun i hi=>by
    rw [ny] at hi
    split at hi
    ·cases hi
    ·simpa using hi
   exact h.hp.inj i j b' t t' (key i hi) (key j hj)
  ·simp only [bE.set] at hk
   split at hk
   ·rename_i e;subst e
    exact .inr g2
   ·exact h.hp.js k hk
theorem xC {f:List AV} {hp:Hp} (i id sz bw:Nat) (T:TypeId) (hx:f[i]?=some .fS) (hf:St.free ⟨f,hp⟩ id=true):Le ⟨f,hp⟩ ⟨f.set i (.sl sz bw id 0 0),cK hp id ⟨T,[],false⟩⟩:=by
 intro R β G a w h
 obtain ⟨f1,f2,f3⟩:=ja hf
 have hself:(β.set id .nil) id= .nil:=by simp [cM.set]
 have hoth:∀ j,j≠id→(β.set id .nil) j=β j:=fun j hj=>by simp [cM.set,hj]
 refine ⟨β.set id .nil,G,h.defers,by simpa using h.size,fun j x y hj hy=>?_,⟨h.hp.gs,fun j bk hj=>?_,fun j k b t t' hj hk hbj hbk=>?_,h.hp.keeps,h.hp.js,h.hp.jv.set _ (gg hf),h.hp.ga.KI _ (by have:=gg hf;omega)⟩⟩
 ·rw [List.getElem?_set] at hj
  by_cases hij:i=j
  ·subst hij
   simp only [if_true] at hj
   split at hj<;>simp at hj
   subst hj
   have:=eF (h.fr i _ y hx hy)
   rw [this]
   exact .j5 hself
  ·simp only [hij,if_false] at hj
   exact (h.fr j x y hj hy).gu (f1 j x hj) _
 ·rw [cE] at hj
  unfold bW
  by_cases hid:id=j
  ·subst hid
   simp only [if_true,Option.some.injEq] at hj
   subst hj
   rw [hself]
   exact ⟨rfl,rfl⟩
  ·simp only [hid,if_false] at hj
   rw [hoth j (Ne.symm hid)]
   have:=h.hp.blk j bk hj
   unfold bW at this
   cases hβ:β j with
   |no=>rw [hβ] at this;exact this
   |nil=>rw [hβ] at this;exact this
   |«at» b t=>
    rw [hβ] at this
    obtain ⟨g1,g2,arr,g3,g4,g5,g6,g7⟩:=this
    exact ⟨g1,g2,arr,g3,g4,g5,g6,fun k x y hx hy=>(g7 k x y hx hy).gu (f3 j bk k x hj hx) _⟩
   |gh o=>
    rw [hβ] at this
    exact fv this (fun _ _ h=>h) fun x hx y hc=>by
     obtain ⟨k,hk⟩:=List.getElem?_of_mem hx
     exact hc.gu (f3 j bk k x hj hk) _
 ·have key:∀ j b t,(β.set id .nil) j= .at b t→j≠id:=fun j b t hb e=>by subst e;rw [hself] at hb;cases hb
  have n1:=key j b t hbj
  have n2:=key k b t' hbk
  rw [hoth j n1] at hbj
  rw [hoth k n2] at hbk
  rw [cE,if_neg (Ne.symm n1)] at hj
  rw [cE,if_neg (Ne.symm n2)] at hk
  exact h.hp.inj j k b t t' hj hk hbj hbk
theorem wD {f:List AV} {hp:Hp} (i id:Nat) {sz bw n:Nat} {bk:fZ} (es:List AV) (hx:f[i]?=some (.sl sz bw id 0 n)) (hb:aW hp id=some bk) (hes:es.flatMap AV.cells=bk.cs)
  (hu:∀ e∈es,e.cells.length=sz) (hn:es.length=n) (hp1:AV.cj bk.cs=true) (hsz:0 < sz):Le ⟨f,hp⟩ ⟨(AV.ct id f).set i (.cr sz bw es),dZ id hp⟩:=by
 intro R β G a w h
 have h0:=h.hp.blk id bk hb
 unfold bW at h0
 have hoth:∀ j,j≠id→(β.set id .no) j=β j:=fun j hj=>by simp [cM.set,hj]
 have fin:∀ (G':bE),(∀ b o,G b=some o→G' b=some o)→(∀ b o,G' b=some o→w.heap[b]?=some o)→(∀ b,G' b≠none→R.g0 b≠none∨R.w0.heap.size≤b∨R.ex b)→
   (∀ j bk' b t,j≠id→aW hp j=some bk'→β j= .at b t→G' b=none)→(∀ y,a.tmps[i]?=some y→Conc G' lj (.cr sz bw es) y)→∃ β' G',eE R β' G' ⟨(AV.ct id f).set i (.cr sz bw es),dZ id hp⟩ a w:=by
  intro G' hm hgs hdom hfree hc
  refine ⟨β.set id .no,G',h.defers.mono hm,by rw [List.length_set,da];exact h.size,fun j x y hj hy=>?_,⟨hgs,fun j bk' hj=>?_,fun j k b t t' hj hk hbj hbk=>?_,h.hp.keeps,hdom,h.hp.jv.gone,h.hp.ga.dJ _⟩⟩
  ·rw [List.getElem?_set] at hj
   by_cases hij:i=j
   ·subst hij
    simp only [if_true] at hj
    split at hj<;>simp at hj
    subst hj
    exact (hc y hy).free _
   ·simp only [hij,if_false] at hj
    rw [gZ,Option.map_eq_some_iff] at hj
    obtain ⟨x0,hx0,rfl⟩:=hj
    exact ((h.fr j x0 y hx0 hy).mono hm).jY hoth
  ·rw [eH] at hj
   by_cases hid:id=j
   ·simp [hid] at hj
   ·simp only [hid,if_false,Option.map_eq_some_iff] at hj
    obtain ⟨bk1,hj1,rfl⟩:=hj
    have:=h.hp.blk j bk1 hj1
    unfold bW at this ⊢
    rw [hoth j (Ne.symm hid)]
    cases hβ:β j with
    |no=>rw [hβ] at this;exact this
    |nil=>rw [hβ] at this;exact ⟨by rw [this.1];rfl,this.2⟩
    |«at» b t=>
     rw [hβ] at this
     obtain ⟨g1,g2,arr,g3,g4,g5,g6,g7⟩:=this
     refine ⟨hfree j bk1 b t (Ne.symm hid) hj1 hβ,g2,arr,g3,g4,by simpa [da] using g5,by simpa [da] using g6,fun k x y hx hy=>?_⟩
     simp only [gZ,Option.map_eq_some_iff] at hx
     obtain ⟨x0,hx0,rfl⟩:=hx
     exact ((g7 k x0 y hx0 hy).mono hm).jY hoth
    |gh o=>rw [hβ] at this;exact oP this hm (AV.dJ id) (fun x _ y hc=>(hc.mono hm).jY hoth) _ (r9 _ _)
  ·have key:∀ j b t,(β.set id .no) j= .at b t→j≠id:=fun j b t hb e=>by subst e;simp [cM.set] at hb
   have n1:=key j b t hbj
   have n2:=key k b t' hbk
   rw [hoth j n1] at hbj
   rw [hoth k n2] at hbk
   rw [eH,if_neg (Ne.symm n1)] at hj
   rw [eH,if_neg (Ne.symm n2)] at hk
   exact h.hp.inj j k b t t' (by simpa using hj) (by simpa using hk) hbj hbk
 cases hβ:β id with
 |no=>rw [hβ] at h0;exact h0.elim
 |gh o=>
  refine fin G (fun _ _ h=>h) h.hp.gs h.hp.js (fun j bk' b t _ hj hbj=>(h.hp.block hj hbj).1) fun y hy=>?_
  have hc:=h.fr i _ y hx hy
  cases hc with
  |j5 hb'=>rw [hβ] at hb';cases hb'
  |sl hb'=>rw [hβ] at hb';cases hb'
 |nil=>
  rw [hβ] at h0
  have he:es=[]:=by
   cases es with
   |nil=>rfl
   |cons e es=>
    have h1:=hes
    rw [h0.1,List.flatMap_cons] at h1
    have h2:e.cells=[]:=(List.append_eq_nil_iff.1 h1).1
    have:=hu e ax
    rw [h2] at this;simp at this;omega
  refine fin G (fun _ _ h=>h) h.hp.gs h.hp.js (fun j bk' b t _ hj hbj=>(h.hp.block hj hbj).1) fun y hy=>?_
  have hc:=h.fr i _ y hx hy
  subst he
  cases hc with
  |j5 _=>exact .cr (es:=[]) [] ax ax ax ax ax ax ax
  |sl hb'=>rw [hβ] at hb';cases hb'
 |«at» b t=>
  rw [hβ] at h0
  obtain ⟨g1,g2,arr,g3,g4,g5,g6,g7⟩:=h0
  have hm:∀ k o,G k=some o→(G.set b (.cells arr bk.T (0,0))) k=some o:=fun k o hk=>by
   simp only [bE.set];rw [if_neg (by rintro rfl;rw [g1] at hk;cases hk)];exact hk
  refine fin (G.set b (.cells arr bk.T (0,0))) hm (fun k o hk=>?_) (fun k hk=>?_) (fun j bk' b' t' hne hj hbj=>?_) fun y hy=>?_
  ·simp only [bE.set] at hk
   split at hk
   ·rename_i e;subst e;injection hk with hk;subst hk;exact g3
   ·exact h.hp.gs k o hk
  ·simp only [bE.set] at hk
   split at hk
   ·rename_i e;subst e;exact .inr g2
   ·exact h.hp.js k hk
  ·have hbb:b'≠b:=fun e=>by subst e;exact hne (h.hp.inj j id b' t' t (by rw [hj];rfl) (by rw [hb];rfl) hbj hβ)
   simp only [bE.set];rw [if_neg hbb]
   exact (h.hp.block hj hbj).1
  ·have hc:=h.fr i _ y hx hy
   cases hc with
   |j5 hb'=>rw [hβ] at hb';cases hb'
   |@sl _ _ _ _ _ _ c b' t' hb' hnc ht hcm hbw=>
    rw [hβ] at hb';injection hb' with e1 e2;subst e1;subst e2
    subst hn
    have hfl:(es.flatMap AV.cells).length=es.length * sz:=jb hu
    have hle:es.length * sz≤arr.size:=by rw [← hfl,hes,g4];exact g5
    refine .cr (arr.toList.take (es.length * sz)) hu aE hnc hbw (fun _=>by simp) (fun j v hv=>⟨_,rfl,?_⟩) (fun j u v hu' hv=>?_)
    ·have hj:j < es.length * sz:=by have:=bS hv;simp at this;omega
     simp only [List.getElem?_take,hj,if_true,Array.getElem?_toList] at hv
     rw [Addr.eV]
     simpa [dO,bE.set] using hv
    ·have hj:j < es.length * sz:=by have:=bS hv;simp at this;omega
     simp only [List.getElem?_take,hj,if_true,Array.getElem?_toList] at hv
     rw [hes] at hu'
     exact ((g7 j u v hu' hv).mu (fw hp1 hu') lj).mono hm
theorem lE (id:Nat) (xs:List Int):AV.ct id (xs.map AV.int)=xs.map AV.int:=pS id _ _ fun _=>rfl
theorem kh (id:Nat) (xs:List Bool):AV.ct id (xs.map AV.bool)=xs.map AV.bool:=pS id _ _ fun _=>rfl
theorem mw {α:Type} {f:α→AV} (h:∀ a,(f a).cells=[f a]) (xs:List α):(xs.map f).flatMap AV.cells=xs.map f:=by
 induction xs with
 |nil=>rfl
 |cons x l ih=>simp [h,ih]
theorem oT {α:Type} {f:α→AV} {rs:Array ResultVar} {Q:AV→Prop} {e:Exit} {fr:List AV} {hp:Hp} {i id bw n:Nat} {T:TypeId} {full:Bool} (xs:List α) (hrs:rs=#[.tmp i]) (hx:fr[i]?=some (.sl 1 bw id 0 n))
  (hb:aW hp id=some ⟨T,xs.map f,full⟩) (hn:xs.length=n) (hc:∀ a,(f a).cells=[f a]) (hpu:∀ a,(f a).fm=true) (hQ:Q (.cr 1 bw (xs.map f)))
  (he:e= .ret∨e= .normal:=by first|exact .inl rfl|exact .inr rfl):Fin P rs Q e ⟨fr,hp⟩:=by
 have hi:i < fr.length:=bS hx
 refine aT (wD i id (xs.map f) hx hb (mw hc xs) (fun e he=>?_) (by simpa using hn) (dK f xs hpu) aj) (by subst hrs;exact aQ (aO (x:=.cr 1 bw (xs.map f)) (by simp [da,hi]))) rfl hQ he
 ·obtain ⟨a,_,rfl⟩:=List.mem_map.1 he
  rw [hc];rfl
theorem xG {α:Type} {f:α→AV} {rs:Array ResultVar} {Q:AV→Prop} {e:Exit} {fr:List AV} {hp:Hp} {i id sz bw n:Nat} {T:TypeId} {full:Bool} (xs:List α) (hrs:rs=#[.tmp i]) (hx:fr[i]?=some (.sl sz bw id 0 n))
  (hb:aW hp id=some ⟨T,(xs.map f).flatMap AV.cells,full⟩) (hn:xs.length=n) (hc:∀ a,(f a).cells.length=sz) (hpu:∀ a,AV.cj (f a).cells=true) (hsz:0 < sz) (hQ:Q (.cr sz bw (xs.map f)))
  (he:e= .ret∨e= .normal:=by first|exact .inl rfl|exact .inr rfl):Fin P rs Q e ⟨fr,hp⟩:=by
 have hi:i < fr.length:=bS hx
 refine aT (wD i id (xs.map f) hx hb rfl (fun e he=>?_) (by simpa using hn) ?_ hsz) (by subst hrs;exact aQ (aO (x:=.cr sz bw (xs.map f)) (by simp [da,hi]))) rfl hQ he
 ·obtain ⟨a,_,rfl⟩:=List.mem_map.1 he
  exact hc a
 ·clear hb hn hQ
  induction xs with
  |nil=>rfl
  |cons x l ih=>simp [nZ,hpu,ih]
end Go.Ab
