/- Part of a proof. No condition. -/
import Derived.Below
import Derived.Carry
import Derived.ChangeArms
import Derived.ChangeSame
import Derived.ChangeShapes
import Derived.Conc.Holds
import Derived.Handed
import Derived.OpenShut
import Derived.SizedLaws
import Derived.Test.YtkbiagkbmodgdaaGreatZab
import Derived.WideShapes
set_option linter.unusedSimpArgs false
set_option linter.unusedVariables false
namespace Go.Ab
open Go.RowKit
inductive Sh where
 |int
 |bool
 |sl (sz bw:Nat) (s:Sh)
 |st (fs:List Sh)
def Sh.n:Sh→Nat
 | .st fs=>fs.length
 |_=>1
mutual
def Sh.sat:Sh→AV→Prop
 | .int,x=>∃ n:Int,(-9223372036854775808≤n∧n≤9223372036854775807)∧x= .int n
 | .bool,x=>∃ b:Bool,x= .bool b
 | .sl sz bw s,x=>∃ es,x= .cD sz bw es∧∀ e∈es,s.sat e
 | .st fs,x=>∃ cs,x= .agg cs∧Sh.IK fs cs
def Sh.IK:List Sh→List AV→Prop
 |[],[]=>True
 |s::r,x::q=>s.sat x∧Sh.IK r q
 |_,_=>False
end
def Sh.U9:Sh→Bool
 | .st _=>true
 |_=>false
mutual
def Sh.ok (P:Program):Sh→TypeId→Bool
 | .int,t=>match P.underlying t with|some (.int .i64)=>true|_=>false
 | .bool,t=>match P.underlying t with|some .bool=>true|_=>false
 | .sl sz bw s,t=>match P.underlying t with
  |some (.slice e)=>P.cellsOf e == sz&&P.bytesOf e == bw&&s.n == sz&&decide (0 < sz)&&s.ok P e
  |_=>false
 | .st fs,t=>match P.underlying t with
  |some (.struct fl)=>P.cellsOf t == fs.length&&fl.size == fs.length&&Sh.ML P fs 0 fl.toList
  |_=>false
def Sh.ML (P:Program):List Sh→Nat→List Field→Bool
 |[],_,[]=>true
 |s::q,i,f::r=>f.offset == i&&P.cellsOf f.type == 1&&!s.U9&&s.ok P f.type&&Sh.ML P q (i+1) r
 |_,_,_=>false
end
def yw (w:World):bI:=fun b=>w.heap[b]?
theorem IM {w:World} {a:Addr} {y:Value} (h:w.cell? a=some y):ep (yw w) a=some y:=by
 unfold ep yw;unfold World.cell? at h;exact h
theorem GL {α:Type} {Q:Nat→α→Prop}:∀ (n:Nat),(∀ i,i < n→∃ x,Q i x)→∃ l:List α,l.length=n∧∀ (i:Nat) x,l[i]?=some x→Q i x
 |0,_=>⟨[],rfl,by simp⟩
 |n+1,h=>by
  obtain ⟨l,hl,hq⟩:=GL n (fun i hi=>h i ak);obtain ⟨x,hx⟩:=h n ak;refine ⟨l++[x],by simp [hl],fun i y hy=>?_⟩;rcases qc4 i n with h1|h1
  ·rw [qe1 ak] at hy;exact hq i y hy
  have:i=n:=by have:=bX hy;simp at this;omega
  subst this;rw [qc7 ak] at hy;simp [hl] at hy;subst hy;exact hx
section
variable {H:Type} {enc:TypeId×Value→H} {P:Program} {w:World} {sp:Nat→Bool} {held:Bool}
theorem IN {base:Nat} {a:Addr} {n:Nat} {cs:List Value} (h:w.cells? base a n=some cs):cs.length=n∧∀ i,i < n→w.cell? (a.add i)=cs[i]?:=by
 unfold World.cells? at h;split at h
 ·exact ⟨by simpa using mapM_some_length h,fun i hi=>mapM_some_get h i i (by simp [hi])⟩
 cases h
theorem mY {e:TypeId}:∀ {ds:List (DataW H)} {i:Nat} {d:DataW H},ds[i]?=some d→∀ n∈d.weights P e,n∈DataW.weightsAll P e ds
 |[],_,_,h,_,_=>by simp at h
 |d0::ds,0,d,h,n,hn=>by simp at h;subst h;simp [DataW.weightsAll,hn]
 |d0::ds,i+1,d,h,n,hn=>by
  have:=mY (ds:=ds) (i:=i) (d:=d) (by simpa using h) n hn;simp [DataW.weightsAll,this]
end
end Go.Ab
namespace Go.Ab
open Go.RowKit Go.WideShapes Go.ChangeShapes
def Sh.qd (P:Program):List Sh→List TypeId→Bool
 |[],[]=>true
 |s::r,t::q=>s.ok P t&&P.readableRec t&&decide (t < P.types.size)&&Sh.qd P r q
 |_,_=>false
section
variable {H:Type} {enc:TypeId×Value→H} {P:Program}
theorem y7 {f:Func} {s:ChangeSpec} {apart fresh handsOn again:Bool} {W W':World} {args:Array Value} {v:Value} {ds gs:List (DataW H)} {before pa pv:List MemPlace}
 (hW:DataW.Whole enc P f.params.toList s.vars apart W args.toList ds gs before)
 (hres:∀ (b:Nat) (sp:Nat→Bool) (hd:Bool),DataW.TrodAll enc P W' b sp hd f.resultTypes.toList (v.resultList f.resultTypes.size) (s.fn H (ds++gs)).results [])
 (hargs:∀ sp:Nat→Bool,(∀ p∈before,sp p.block=true)→DataW.TrodAll enc P W' 0 sp true f.params.toList args.toList (s.fn H (ds++gs)).args pa)
 (hvars:∀ sp:Nat→Bool,(∀ p∈before,sp p.block=true)→DataW.TrodVars enc P W' sp s.vars (s.fn H (ds++gs)).vars pv)
 (hps:before=pa++pv) (hb:Below W.heap.size W W')
 (hok:∀ (j:Nat) (t:TypeId) (r:Value),f.resultTypes[j]?=some t→(v.resultList f.resultTypes.size)[j]?=some r→Value.okWide P W' .any 0 t r) :
 s.post enc P f apart fresh handsOn again W args v W':=by
 have hlt:∀ p∈before,p.block < W.heap.size:=fun p hp=>hW.lt p hp;have hold:∀ p∈before,(fun b=>decide (b < W.heap.size)) p.block=true:=fun p hp=>by simpa using hlt p hp
 refine ⟨ds,gs,before,[],pa,pv,hW,hres _ _ _,hargs _ hold,hvars _ hold,World.keptBut_mono (fun p hp=>⟨hp,?_⟩) (hb.frame (· ∈before)),fun _=>?_⟩
 ·rw [hps,qe4] at hp
  exact Or.inr hp
 obtain ⟨_,_,_,_,_,hz,hn⟩:=hW;refine ⟨hok,_,_,([]++pa)++pv,⟨[]++pa,pv,trodAll_append (hargs _ (fun _ _=>rfl)) (hres _ _ _),hvars _ (fun _ _=>rfl),rfl,?_,?_⟩,?_⟩
 ·intro b off hp
  have hin:MemPlace.cell b off∈before:=by rw [hps];simpa using hp
  rw [hb.frozen (hlt _ hin)];exact hz b off hin
 ·intro ha
  have:=hn ha;rw [hps] at this;simpa using this
 intro p hp _;rw [hps];simpa using hp
end
end Go.Ab
namespace Go.Ab
open Go.RowKit Go.WideShapes Go.ChangeShapes
inductive gn where
 |int
 |bool
 |str
 |sl (sz bw:Nat) (s:gn)
 |st (fs:List gn)
mutual
def gn.n:gn→Nat
 | .st fs=>gn.nL fs
 | .int=>1
 | .bool=>1
 | .str=>1
 | .sl _ _ _=>1
def gn.nL:List gn→Nat
 |[]=>0
 |s::r=>s.n+gn.nL r
end
def gn.pack:gn→List AV→AV
 | .st _,us=>.agg us
 |_,us=>us.headD .any
mutual
def gn.sat:gn→List AV→Prop
 | .int,us=>∃ n:Int,(-9223372036854775808≤n∧n≤9223372036854775807)∧us=[.int n]
 | .bool,us=>∃ b:Bool,us=[.bool b]
 | .str,us=>∃ b:ByteArray,b.size≤140737488355328∧us=[.v (.string b)]
 | .sl sz bw s,us=>∃ es,us=[.cD sz bw es]∧∀ e∈es,s.sat e.cells∧e=s.pack e.cells
 | .st fs,us=>gn.IK fs us
def gn.IK:List gn→List AV→Prop
 |[],us=>us=[]
 |s::r,us=>∃ a b,us=a++b∧s.sat a∧gn.IK r b
end
theorem gn.Fq {s:gn} {us:List AV} (h:s.sat us):(s.pack us).cells=us:=by
 cases s with
 |int=>obtain ⟨n,_,rfl⟩:=h;rfl
 |bool=>obtain ⟨n,rfl⟩:=h;rfl
 |str=>obtain ⟨n,_,rfl⟩:=h;rfl
 |sl sz bw s=>obtain ⟨n,rfl,_⟩:=h;rfl
 |st fs=>rfl
mutual
def gn.ok (P:Program):gn→TypeId→Bool
 | .int,t=>match P.underlying t with|some (.int .i64)=>true|_=>false
 | .bool,t=>match P.underlying t with|some .bool=>true|_=>false
 | .str,t=>match P.underlying t with|some .string=>true|_=>false
 | .sl sz bw s,t=>match P.underlying t with
  |some (.slice e)=>P.cellsOf e == sz&&P.bytesOf e == bw&&s.n == sz&&decide (0 < sz)&&s.ok P e
  |_=>false
 | .st fs,t=>match P.underlying t with
  |some (.struct fl)=>P.cellsOf t == gn.nL fs&&gn.ML P fs 0 (fl.toList.map fun f=>(f.type,f.offset))
  |some (.array n e)=>P.cellsOf t == gn.nL fs&&gn.ML P fs 0 ((List.range n).map fun i=>(e,i * P.cellsOf e))
  |_=>false
def gn.ML (P:Program):List gn→Nat→List (TypeId×Nat)→Bool
 |[],_,[]=>true
 |s::q,i,f::r=>f.2 == i&&P.cellsOf f.1 == s.n&&s.ok P f.1&&gn.ML P q (i+s.n) r
 |_,_,_=>false
end
section
variable {H:Type} {enc:TypeId×Value→H} {P:Program} {w:World} {sp:Nat→Bool} {held:Bool}
theorem qe:∀ {ts:List TypeId} {ds:List (DataW H)} {i:Nat} {t:TypeId} {d:DataW H},ts[i]?=some t→ds[i]?=some d→∀ n∈d.weights P t,n∈DataW.weightsEach P ts ds
 |[],_,_,_,_,h,_,_,_=>by simp at h
 |_::_,[],_,_,_,_,h,_,_=>by simp at h
 |t0::ts,d0::ds,0,t,d,ht,h,n,hn=>by simp at h ht;subst h;subst ht;simp [DataW.weightsEach,hn]
 |t0::ts,d0::ds,i+1,t,d,ht,h,n,hn=>by
  have:=qe (ts:=ts) (ds:=ds) (i:=i) (t:=t) (d:=d) (by simpa using ht) (by simpa using h) n hn;simp [DataW.weightsEach,this]
mutual
theorem Fs:∀ (s:gn) (t:TypeId) (fuel:Nat) (cs:List Value) (d:DataW H×List MemPlace),s.ok P t=true→DataW.trod enc P w 0 sp held fuel t cs=some d→(∀ n∈d.1.weights P t,n≤reachBytes)→
 ∃ us,s.sat us∧us.length=s.n∧cs.length=s.n∧∀ (j:Nat) u y,us[j]?=some u→cs[j]?=some y→Conc (yw w) na u y
 | .int,t,fuel,cs,d,hok,h,hw=>by
  simp only [gn.ok] at hok;split at hok
  ·rename_i hu
   obtain ⟨n,rfl,rfl,hwf⟩:=DataW.trod_int hu h;have hb:-9223372036854775808≤n∧n≤9223372036854775807:=by simp [Lit.wf,IntKind.min,IntKind.max,IntKind.signed,IntKind.bits] at hwf;omega
   refine ⟨[.int n],⟨n,hb,rfl⟩,rfl,rfl,fun j u y hu hy=>?_⟩;cases j with
   |zero=>simp at hu hy;subst hu;subst hy;exact .v
   |succ j=>simp at hu
  cases hok
 | .bool,t,fuel,cs,d,hok,h,hw=>by
  simp only [gn.ok] at hok;split at hok
  ·rename_i hu
   obtain ⟨n,rfl,rfl⟩:=DataW.trod_bool hu h;refine ⟨[.bool n],⟨n,rfl⟩,rfl,rfl,fun j u y hu hy=>?_⟩;cases j with
   |zero=>simp at hu hy;subst hu;subst hy;exact .v
   |succ j=>simp at hu
  cases hok
 | .str,t,fuel,cs,d,hok,h,hw=>by
  simp only [gn.ok] at hok;split at hok
  ·rename_i hu
   obtain ⟨n,rfl,rfl,hm⟩:=DataW.trod_string hu h;have hb:n.size≤140737488355328:=by have:=hw n.data.toList.length (by simp [DataW.weights]);simp only [qi5,reachBytes] at this;have e:n.data.size=n.size:=rfl;omega
   refine ⟨[.v (.string n)],⟨n,hb,rfl⟩,rfl,rfl,fun j u y hu hy=>?_⟩;cases j with
   |zero=>simp at hu hy;subst hu;subst hy;exact .v
   |succ j=>simp at hu
  cases hok
 | .sl sz bw s,t,fuel,cs,d,hok,h,hw=>by
  simp only [gn.ok] at hok;split at hok
  ·rename_i e hu
   simp only [qa1,beq_iff_eq,decide_eq_true_eq] at hok;obtain ⟨⟨⟨⟨h1,h2⟩,h3⟩,h4⟩,h5⟩:=hok;rcases DataW.trod_slice hu h with ⟨rfl,rfl⟩|⟨a,len,cap,elems,rest,n,rfl,rfl,rfl,hb,hl,hc,hel,bp,_,_⟩
   ·refine ⟨[.cD sz bw []],⟨[],rfl,by simp⟩,rfl,rfl,fun j u y hu hy=>?_⟩
    cases j with
    |zero=>
     simp at hu hy;subst hu;subst hy;exact .cD (es:=[]) [] aC aC aC aC aC aC aC
    |succ j=>simp at hu
   rw [h1] at bp;have key:∀ i,i < len→∃ x:AV,(s.sat x.cells∧x=s.pack x.cells)∧x.cells.length=sz∧∃ ci,w.cells? 0 (a.add (i * sz)) sz=some ci∧∀ (j:Nat) u y,x.cells[j]?=some u→ci[j]?=some y→Conc (yw w) na u y:=by
    intro i hi;have hg:=bp i hi;have hlt:i < elems.length:=by omega
    rw [qa7 hlt] at hg;rw [Option.bind_eq_some_iff] at hg;obtain ⟨ci,hci,htr⟩:=hg;obtain ⟨us,x1,x2,_,x4⟩:=Fs s e n ci elems[i] h5 htr (fun m hm=>hw m (by
     have:=mY (P:=P) (e:=e) (ds:=elems.map (·.1)) (i:=i) (d:=elems[i].1) (by simp [hlt]) m hm;simp [DataW.weights,hu,this]))
    have hpc:=gn.Fq x1;exact ⟨s.pack us,⟨by rw [hpc];exact x1,by rw [hpc]⟩,by rw [hpc];omega,ci,hci,by rw [hpc];exact x4⟩
   obtain ⟨es,hes,hq⟩:=GL len key;have hwl:(elems.length+rest.length) * bw≤reachBytes:=by have:=hw ((elems.length+rest.length) * P.bytesOf e) (by simp [DataW.weights,hu]);rwa [h2] at this
   have hbytes:es.length * bw≤reach:=by
    have h6:es.length * bw≤(elems.length+rest.length) * bw:=qh5 _ ak;have h7:reachBytes≤reach:=by decide
    omega
   have hmem:∀ e∈es,(s.sat e.cells∧e=s.pack e.cells)∧e.cells.length=sz:=by intro e he;obtain ⟨i,hi⟩:=qf2 he;have:=hq i e hi;exact ⟨this.1,this.2.1⟩
   refine ⟨[.cD sz bw es],⟨es,rfl,fun e he=>(hmem e he).1⟩,rfl,rfl,fun j u y hu hy=>?_⟩;cases j with
   |succ j=>simp at hu
   |zero=>
    simp at hu hy;subst hu;subst hy;have cell:∀ j,j < len * sz→∃ (e:AV) (ci:List Value),es[j / sz]?=some e∧w.cell? (a.add j)=ci[j % sz]?∧j % sz < ci.length∧(es.flatMap AV.cells)[j]?=e.cells[j % sz]?∧∀ (r:Nat) u y,e.cells[r]?=some u→ci[r]?=some y→Conc (yw w) na u y:=by
     intro j hj;have hk:j / sz < len:=(Nat.div_lt_iff_lt_mul h4).2 hj;have hr:j % sz < sz:=Nat.mod_lt _ h4;have hke:j / sz < es.length:=by omega
     obtain ⟨_,q2,ci,q3,q4⟩:=hq (j / sz) es[j / sz] (qa7 hke);obtain ⟨c1,c2⟩:=IN q3;have hjj:j / sz * sz+j % sz=j:=by rw [Nat.mul_comm];exact Nat.div_add_mod j sz
     refine ⟨_,ci,qa7 hke,?_,by omega,?_,q4⟩
     ·have:=c2 _ hr
      rw [pt,hjj] at this;exact this
     have:=flat_get (fun e he=>(hmem e he).2) (qa7 hke) hr;rw [hjj] at this;exact this
    have:=Conc.cD (G:=yw w) (β:=na) (sz:=sz) (bw:=bw) (es:=es) (A:=some a) (c:=cap) ((List.range (len * sz)).map fun j=>(w.cell? (a.add j)).getD .nilFunc) (fun e he=>(hmem e he).2) (by simp [hes]) ak hbytes (fun _=>by simp)
     (fun j y hy=>by
      have hj:j < len * sz:=by have:=bX hy;simpa using this
      obtain ⟨e,ci,_,q2,q3,_⟩:=cell j hj;simp only [qc9,List.getElem?_range hj,qg2,qd9] at hy;rw [qa7 q3] at q2;rw [q2] at hy;simp at hy;exact ⟨a,rfl,IM (by rw [q2,hy])⟩)
     (fun j x y hx hy=>by
      have hj:j < len * sz:=by have:=bX hy;simpa using this
      obtain ⟨e,ci,_,q2,q3,q4,q5⟩:=cell j hj;simp only [qc9,List.getElem?_range hj,qg2,qd9] at hy;rw [qa7 q3] at q2;rw [q2] at hy;simp at hy;rw [q4] at hx;exact q5 _ _ _ hx (by rw [qa7 q3,hy]))
    rw [hes] at this;exact this
  cases hok
 | .st fs,t,fuel,cs,d,hok,h,hw=>by
  simp only [gn.ok] at hok;split at hok
  ·rename_i fl hu
   simp only [qa1,beq_iff_eq] at hok;obtain ⟨h1,h3⟩:=hok;obtain ⟨xs,n,rfl,rfl,hl,hxl,hf⟩:=DataW.trod_struct hu h;obtain ⟨us,u1,u2,u3⟩:=Bu fs 0 (fl.toList.map fun f=>(f.type,f.offset)) n cs xs h3 ak (by simp [hxl])
    (fun k t o hk=>by
     simp only [qc9,qa6] at hk;obtain ⟨f,hk,he⟩:=hk;cases he;exact hf k f (by simpa using hk))
    (fun k t o x hk hx m hm=>by
     simp only [qc9,qa6] at hk;obtain ⟨f,hk,he⟩:=hk;cases he;refine hw m ?_;simp only [DataW.weights,hu];exact qe (i:=k) (t:=f.type) (d:=x.1) (by rw [qc9,hk];rfl) (by rw [qc9,hx];rfl) m hm)
   exact ⟨us,u1,u2,by rw [gn.n];omega,fun j u y hx hy=>u3 j u y hx (by simpa using hy)⟩
  ·rename_i k e hu
   simp only [qa1,beq_iff_eq] at hok;obtain ⟨h1,h3⟩:=hok;obtain ⟨xs,n,rfl,rfl,hl,hxl,hf⟩:=DataW.trod_array hu h;obtain ⟨us,u1,u2,u3⟩:=Bu fs 0 ((List.range k).map fun i=>(e,i * P.cellsOf e)) n cs xs h3 ak (by simp [hxl])
    (fun i t o hk=>by
     simp only [qc9,qa6] at hk;obtain ⟨f,hk,he⟩:=hk;cases he;have hi:i < k:=by have:=bX hk;simpa using this
     rw [List.getElem?_range hi] at hk;cases hk;exact hf i hi)
    (fun i t o x hk hx m hm=>by
     simp only [qc9,qa6] at hk;obtain ⟨f,hk,he⟩:=hk;cases he;refine hw m ?_;simp only [DataW.weights,hu];exact mY (i:=i) (d:=x.1) (by rw [qc9,hx];rfl) m hm)
   exact ⟨us,u1,u2,by rw [gn.n];omega,fun j u y hx hy=>u3 j u y hx (by simpa using hy)⟩
  cases hok
theorem Bu:∀ (fs:List gn) (i:Nat) (fl:List (TypeId×Nat)) (n:Nat) (cs:List Value) (xs:List (DataW H×List MemPlace)),gn.ML P fs i fl=true→cs.length=i+gn.nL fs→xs.length=fl.length→
 (∀ (k:Nat) t o,fl[k]?=some (t,o)→DataW.trod enc P w 0 sp held n t ((cs.drop o).take (P.cellsOf t))=xs[k]?)→(∀ (k:Nat) t o (x:DataW H×List MemPlace),fl[k]?=some (t,o)→xs[k]?=some x→∀ m∈x.1.weights P t,m≤reachBytes)→
 ∃ us,gn.IK fs us∧us.length=gn.nL fs∧∀ (j:Nat) u y,us[j]?=some u→cs[i+j]?=some y→Conc (yw w) na u y
 |[],i,[],n,cs,xs,_,_,_,_,_=>⟨[],rfl,rfl,by simp⟩
 |[],_,_::_,_,_,_,h,_,_,_,_=>by simp [gn.ML] at h
 |_::_,_,[],_,_,_,h,_,_,_,_=>by simp [gn.ML] at h
 |s::fs,i,f::fl,n,cs,[],h,_,hx,_,_=>by simp at hx
 |s::fs,i,f::fl,n,cs,x::xs,h,hl,hx,hg,hw=>by
  simp only [gn.ML,qa1,beq_iff_eq] at h;obtain ⟨⟨⟨h1,h2⟩,h4⟩,h5⟩:=h;have g0:=hg 0 f.1 f.2 aC;simp only [qb9,h1,h2] at g0;simp only [gn.nL] at hl;obtain ⟨us,a1,a2,a3,a5⟩:=Fs s f.1 n _ x h4 g0 (fun m hm=>hw 0 f.1 f.2 x aC aC m hm);obtain ⟨vs,b1,b2,b3⟩:=Bu fs (i+s.n) fl n cs xs h5 ak (by simpa using hx) (fun k t o hk=>by simpa using hg (k+1) t o (by simpa using hk)) (fun k t o x hk hx m hm=>hw (k+1) t o x (by simpa using hk) (by simpa using hx) m hm);refine ⟨us++vs,⟨us,vs,rfl,a1,b1⟩,by simp [a2,b2,gn.nL],fun j v y hv hy=>?_⟩;rcases qc4 j us.length with hj|hj
  ·rw [qe1 hj] at hv
   refine a5 j v y hv ?_;rw [qc3,if_pos ak,qd0];exact hy
  rw [qc7 hj] at hv;exact b3 (j - us.length) v y hv (by rw [← hy];congr 1;omega)
end
def gn.top (P:Program) (s:gn) (t:TypeId):Bool:=match s with
 | .str=>false
 | .st _=>match P.underlying t with
  |some (.struct _)=>true
  |_=>false
 |_=>true
def gn.qd (P:Program):List gn→List TypeId→Bool
 |[],[]=>true
 |s::r,t::q=>s.ok P t&&s.top P t&&P.readableRec t&&decide (t < P.types.size)&&gn.qd P r q
 |_,_=>false
def gn.EY:List gn→List AV→Prop
 |[],xs=>xs=[]
 |s::r,xs=>∃ us q,xs=s.pack us::q∧s.sat us∧gn.EY r q
variable {W:World} {base:Nat}
theorem IP {s:gn} {t:TypeId} {v:Value} {d:DataW H} {ps:List MemPlace} (hok:s.ok P t=true) (htop:s.top P t=true) (hval:Value.okWide P W .any base t v)
 (h:DataW.Trod enc P W 0 (fun _=>true) true t v d ps) (hw:∀ n∈d.weights P t,n≤reachBytes):∃ us,s.sat us∧Conc (yw W) na (s.pack us) v:=by
 obtain ⟨fuel,h⟩:=h;obtain ⟨us,h1,h2,h3,h5⟩:=Fs s t fuel _ (d,ps) hok h hw;refine ⟨us,h1,?_⟩;cases s with
 |int=>
  simp only [gn.ok] at hok;split at hok
  ·rename_i hu
   obtain ⟨n,rfl⟩:=okWide_int hu hval;obtain ⟨m,_,rfl⟩:=h1;exact h5 0 _ _ rfl rfl
  cases hok
 |bool=>
  simp only [gn.ok] at hok;split at hok
  ·rename_i hu
   obtain ⟨n,rfl⟩:=okWide_bool hu hval;obtain ⟨m,rfl⟩:=h1;exact h5 0 _ _ rfl rfl
  cases hok
 |str=>cases htop
 |sl sz bw s=>
  simp only [gn.ok] at hok;split at hok
  ·rename_i e hu
   obtain ⟨a,l,c,rfl⟩:=okWide_slice hu hval;obtain ⟨m,rfl,_⟩:=h1;exact h5 0 _ _ rfl rfl
  cases hok
 |st fs=>
  simp only [gn.top] at htop;split at htop
  ·rename_i fl hu
   obtain ⟨cs,rfl,_⟩:=okWide_struct hu hval;have:=Conc.agg (G:=yw W) (β:=na) (cs:=us) cs.toList (by simpa [Value.cells] using h2.trans h3.symm) (fun j x y hx hy=>h5 j x y hx (by simpa [Value.cells] using hy));simpa [gn.pack] using this
  cases htop
theorem yx {W:World} {base:Nat}:∀ {shs:List gn} {ts:List TypeId} {vs:List Value} {ds:List (DataW H)} {ps:List MemPlace},gn.qd P shs ts=true→
 (∀ (j:Nat) t v,ts[j]?=some t→vs[j]?=some v→Value.okWide P W .any base t v)→DataW.TrodAll enc P W 0 (fun _=>true) true ts vs ds ps→(∀ n∈DataW.weightsEach P ts ds,n≤reachBytes)→
 ∃ xs,gn.EY shs xs∧w5 (yw W) xs vs
 |[],[],vs,ds,ps,_,_,h,_=>by
  obtain ⟨rfl,rfl,rfl⟩:=trodAll_nil h;exact ⟨[],rfl,rfl,by simp⟩
 |[],_::_,_,_,_,h,_,_,_=>by simp [gn.qd] at h
 |_::_,[],_,_,_,h,_,_,_=>by simp [gn.qd] at h
 |s::shs,t::ts,vs,ds,ps,hok,hval,h,hw=>by
  simp only [gn.qd,qa1] at hok;obtain ⟨⟨⟨⟨h1,h0⟩,_⟩,_⟩,h2⟩:=hok;obtain ⟨v,vs',d,ds',p,q,rfl,rfl,rfl,g1,g2⟩:=trodAll_cons h;obtain ⟨us,x1,x2⟩:=IP h1 h0 (hval 0 t v rfl rfl) g1 (fun n hn=>hw n (by simp [DataW.weightsEach,hn]));obtain ⟨xs,y1,y2,y3⟩:=yx h2 (fun j t v ht hv=>hval (j+1) t v (by simpa using ht) (by simpa using hv)) g2 (fun n hn=>hw n (by simp [DataW.weightsEach,hn]));refine ⟨s.pack us::xs,⟨us,xs,rfl,x1,y1⟩,by simp [y2],fun j a b ha hb=>?_⟩;cases j with
  |zero=>simp at ha hb;subst ha;subst hb;exact x2
  |succ j=>exact y3 j a b (by simpa using ha) (by simpa using hb)
theorem yy {W W':World} {sp':Nat→Bool} (hl:laidOutB P=true) (hb:Below W.heap.size W W'):∀ {shs:List gn} {ts:List TypeId} {vs:List Value} {ds:List (DataW H)} {ps:List MemPlace},gn.qd P shs ts=true→
 DataW.TrodAll enc P W 0 (fun _=>true) true ts vs ds ps→(∀ p∈ps,p.block < W.heap.size)→(∀ p∈ps,sp' p.block=true)→DataW.TrodAll enc P W' 0 sp' true ts vs ds ps
 |[],[],vs,ds,ps,_,h,_,_=>by
  obtain ⟨rfl,rfl,rfl⟩:=trodAll_nil h;exact rfl
 |[],_::_,_,_,_,h,_,_,_=>by simp [gn.qd] at h
 |_::_,[],_,_,_,h,_,_,_=>by simp [gn.qd] at h
 |s::shs,t::ts,vs,ds,ps,hok,h,hlt,hs=>by
  simp only [gn.qd,qa1,decide_eq_true_eq] at hok;obtain ⟨⟨⟨_,h1⟩,h2⟩,h3⟩:=hok;obtain ⟨v,vs',d,ds',p,q,rfl,rfl,rfl,g1,g2⟩:=trodAll_cons h;refine ⟨p,q,WideElems.Trod_stays hl h1 h2 g1 (fun x hx=>hb.same (hlt x (by simp [hx]))) (fun x hx=>hs x (by simp [hx])),?_,rfl⟩;exact yy hl hb h3 g2 (fun x hx=>hlt x (by simp [hx])) (fun x hx=>hs x (by simp [hx]))
theorem Fp {f:FuncId} {fn:Func} {s:ChangeSpec} {shs:List gn} {tb:TypeId} {args:Array Value} {ds gs:List (DataW H)} {before:List MemPlace} {apart fresh handsOn again:Bool}
 (hl:laidOutB P=true) (hres:fn.resultTypes=#[tb]) (htb:P.underlying tb=some .bool) (hok:gn.qd P shs fn.params.toList=true) (hvars:s.vars=[])
 (hfn:∀ ds:List (DataW H),ds.length=fn.params.size→s.fn H (ds++[])={results:=[.lit (.bool true)],args:=ds})
 (hlaw:∀ xs,gn.EY shs xs→bm P f xs (fun r=>r= .bool true))
 (hval:∀ (j:Nat) t v,fn.params[j]?=some t→args[j]?=some v→Value.okWide P W .any base t v)
 (hW:DataW.Whole enc P fn.params.toList s.vars apart W args.toList ds gs before)
 (hsz:(DataW.weightsEach P (fn.params.toList++s.plain.varTypes P) (ds++gs)).all (· ≤reachBytes)=true):
 Calls P f args W fun e W'=>∃ v,e= .returned v∧s.post enc P fn apart fresh handsOn again W args v W':=by
 have hW0:=hW;have hltb:∀ p∈before,p.block < W.heap.size:=fun p hp=>hW.lt p hp;obtain ⟨p,q,hA,hV,rfl,hfz,hnd⟩:=hW;rw [hvars] at hV;obtain ⟨rfl,rfl⟩:=trodVars_none hV;have hv0:s.plain.varTypes P=[]:=by simp [ChangeSpec.plain,DataSpec.varTypes,hvars]
 rw [hv0] at hsz;simp only [qe5] at hsz;have hwt:∀ n∈DataW.weightsEach P fn.params.toList ds,n≤reachBytes:=fun n hn=>by simpa using qc8.1 hsz n hn
 obtain ⟨xs,hx1,hx2⟩:=yx (base:=base) hok (fun j t v ht hv=>hval j t v (by simpa using ht) (by simpa using hv)) hA hwt;have hc:=hlaw xs hx1 (yw W) W args.toList (fun b o hb=>hb) hx2;simp only [qf5] at hc;have hdl:ds.length=fn.params.size:=by
  have:∀ {ts:List TypeId} {vs:List Value} {ds:List (DataW H)} {ps:List MemPlace},DataW.TrodAll enc P W 0 (fun _=>true) true ts vs ds ps→ds.length=ts.length:=by
   intro ts
   induction ts with
   |nil=>intro vs ds ps h;obtain ⟨rfl,rfl,rfl⟩:=trodAll_nil h;rfl
   |cons t ts ih=>intro vs ds ps h;obtain ⟨v,vs',d,ds',p,q,rfl,rfl,rfl,g1,g2⟩:=trodAll_cons h;simp [ih g2]
  simpa using this hA
 refine hc.mono fun e W' ⟨y,G',x,he,hQ,hcx,_,_,hext⟩=>⟨y,he,?_⟩
 subst hQ;have hy:=jk hcx;subst hy;have e1:=hfn ds hdl;refine y7 (pa:=p) (pv:=[]) hW0 (fun b sp hd=>?_) (fun sp hs=>?_) (fun sp hs=>?_) rfl hext ?_
 ·rw [e1,hres]
  exact trodAll_mk1 (shut_bool htb true)
 ·rw [e1]
  exact yy hl hext hok hA (fun x hx=>hltb x (by simp [hx])) (fun x hx=>hs x (by simp [hx]))
 ·rw [e1,hvars]
  exact rfl
 exact ok_one hres rfl (okWide_bool_mk htb true)
end
theorem uz {a:Assume} {C:Checked} {os:Os} {f:FuncId} {r:Reach} {Pre:World→Array Value→Prop} {Post:World→Array Value→Value→World→Prop}
 (h:ReturnsInHanded a C os f r Pre Post):ReturnsInLeavingWide a C os f r Pre Post:=fun enter=>
 ReturnsInOpen.mono (fun last w t x=>⟨x.2.1,⟨fun g hg=>⟨0,by
  have:=qc8.1 x.1.1 g hg;show g.status=_;simpa using this⟩,x.1.2⟩,x.2.2⟩) (fun _ x=>x) (h enter)
end Go.Ab
