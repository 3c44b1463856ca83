/- Part of a proof. No condition. -/
import Derived.Laws.CopyRow
import Derived.Lib.SliceRun
import Derived.Lib.SlicesCompact
import Derived.Sort.Grow
import Derived.Test.YtkbiagkbmodgdaaGreatZab
set_option linter.unusedSimpArgs false
set_option linter.unusedVariables false
namespace Go.Ab
open Go.RowKit
variable {P:Program}
def xE (id:Nat) (x:AV):Prop:=∀ j,j≠id→AV.cq j x=false
def Ce (G:bI) (β:c9) (args:List AV) (vals:List Value):Prop:=args.length=vals.length∧∀ (j:Nat) x y,args[j]?=some x→vals[j]?=some y→Conc G β x y
def kq (β:c9) (id:Nat):Nat→Prop:=fun b=>∃ t,β id= .at b t
def en (P:Program) (f:FuncId) (args:List AV) (id:Nat) (bk:iB) (Q:AV→iB→Prop):Prop:=
 ∀ β G w vals out lp,dx ⟨w,kq β id,G,out,lp⟩ β G [(id,bk)] w→Ce G β args vals→Calls P f vals.toArray w fun e w'=>
  ∃ y G' β' x bk',e= .returned y∧Q x bk'∧xE id x∧AV.cu bk'.cs=true∧Conc G' β' x y∧dx ⟨w,kq β id,G,out,lp⟩ β' G' [(id,bk')] w'
theorem fV {id i:Nat} {bk bk':iB} (h:bp [(id,bk)] i=some bk'):id=i∧bk=bk':=by
 simp only [bp] at h;split at h
 ·rename_i hi;exact ⟨hi,by injection h⟩
 cases h
theorem Jz {R:Rg} {β:c9} {G:bI} {hp:Hp} {w:World} (h:dx R β G hp w) {id:Nat} {bk:iB} (hb:bp hp id=some bk) (hT:bk.T < 1000000000):dx ⟨w,kq β id,G,R.out,iw R⟩ β G [(id,bk)] w:=by
 refine ⟨h.gs,fun i bk' hi=>?_,fun i j b t t' hi hj _ _=>?_,⟨rfl,rfl,rfl,qb3 _,fun _ _ _=>rfl⟩,fun b hb=>.inl hb,h.kL,jw.one⟩
 ·obtain ⟨rfl,rfl⟩:=fV hi
  have:=h.blk _ _ hb;unfold bZ at this ⊢;cases hβ:β id with
  |no=>rw [hβ] at this;exact this
  |nil=>rw [hβ] at this;exact this
  |«at» b t=>
   rw [hβ] at this;obtain ⟨g1,_,g3⟩:=this;exact ⟨g1,.inr ⟨t,hβ⟩,g3⟩
  |gh o=>rw [hβ] at this;exact absurd hT (Nat.not_lt.2 (vD.R4 this).2)
 obtain ⟨x,hx⟩:=qb0.1 hi;obtain ⟨y,hy⟩:=qb0.1 hj;exact (fV hx).1.symm.trans (fV hy).1
end Go.Ab
namespace Go.Ab
open Go.RowKit
variable {P:Program}
def gF (P:Program) (rs:Array ResultVar) (id:Nat) (Q:AV→iB→Prop):Exit→St→Prop
 | .normal,s| .ret,s=>∃ s' x bk',Le s s'∧RV P rs s' x∧bp s'.hp id=some bk'∧xE id x∧AV.cu bk'.cs=true∧Q x bk'
 |_,_=>False
variable {w:World}
theorem As {b:Nat} {arr arr':Array Value} {T:TypeId} (_hb:w.heap[b]?=some (.cells arr T (0,0))):w.grownBy (w.setRow b arr') (some b):=
 ⟨rfl,rfl,rfl,by simp,fun k _ hk=>setRow_other w b k arr' (fun e=>hk (by rw [e]))⟩
def PW (G:bI) (β:c9) (cs:List AV) (l:List Value):Prop:=∀ (i:Nat) x y,cs[i]?=some x→l[i]?=some y→Conc G β x y
variable {G:bI} {β:c9} {cs:List AV} {l:List Value}
theorem PW.take (h:PW G β cs l) (n:Nat):PW G β (cs.take n) (l.take n):=fun i x y hx hy=>by
 rw [qc3] at hx hy;split at hx
 ·rename_i hi;rw [if_pos hi] at hy;exact h i x y hx hy
 cases hx
theorem PW.drop (h:PW G β cs l) (n:Nat):PW G β (cs.drop n) (l.drop n):=fun i x y hx hy=>by
 rw [qd0] at hx hy;exact h _ x y hx hy
variable {id:Nat} {bk:iB}
theorem dx.rewrite {R:Rg} {hp:Hp} {w':World} (h:dx R β G hp w) {bk':iB} {row:Option Nat} (hb:bp hp id=some bk) (hg:w.grownBy w' row) (hrow:∀ b,row=some b→∃ t,β id= .at b t)
 (hk:match β id with| .no=>False| .gh _=>False| .nil=>bk'.cs=[]∧bk'.full=false| .at b t=>∃ arr:Array Value,w'.heap[b]?=some (.cells arr bk'.T (0,0))∧arr.size=t∧bk'.cs.length≤t∧
  (bk'.full=true→bk'.cs.length=t)∧∀ (j:Nat) x y,bk'.cs[j]?=some x→arr[j]?=some y→Conc G β x y):dx R β G (cP hp id bk') w':=by
 have hrb:∀ b,row=some b→G b=none∧(R.w0.heap.size≤b∨R.ex b)∧b < w.heap.size:=fun b hb'=>by
  obtain ⟨t,ht⟩:=hrow b hb';obtain ⟨g1,g2,arr,g3,_⟩:=h.block hb ht;exact ⟨g1,g2,db g3⟩
 have his:∀ i,(bp (cP hp id bk') i).isSome→(bp hp i).isSome:=fun i hi=>by
  rw [cO] at hi;split at hi
  ·rename_i e;subst e;rw [hb];rfl
  exact hi
 refine ⟨fun b o hb'=>?_,fun i bk1 hi=>?_,fun i j b t t' hi hj hbi hbj=>h.inj i j b t t' (his i hi) (his j hj) hbi hbj,?_,h.kH,h.kL,h.iC.sub his⟩
 ·have h1:=h.gs b o hb'
  rw [hg.block b (db h1) (fun e=>by have:=(hrb b e.symm).1;rw [hb'] at this;cases this)];exact h1
 ·rw [cO] at hi
  split at hi
  ·rename_i e
   subst e;injection hi with hi;subst hi
   have h0:=h.blk id bk hb;unfold bZ at h0 ⊢;cases hβ:β id with
   |no=>rw [hβ] at hk;exact hk
   |gh o=>rw [hβ] at hk;exact hk.elim
   |nil=>rw [hβ] at hk;exact hk
   |«at» b t=>
    rw [hβ] at hk h0;exact ⟨h0.1,h0.2.1,hk⟩
  rename_i hne;have:=h.blk i bk1 hi;unfold bZ at this ⊢;cases hβ:β i with
  |no=>rw [hβ] at this;exact this
  |gh o=>rw [hβ] at this;exact this
  |nil=>rw [hβ] at this;exact this
  |«at» b t=>
   rw [hβ] at this;obtain ⟨g1,g2,arr',g3,g4⟩:=this;refine ⟨g1,g2,arr',?_,g4⟩;rw [hg.block b (db g3) (fun e=>by
    obtain ⟨t',ht'⟩:=hrow b e.symm;exact hne (h.inj id i b t' t (by rw [hb];rfl) (by rw [hi];rfl) ht' hβ))]
   exact g3
 have hk:=h.keeps;refine ⟨hg.os.trans hk.os,hg.tape.trans hk.tape,hg.output.trans hk.output,qd3 hk.size hg.size,fun j h1 h2=>?_⟩;rw [hg.block j (qi4 h1 hk.size) (fun e=>by rcases (hrb j e.symm).2.1 with h3|h3;omega;exact h2 h3)];exact hk.block j h1 h2
theorem nT {t el:TypeId} {x:Operand} {sz bw l k:Nat} {z:Value} {ty:TypeId} {pos:String} {bF:Array Edge} {g:Option (Nat×Bool)} {s:St} {K:St→Prop}
 [hu:cT P t (.slice el)] [hi:dI P el z sz bw]
 (hb:bp s.hp id=some bk) (hx:s.eval x=Fz sz bw id (l * sz) k) (hT:bk.T=el) (hz:z.cells.toList.all (·.oneCell')=true) (hzs:z.cells.size=sz) (hl:(l+k) * sz≤bk.cs.length)
 (hk:K ⟨s.fr,cP s.hp id ⟨el,bk.cs.take (l * sz),false⟩⟩) (hel:el < 1000000000:=by decide):
 ff P ⟨none,.call {callee:=.builtin .clear,args:=#[x],argTypes:=#[t]},ty,pos,bF,g⟩ s K:=by
 intro R β G a w Q hr;have e1:=hr.eval x;rw [hx] at e1;generalize hxv:a.eval x=vx at e1;obtain ⟨i0,hi0,hz0,hs0,hb0⟩:=hi.ok;have hexec:∀ r w',(Builtin.clear_ #[t] ty #[vx]).run P w= .ok r w'→(execOp a.eval ⟨none,.call {callee:=.builtin .clear,args:=#[x],argTypes:=#[t]},ty,pos,bF,g⟩).run P w= .ok (.value r) w':=by intro r w' h;simp [execOp,resolve,invoke,builtin,hxv,h]
 have hlk:(l+k) * sz=l * sz+k * sz:=qj9 _ _ _;have hblk:=hr.hp.blk id bk hb;unfold Oper.wp;have fin:∀ (w':World) (row:Option Nat),(Builtin.clear_ #[t] ty #[vx]).run P w= .ok (.tuple #[]) w'→w.grownBy w' row→(∀ b,row=some b→∃ t,β id= .at b t)→
  (∀ b tt,β id= .at b tt→∃ arr':Array Value,w'.heap[b]?=some (.cells arr' el (0,0))∧arr'.size=tt∧∀ arr:Array Value,w.heap[b]?=some (.cells arr el (0,0))→arr'.toList.take (l * sz)=arr.toList.take (l * sz))→(∀ b tt,β id= .at b tt→row=some b)→
  Oper.upon P ⟨none,.call {callee:=.builtin .clear,args:=#[x],argTypes:=#[t]},ty,pos,bF,g⟩ a (RK R K) Q ((execOp a.eval ⟨none,.call {callee:=.builtin .clear,args:=#[x],argTypes:=#[t]},ty,pos,bF,g⟩).run P w):=by
  intro w' row hrun hgr hrow hat hrb;rw [hexec _ _ hrun,Oper.upon_value];unfold bZ at hblk;cases hβ:β id with
  |no=>rw [hβ] at hblk;exact hblk.elim
  |gh o=>rw [hβ] at hblk;have hbig:=(vD.R4 hblk).2;rw [hT] at hbig;exact absurd hel (Nat.not_lt.2 hbig)
  |nil=>
   rw [hβ] at hblk;have hrep:=hr.hp.rewrite (bk':=⟨el,bk.cs.take (l * sz),false⟩) hb hgr hrow (by rw [hβ];exact ⟨by simp [hblk.1],rfl⟩);exact ⟨_,_,_,hk,⟨hr.defers,hr.size,hr.fr,hrep⟩⟩
  |«at» b tt=>
   rw [hβ] at hblk;obtain ⟨g1,g2,arr,g3,g4,g5,g6,g7⟩:=hblk;obtain ⟨arr',a1,a2,a3⟩:=hat b tt hβ;have hrep:=hr.hp.rewrite (bk':=⟨el,bk.cs.take (l * sz),false⟩) hb hgr hrow (by
    rw [hβ];refine ⟨arr',a1,a2,by simp only [qc0];omega,(fun h=>by cases h),fun i u v hu' hv=>?_⟩;have hi:i < l * sz:=by have:=bX hu';simp at this;omega
    rw [qc3,if_pos hi] at hu';have h4:arr'.toList[i]?=arr.toList[i]?:=by have:=congrArg (fun q=>q[i]?) (a3 arr (by rw [← hT];exact g3));simpa [qc3,hi] using this
    refine g7 i u v hu' ?_;have h5:arr'.toList[i]?=some v:=by simpa using hv
    rw [h4] at h5;simpa using h5)
   exact ⟨_,_,_,hk,⟨hr.defers,hr.size,hr.fr,hrep⟩⟩
 have hsame:∀ (b tt:Nat),β id= .at b tt→∃ arr':Array Value,w.heap[b]?=some (.cells arr' el (0,0))∧arr'.size=tt∧∀ arr:Array Value,w.heap[b]?=some (.cells arr el (0,0))→arr'.toList.take (l * sz)=arr.toList.take (l * sz):=by intro b tt hβ;obtain ⟨g1,g2,arr,g3,g4,g5,g6,g7⟩:=hr.hp.block hb hβ;refine ⟨arr,by rw [← hT];exact g3,g4,fun arr2 h2=>?_⟩;rw [hT] at g3;rw [g3] at h2;injection h2 with h2;injection h2 with h2;subst h2;rfl
 rcases qj4 k with hk0|hk0
 ·subst hk0
  simp only [Fz,if_true] at e1;obtain ⟨A,c,rfl,_⟩:∃ A c,vx= .slice A 0 c∧True:=by
   generalize hq:AV.cD sz bw []=q at e1;cases e1 with
   |cD ys hu' hl'=>injection hq with _ _ q3;subst q3;exact ⟨_,_,rfl,trivial⟩
   |_=>cases hq
  have hrun:(Builtin.clear_ #[t] ty #[.slice A 0 c]).run P w= .ok (.tuple #[]) w:=by cases A<;>simp [Builtin.clear_,run_underlying hu.ok]
  cases hβ:β id with
  |no=>unfold bZ at hblk;rw [hβ] at hblk;exact hblk.elim
  |gh o=>unfold bZ at hblk;rw [hβ] at hblk;have hbig:=(vD.R4 hblk).2;rw [hT] at hbig;exact absurd hel (Nat.not_lt.2 hbig)
  |nil=>exact fin w none hrun (World.grownBy.refl w none) (fun _ h=>by cases h) hsame (fun b tt h=>by rw [hβ] at h;cases h)
  |«at» b tt=>exact fin w (some b) hrun (World.grownBy.refl w (some b)) (fun b' h=>by injection h with h;subst h;exact ⟨tt,hβ⟩) hsame (fun b' tt' h=>by rw [hβ] at h;injection h with h1 h2;rw [h1])
 rw [Fz,if_neg ak] at e1;obtain ⟨c,b,tt,hβ,rfl⟩:∃ c b tt,β id= .at b tt∧vx= .slice (some ⟨b,l * sz,none⟩) k c:=by
  generalize l * sz=o at e1 ⊢;cases e1 with
  |lU hβ=>exact absurd hk0 (Nat.lt_irrefl 0)
  |sl h=>exact ⟨_,_,_,h,rfl⟩
 obtain ⟨g1,g2,arr,g3,g4,g5,g6,g7⟩:=hr.hp.block hb hβ;rw [hT] at g3;have hzv:(Builtin.zeroCells z.cells k).size=k * sz:=by rw [size_zeroCells,hzs]
 have hst:=run_storeCells_at P b (l * sz) el (Builtin.zeroCells z.cells k).toList 0 arr w g3 (by simp [hzv];omega) (fun v hv=>by
  simp only [Builtin.zeroCells,Array.toList_map,qe7] at hv;obtain ⟨i,hi',rfl⟩:=hv;have hlt:i % z.cells.size < z.cells.size:=by
   apply Nat.mod_lt;rw [hzs];rcases qj4 sz with h|h
   ·subst h
    simp [hzs] at hi'
   exact h
  rw [getElem!_pos z.cells _ hlt];exact qc8.1 hz _ aC)
 have hzval:(zeroValue el).run P w= .ok z w:=pq hi w;obtain ⟨k',rfl⟩:∃ k',k=k'+1:=⟨k - 1,by omega⟩
 have hrun:(Builtin.clear_ #[t] ty #[.slice (some ⟨b,l * sz,none⟩) (k'+1) c]).run P w= .ok (.tuple #[]) (w.setRow b (arr.toList.take (l * sz)++(Builtin.zeroCells z.cells (k'+1)).toList++arr.toList.drop (l * sz+(k'+1) * sz)).toArray):=by simp only [Nat.add_zero,qi5,hzv] at hst;simp [Builtin.clear_,run_underlying hu.ok,hzval,hst]
 refine fin _ (some b) hrun (As g3) (fun b' h=>by injection h with h;subst h;exact ⟨tt,hβ⟩) (fun b' tt' h=>?_) (fun b' tt' h=>by rw [hβ] at h;injection h with h1 h2;rw [h1]);rw [hβ] at h;injection h with h1 h2;subst h1;subst h2
 refine ⟨_,setRow_heap w b arr _ el (0,0) g3,?_,fun arr2 h2=>?_⟩
 ·simp only [List.size_toArray,qa3,qc0,List.length_drop,qi5,hzv]
  omega
 rw [g3] at h2;injection h2 with h2;injection h2 with h2;subst h2
 have h5:(arr.toList.take (l * sz)).length=l * sz:=by simp;omega
 show ((arr.toList.take (l * sz)++(Builtin.zeroCells z.cells (k'+1)).toList)++arr.toList.drop (l * sz+(k'+1) * sz)).take (l * sz)=_;rw [qd6,List.take_append_of_le_length ak,qe8 ak]
end Go.Ab
namespace Go.Ab
open Go.RowKit
variable {P:Program}
mutual
def AV.gI (id sz bw n:Nat) (es:List AV):AV→AV
 | .agg cs=>.agg (AV.dM id sz bw n es cs)
 | .dC cs=>.dC (AV.dM id sz bw n es cs)
 | .fn f cs=>.fn f (AV.dM id sz bw n es cs)
 | .ptr i o=>if i=id then .any else .ptr i o
 | .yl i y=>if i=id then .any else .yl i y
 | .sl a b i o k=>if i=id then (if a=sz∧b=bw∧o=0∧k=n then .cD sz bw es else .any) else .sl a b i o k
 | .any=>.any
 | .v x=>.v x
 | .cD a b l=>.cD a b l
 | .bC l=>.bC l
def AV.dM (id sz bw n:Nat) (es:List AV):List AV→List AV
 |[]=>[]
 |x::r=>AV.gI id sz bw n es x::AV.dM id sz bw n es r
end
def iX (id sz bw n:Nat) (es:List AV):Hp→Hp
 |[]=>[]
 |(i,b)::r=>if i=id then iX id sz bw n es r else (i,{b with cs:=AV.dM id sz bw n es b.cs})::iX id sz bw n es r
theorem kT (id sz bw n:Nat) (es:List AV):∀ (l:List AV) (i:Nat),(AV.dM id sz bw n es l)[i]?=l[i]?.map (AV.gI id sz bw n es)
 |[],i=>by simp [AV.dM]
 |x::r,0=>by simp [AV.dM]
 |x::r,i+1=>by simp [AV.dM,kT id sz bw n es r i]
theorem kU (id sz bw n:Nat) (es l:List AV):(AV.dM id sz bw n es l).length=l.length:=by
 induction l with
 |nil=>rfl
 |cons x r ih=>simp [AV.dM,ih]
theorem HC (id sz bw n:Nat) (es l:List AV):AV.dM id sz bw n es l=l.map (AV.gI id sz bw n es):=by
 induction l with
 |nil=>rfl
 |cons x r ih=>simp [AV.dM,ih]
theorem mg (id sz bw n:Nat) (es:List AV) (hp:Hp) (i:Nat):bp (iX id sz bw n es hp) i=if id=i then none else (bp hp i).map fun b=>{b with cs:=AV.dM id sz bw n es b.cs}:=by
 induction hp with
 |nil=>simp [iX,bp]
 |cons p r ih=>
  obtain ⟨j,b⟩:=p;by_cases hj:j=id
  ·subst hj
   simp only [iX,if_true,ih,bp];split<;>rfl
  simp only [iX,hj,if_false,bp,ih];by_cases hji:j=i
  ·subst hji;simp [Ne.symm hj]
  simp [hji]
mutual
theorem HD {id sz bw n:Nat} {es:List AV}:∀ {x:AV},x.gq=true→AV.gI id sz bw n es x=x
 | .agg cs,h=>by simp only [AV.gI];rw [e8 (by simpa [AV.gq] using h)]
 | .dC cs,h=>by simp only [AV.gI];rw [e8 (by simpa [AV.gq] using h)]
 | .fn f cs,h=>by simp only [AV.gI];rw [e8 (by simpa [AV.gq] using h)]
 | .ptr i o,h=>by simp [AV.gq] at h
 | .yl i y,h=>by simp [AV.gq] at h
 | .sl a b i o k,h=>by simp [AV.gq] at h
 | .any,_=>rfl
 | .v x,_=>rfl
 | .cD a b l,_=>rfl
 | .bC l,_=>rfl
theorem e8 {id sz bw n:Nat} {es:List AV}:∀ {l:List AV},AV.cu l=true→AV.dM id sz bw n es l=l
 |[],_=>rfl
 |x::r,h=>by
  simp only [AV.cu,qa1] at h;simp only [AV.dM];rw [HD h.1,e8 h.2]
end
theorem Conc.gI {G G':bI} {β β':c9} {x:AV} {y:Value} (h:Conc G β x y) {id sz bw n:Nat} {es:List AV} (hβ:∀ j,j≠id→β' j=β j) (hG:∀ b o,G b=some o→G' b=some o)
 (hc:∀ y,Conc G β (.sl sz bw id 0 n) y→Conc G' na (.cD sz bw es) y):Conc G' β' (AV.gI id sz bw n es x) y:=by
 have key:∀ {β0 x y},Conc G β0 x y→β0=β→Conc G' β' (AV.gI id sz bw n es x) y:=by
  intro β0 x y h
  induction h with
  |any=>intro _;exact .any
  |v=>intro _;exact .v
  |agg xs hl hs ih=>
   intro e;refine .agg xs (by rw [kU];exact hl) fun j u v hu hv=>?_;rw [kT,qa6] at hu;obtain ⟨u0,hu0,rfl⟩:=hu;exact ih j u0 v hu0 hv e
  |dC xs hl hs ih=>
   intro e;refine .dC xs (by rw [kU];exact hl) fun j u v hu hv=>?_;rw [kT,qa6] at hu;obtain ⟨u0,hu0,rfl⟩:=hu;exact ih j u0 v hu0 hv e
  |fn xs hf hl hs ih=>
   intro e;refine .fn xs hf (by rw [kU];exact hl) fun j u v hu hv=>?_;rw [kT,qa6] at hu;obtain ⟨u0,hu0,rfl⟩:=hu;exact ih j u0 v hu0 hv e
  |sZ _ ih=>intro e;simp only [AV.gI,AV.dM];exact .sZ (ih e)
  |@ptr β1 i off b t hb=>
   intro e;subst e;simp only [AV.gI];split
   ·exact .any
   rename_i hi;exact .ptr (by rw [hβ i hi];exact hb)
  |@yl β1 i y l hb=>
   intro e;subst e;simp only [AV.gI];split
   ·exact .any
   rename_i hi;exact .yl (by rw [hβ i hi];exact hb)
  |@lU β1 a b i hb=>
   intro e;subst e;simp only [AV.gI];split
   ·rename_i hi;subst hi
    split
    ·rename_i hq;obtain ⟨rfl,rfl,_,rfl⟩:=hq
     exact (hc _ (.lU hb)).free _
    exact .any
   rename_i hi;exact .lU (by rw [hβ i hi];exact hb)
  |@sl β1 a b i off k c bb t hb hn ht hm hbw=>
   intro e;subst e;simp only [AV.gI];split
   ·rename_i hi;subst hi
    split
    ·rename_i hq;obtain ⟨rfl,rfl,rfl,rfl⟩:=hq
     exact (hc _ (.sl hb hn ht hm hbw)).free _
    exact .any
   rename_i hi;exact .sl (by rw [hβ i hi];exact hb) hn ht hm hbw
  |cD ys hu hl hc' hb hA hr hs _=>intro _;exact (Conc.cD (β:=β) ys hu hl hc' hb hA hr hs).ext (fun _ h=>by simp [AV.cq] at h) hG
  |bC ys hl hr hs _=>intro _;exact (Conc.bC (β:=β) ys hl hr hs).ext (fun _ h=>by simp [AV.cq] at h) hG
 exact key h rfl
variable {hp:Hp}
theorem JA {f:List AV} (id sz bw n:Nat) {bk:iB} (es:List AV) (hb:bp hp id=some bk) (hes:es.flatMap AV.cells=bk.cs)
 (hu:∀ e∈es,e.cells.length=sz) (hn:es.length=n) (hp1:AV.cu bk.cs=true) (hsz:0 < sz):Le ⟨f,hp⟩ ⟨AV.dM id sz bw n es f,iX id sz bw n es hp⟩:=by
 intro R β G a w h;have h0:=h.hp.blk id bk hb;unfold bZ at h0;have hoth:∀ j,j≠id→(β.set id .no) j=β j:=fun j hj=>by simp [c9.set,hj]
 have fin:∀ (G':bI),(∀ b o,G b=some o→G' b=some o)→(∀ b o,G' b=some o→w.heap[b]?=some o)→(∀ b,G' b≠none→R.g0 b≠none∨R.w0.heap.size≤b∨R.ex b)→
  (∀ j bk' b t,j≠id→bp hp j=some bk'→β j= .at b t→G' b=none)→(∀ y,Conc G β (.sl sz bw id 0 n) y→Conc G' na (.cD sz bw es) y)→∃ β' G',fw R β' G' ⟨AV.dM id sz bw n es f,iX id sz bw n es hp⟩ a w:=by
  intro G' hm hgs hdom hfree hc;refine ⟨β.set id .no,G',h.defers.mono hm,by rw [kU];exact h.size,fun j x y hj hy=>?_,⟨hgs,fun j bk' hj=>?_,fun j k b t t' hj hk hbj hbk=>?_,h.hp.keeps,hdom,h.hp.kL.gone,h.hp.iC.ext fun j _ hj=>by
   rw [mg] at hj;split at hj
   ·simp at hj
   rename_i hne;exact ⟨by simpa using hj,by simp [c9.set,Ne.symm hne]⟩⟩⟩
  ·rw [kT,qa6] at hj
   obtain ⟨x0,hx0,rfl⟩:=hj;exact (h.fr j x0 y hx0 hy).gI hoth hm hc
  ·rw [mg] at hj
   by_cases hid:id=j
   ·simp [hid] at hj
   simp only [hid,if_false,qa6] at hj;obtain ⟨bk1,hj1,rfl⟩:=hj;have:=h.hp.blk j bk1 hj1;unfold bZ at this ⊢;rw [hoth j (Ne.symm hid)];cases hβ:β j with
   |no=>rw [hβ] at this;exact this
   |nil=>rw [hβ] at this;exact ⟨by rw [this.1];rfl,this.2⟩
   |«at» b t=>
    rw [hβ] at this;obtain ⟨g1,g2,arr,g3,g4,g5,g6,g7⟩:=this;refine ⟨hfree j bk1 b t (Ne.symm hid) hj1 hβ,g2,arr,g3,g4,by simpa [kU] using g5,by simpa [kU] using g6,fun k x y hx hy=>?_⟩;simp only [kT,qa6] at hx;obtain ⟨x0,hx0,rfl⟩:=hx;exact (g7 k x0 y hx0 hy).gI hoth hm hc
   |gh o=>rw [hβ] at this;exact qX this hm (AV.gI id sz bw n es) (fun x _ y hx=>hx.gI hoth hm hc) _ (HC _ _ _ _ _ _)
  have key:∀ j b t,(β.set id .no) j= .at b t→j≠id:=fun j b t hb e=>by subst e;simp [c9.set] at hb
  have n1:=key j b t hbj;have n2:=key k b t' hbk;rw [hoth j n1] at hbj;rw [hoth k n2] at hbk;rw [mg,if_neg (Ne.symm n1)] at hj;rw [mg,if_neg (Ne.symm n2)] at hk;exact h.hp.inj j k b t t' (by simpa using hj) (by simpa using hk) hbj hbk
 cases hβ:β id with
 |no=>rw [hβ] at h0;exact h0.elim
 |gh o=>
  refine fin G (fun _ _ h=>h) h.hp.gs h.hp.kH (fun j bk' b t _ hj hbj=>(h.hp.block hj hbj).1) fun y hc=>?_;cases hc with
  |lU hb'=>rw [hβ] at hb';cases hb'
  |sl hb'=>rw [hβ] at hb';cases hb'
 |nil=>
  rw [hβ] at h0;have he:es=[]:=by
   cases es with
   |nil=>rfl
   |cons e es=>
    have h1:=hes;rw [h0.1,qd5] at h1;have h2:e.cells=[]:=(List.append_eq_nil_iff.1 h1).1;have:=hu e aC;rw [h2] at this;simp at this;omega
  refine fin G (fun _ _ h=>h) h.hp.gs h.hp.kH (fun j bk' b t _ hj hbj=>(h.hp.block hj hbj).1) fun y hc=>?_;subst he;cases hc with
  |lU _=>exact .cD (es:=[]) [] aC aC aC aC aC aC aC
  |sl hb'=>rw [hβ] at hb';cases hb'
 |«at» b t=>
  rw [hβ] at h0;obtain ⟨g1,g2,arr,g3,g4,g5,g6,g7⟩:=h0;have hm:∀ k o,G k=some o→(G.set b (.cells arr bk.T (0,0))) k=some o:=fun k o hk=>by
   simp only [bI.set];rw [if_neg (by rintro rfl;rw [g1] at hk;cases hk)];exact hk
  refine fin (G.set b (.cells arr bk.T (0,0))) hm (fun k o hk=>?_) (fun k hk=>?_) (fun j bk' b' t' hne hj hbj=>?_) fun y hc=>?_
  ·simp only [bI.set] at hk
   split at hk
   ·rename_i e;subst e;injection hk with hk;subst hk;exact g3
   exact h.hp.gs k o hk
  ·simp only [bI.set] at hk
   split at hk
   ·rename_i e;subst e;exact .inr g2
   exact h.hp.kH k hk
  ·have hbb:b'≠b:=fun e=>by subst e;exact hne (h.hp.inj j id b' t' t (by rw [hj];rfl) (by rw [hb];rfl) hbj hβ)
   simp only [bI.set];rw [if_neg hbb];exact (h.hp.block hj hbj).1
  cases hc with
  |lU hb'=>rw [hβ] at hb';cases hb'
  |@sl _ _ _ _ _ _ c b' t' hb' hnc ht hcm hbw=>
   rw [hβ] at hb';injection hb' with e1 e2;subst e1;subst e2
   subst hn;have hfl:(es.flatMap AV.cells).length=es.length * sz:=kc hu;have hle:es.length * sz≤arr.size:=by rw [← hfl,hes,g4];exact g5
   refine .cD (arr.toList.take (es.length * sz)) hu aO hnc hbw (fun _=>by simp) (fun j v hv=>⟨_,rfl,?_⟩) (fun j u v hu' hv=>?_)
   ·have hj:j < es.length * sz:=by have:=bX hv;simp at this;omega
    simp only [qc3,hj,if_true,qg4] at hv;rw [Addr.fM];simpa [ep,bI.set] using hv
   have hj:j < es.length * sz:=by have:=bX hv;simp at this;omega
   simp only [qc3,hj,if_true,qg4] at hv;rw [hes] at hu';exact ((g7 j u v hu' hv).oq (gB hp1 hu') na).mono hm
variable {fr:List AV} {T:TypeId} {full:Bool}
theorem cV {α:Type} {f:α→AV} (id sz bw n:Nat) {cs:List AV} (xs:List α) (hb:bp hp id=some ⟨T,cs,full⟩) (hcs:(xs.map f).flatMap AV.cells=cs) (hn:xs.length=n)
 (hc:∀ a,(f a).cells.length=sz) (hpu:∀ a,AV.cu (f a).cells=true) (hs:0 < sz):Le ⟨fr,hp⟩ ⟨AV.dM id sz bw n (xs.map f) fr,iX id sz bw n (xs.map f) hp⟩:=
 JA id sz bw n (xs.map f) hb hcs (fun e he=>by obtain ⟨a,_,rfl⟩:=qe7.1 he;exact hc a) (by simpa using hn) (by
  subst hcs;rw [qg9];exact gu _ xs hpu) hs
theorem mv (id n:Nat) (xs:List Int) (hb:bp hp id=some ⟨T,xs.map AV.int,full⟩) (hn:xs.length=n):
 Le ⟨fr,hp⟩ ⟨AV.dM id 1 8 n (xs.map AV.int) fr,iX id 1 8 n (xs.map AV.int) hp⟩:=
 cV (f:=AV.int) id 1 8 n xs hb (jV xs) hn (fun _=>rfl) (fun _=>rfl) ak
section
variable (id sz bw n:Nat) (es:List AV)
theorem HE (l:List AV):AV.gI id sz bw n es (.agg l)= .agg (AV.dM id sz bw n es l):=rfl
theorem HF (l:List AV):AV.gI id sz bw n es (.dC l)= .dC (AV.dM id sz bw n es l):=rfl
theorem JB (f:FuncId) (l:List AV):AV.gI id sz bw n es (.fn f l)= .fn f (AV.dM id sz bw n es l):=rfl
theorem HG (i o:Nat):AV.gI id sz bw n es (.ptr i o)=if i=id then .any else .ptr i o:=rfl
theorem JC (a b i o k:Nat):AV.gI id sz bw n es (.sl a b i o k)=if i=id then (if a=sz∧b=bw∧o=0∧k=n then .cD sz bw es else .any) else .sl a b i o k:=rfl
theorem HH:AV.gI id sz bw n es .any= .any:=rfl
theorem Nh (x:Value):AV.gI id sz bw n es (.v x)= .v x:=rfl
theorem HI (a b:Nat) (l:List AV):AV.gI id sz bw n es (.cD a b l)= .cD a b l:=rfl
theorem Er (l:List AV):AV.gI id sz bw n es (.bC l)= .bC l:=rfl
theorem Et:AV.dM id sz bw n es []=[]:=rfl
theorem Cj (x:AV) (r:List AV):AV.dM id sz bw n es (x::r)=AV.gI id sz bw n es x::AV.dM id sz bw n es r:=rfl
theorem Ck (xs:List Int):AV.dM id sz bw n es (xs.map AV.int)=xs.map AV.int:=e8 (dO AV.int xs fun _=>rfl)
theorem Au (xs:List Bool):AV.dM id sz bw n es (xs.map AV.bool)=xs.map AV.bool:=e8 (dO AV.bool xs fun _=>rfl)
theorem Cl:iX id sz bw n es []=[]:=rfl
theorem Av (i:Nat) (T:TypeId) (cs:List AV) (fl:Bool) (r:Hp):iX id sz bw n es ((i,⟨T,cs,fl⟩)::r)=if i=id then iX id sz bw n es r else (i,⟨T,AV.dM id sz bw n es cs,fl⟩)::iX id sz bw n es r:=rfl
end
attribute [go_sem] HE HF JB HG JC HH Nh HI Er Et Cj Ck Au Cl Av
variable {hp:Hp}
theorem fe {f:List AV} (p i id sz bw:Nat) (T:TypeId) {bk0:iB} (hb:bp hp p=some bk0) (hx:bk0.cs[i]?=some .fO) (hf:St.free ⟨f,hp⟩ id=true):Le ⟨f,hp⟩ ⟨f,cP (cP hp p {bk0 with cs:=bk0.cs.set i (.sl sz bw id 0 0)}) id ⟨T,[],false⟩⟩:=by
 intro R β G a w h;obtain ⟨f1,f2,f3⟩:=j9 hf;have hself:(β.set id .nil) id= .nil:=by simp [c9.set]
 have hoth:∀ j,j≠id→(β.set id .nil) j=β j:=fun j hj=>by simp [c9.set,hj]
 have hpid:p≠id:=fun e=>by subst e;rw [hb] at f2;cases f2
 refine ⟨β.set id .nil,G,h.defers,h.size,fun j x y hj hy=>(h.fr j x y hj hy).iM (f1 j x hj) _,⟨h.hp.gs,fun j bk hj=>?_,fun j k b t t' hj hk hbj hbk=>?_,h.hp.keeps,h.hp.kH,h.hp.kL.set _ (iD hf),h.hp.iC.Hn _ (by have:=iD hf;omega) fun j hne hj=>by
  rw [cO,if_neg (Ne.symm hne)] at hj;exact qx (by rw [hb];rfl) hj⟩⟩
 ·rw [cO] at hj
  by_cases hid:id=j
  ·subst hid
   simp only [if_true,qd9] at hj;subst hj;unfold bZ;rw [hself];exact ⟨rfl,rfl⟩
  simp only [hid,if_false] at hj;rw [cO] at hj;by_cases hpj:p=j
  ·subst hpj
   simp only [if_true,qd9] at hj;subst hj;have:=h.hp.blk p bk0 hb;unfold bZ at this ⊢;rw [hoth p hpid];cases hβ:β p with
   |no=>rw [hβ] at this;exact this
   |nil=>rw [hβ] at this;rw [this.1] at hx;simp at hx
   |gh o=>
    rw [hβ] at this;obtain ⟨outs,k3,k4,kk⟩:=vD.view this;refine kk _ _ (by simpa using k3) (fun k x y hx' hy=>?_);simp only at hx';rw [qi2] at hx';by_cases hik:i=k
    ·subst hik
     simp only [if_true] at hx';split at hx'<;>simp at hx';subst hx';have:=fz (k4 i _ y hx hy);rw [this];exact .lU hself
    simp only [hik,if_false] at hx';exact (k4 k x y hx' hy).iM (f3 p bk0 k x hb hx') _
   |«at» b t=>
    rw [hβ] at this;obtain ⟨g1,g2,arr,g3,g4,g5,g6,g7⟩:=this;refine ⟨g1,g2,arr,g3,g4,by simpa using g5,by simpa using g6,fun k x y hx' hy=>?_⟩;simp only at hx';rw [qi2] at hx';by_cases hik:i=k
    ·subst hik
     simp only [if_true] at hx';split at hx'<;>simp at hx';subst hx';have:=fz (g7 i _ y hx hy);rw [this];exact .lU hself
    simp only [hik,if_false] at hx';exact (g7 k x y hx' hy).iM (f3 p bk0 k x hb hx') _
  simp only [hpj,if_false] at hj;have:=h.hp.blk j bk hj;unfold bZ at this ⊢;rw [hoth j (Ne.symm hid)];cases hβ:β j with
  |no=>rw [hβ] at this;exact this
  |nil=>rw [hβ] at this;exact this
  |«at» b t=>
   rw [hβ] at this;obtain ⟨g1,g2,arr,g3,g4,g5,g6,g7⟩:=this;exact ⟨g1,g2,arr,g3,g4,g5,g6,fun k x y hx hy=>(g7 k x y hx hy).iM (f3 j bk k x hj hx) _⟩
  |gh o=>
   rw [hβ] at this;exact gA this (fun _ _ h=>h) fun x hx y hc=>by
    obtain ⟨k,hk⟩:=qf2 hx;exact hc.iM (f3 j bk k x hj hk) _
 have key:∀ j b t,(β.set id .nil) j= .at b t→j≠id:=fun j b t hb e=>by subst e;rw [hself] at hb;cases hb
 have n1:=key j b t hbj;have n2:=key k b t' hbk;rw [hoth j n1] at hbj;rw [hoth k n2] at hbk;have key2:∀ j,j≠id→(bp (cP (cP hp p {bk0 with cs:=bk0.cs.set i (.sl sz bw id 0 0)}) id ⟨T,[],false⟩) j).isSome→(bp hp j).isSome:=by
  intro j hne hj;rw [cO,if_neg (Ne.symm hne),cO] at hj;split at hj
  ·rename_i e;subst e;rw [hb];rfl
  exact hj
 exact h.hp.inj j k b t t' (key2 j n1 hj) (key2 k n2 hk) hbj hbk
def iO (x y:AV):Prop:=∀ G β v,Conc G β x v→Conc G β y v
theorem iO.ic (x:AV):iO x x:=fun _ _ _ h=>h
theorem iO.nil (sz bw:Nat):iO .fO (.cD sz bw []):=fun G β v h=>by
 cases h;exact .cD [] aC aC aC aC aC aC aC
def xF:List AV→List AV→Prop
 |[],[]=>True
 |x::r,y::q=>iO x y∧xF r q
 |_,_=>False
theorem kr:∀ {xs ys:List AV},xF xs ys→xs.length=ys.length∧∀ (j:Nat) x y,xs[j]?=some x→ys[j]?=some y→iO x y
 |[],[],_=>⟨rfl,by simp⟩
 |x::xs,y::ys,h=>by
  obtain ⟨h1,h2⟩:=kr h.2;refine ⟨by simp [h1],fun j a b ha hb=>?_⟩;cases j with
  |zero=>simp at ha hb;subst ha;subst hb;exact h.1
  |succ j=>exact h2 j a b (by simpa using ha) (by simpa using hb)
 |[],_::_,h=>h.elim
 |_::_,[],h=>h.elim
variable {xs:List AV}
theorem iO.agg {ys:List AV} (h:xF xs ys):iO (.agg xs) (.agg ys):=fun G β v hc=>by
 obtain ⟨h1,h2⟩:=kr h;cases hc with
 |agg vs hl hs=>
  refine .agg vs ak fun j x y hx hy=>?_;have hj:j < xs.length:=by have:=bX hx;omega
  exact h2 j _ _ (qa7 hj) hx G β y (hs j _ y (qa7 hj) hy)
theorem iO.cD {sz bw:Nat} {es fs:List AV} (hl:es.length=fs.length) (hf:∀ e∈fs,e.cells.length=sz) (h:xF (es.flatMap AV.cells) (fs.flatMap AV.cells)):iO (.cD sz bw es) (.cD sz bw fs):=fun G β v hc=>by
 obtain ⟨h1,h2⟩:=kr h;generalize hq:AV.cD sz bw es=q at hc;cases hc with
 |cD ys hu hl' hc' hb hA hr hs=>
  injection hq with q1 q2 q3
  subst q1;subst q2;subst q3;rw [hl] at hl' hc' hb hA ⊢;refine .cD ys hf hl' hc' hb hA hr fun j x y hx hy=>?_;have hj:j < (es.flatMap AV.cells).length:=by have:=bX hx;omega
  exact h2 j _ _ (qa7 hj) hx G na y (hs j _ y (qa7 hj) hy)
 |_=>cases hq
variable {f:FuncId} {args:List AV}
theorem ks {args':List AV} {Q:AV→Prop} (h:bm P f args Q) (hl:xF args' args):bm P f args' Q:=fun G w vals hG hv=>
 h G w vals hG ⟨by rw [← (kr hl).1];exact hv.1,fun j x y hx hy=>by
  have hj:j < args'.length:=by have:=bX hx;rw [(kr hl).1];exact this
  exact (kr hl).2 j _ _ (qa7 hj) hx G na y (hv.2 j _ y (qa7 hj) hy)⟩
theorem Aw:∀ {xs ys:List AV},xs.length=ys.length→(∀ (j:Nat) x y,xs[j]?=some x→ys[j]?=some y→iO x y)→xF xs ys
 |[],[],_,_=>trivial
 |x::xs,y::ys,hl,h=>⟨h 0 x y rfl rfl,Aw (by simpa using hl) fun j a b ha hb=>h (j+1) a b (by simpa using ha) (by simpa using hb)⟩
 |[],_::_,hl,_=>by simp at hl
 |_::_,[],hl,_=>by simp at hl
theorem xF.ic (xs:List AV):xF xs xs:=Aw rfl fun j x y hx hy=>by rw [hx] at hy;injection hy with hy;subst hy;exact iO.ic x
variable {x:AV}
theorem xF.set {i:Nat} {y:AV} (h:iO x y):xF (xs.set i x) (xs.set i y):=Aw aC fun j a b ha hb=>by
 rw [qi2] at ha hb;split at ha
 ·rename_i e
  subst e;simp only [if_true] at hb;split at ha
  ·rename_i hl
   rw [if_pos hl] at hb;injection ha with ha;injection hb with hb;subst ha;subst hb;exact h
  cases ha
 rename_i e;rw [if_neg e] at hb;rw [ha] at hb;injection hb with hb;subst hb;exact iO.ic a
variable {hp':Hp}
theorem dx.sub {R:Rg} {β:c9} {G:bI} {w:World} (h:dx R β G hp w) (hs:iE hp hp'):dx R β G hp' w:=by
 refine ⟨h.gs,fun i bk hi=>h.blk i bk (hs i bk hi),fun i j b t t' hi hj=>?_,h.keeps,h.kH,h.kL,h.iC.sub fun i hi=>by obtain ⟨b,hb⟩:=qb0.1 hi;rw [hs i b hb];rfl⟩;have key:∀ i,(bp hp' i).isSome→(bp hp i).isSome:=fun i hi=>by
  obtain ⟨b,hb⟩:=qb0.1 hi;rw [hs i b hb];rfl
 exact h.inj i j b t t' (key i hi) (key j hj)
def er (P:Program) (rs:Array ResultVar) (ids:List Nat) (Q:AV→Hp→Prop):Exit→St→Prop
 | .normal,s| .ret,s=>∃ s' x hp',Le s s'∧RV P rs s' x∧iE s'.hp hp'∧iA ids x hp'∧Q x hp'
 |_,_=>False
variable {ids:List Nat} {Q:AV→Hp→Prop} {rs:Array ResultVar}
theorem HJ {fn:Func} {c:Code} {n:Nat} (hf:P.funcs[f]?=some fn) (hb:fn.body=some c) (hn:fn.ntmps=n) (hrs:fn.results=rs)
 (h:AW P c ⟨args++List.replicate (n - args.length) .any,[]⟩ (er P rs ids Q)):da P f args ids Q:=by
 intro _ G w vals hG ⟨hl,hc⟩;subst hn;refine iq (R:=⟨w,fun _=>False,G,fun _=>none,nb.no⟩) (β:=na) (G:=G) hf hb hrs (jS hl hc ⟨hG,fun id bk h=>by simp [bp] at h,fun i j b t t' h=>by simp [bp] at h,⟨rfl,rfl,rfl,qb3 _,fun _ _ _=>rfl⟩,fun b h=>.inl h,sX,jw.nil⟩) h fun e s' hq=>?_;have key:(∃ s'' x hp',Le s' s''∧RV P rs s'' x∧iE s''.hp hp'∧iA ids x hp'∧Q x hp')→∃ s'' x,Le s' s''∧RV P rs s'' x∧∀ β2 G2 y w2,Conc G2 β2 x y→dx ⟨w,fun _=>False,G,fun _=>none,nb.no⟩ β2 G2 s''.hp w2→
  (fun (e:Ending) (w':World)=>∃ y G' β' x hp,e=Ending.returned y∧Q x hp∧iA ids x hp∧Conc G' β' x y∧dx ⟨w,fun _=>False,G,fun _=>none,nb.no⟩ β' G' hp w') (.returned y) w2:=by
  rintro ⟨s'',x,hp',hle,hrv,hsu,hp,hQ⟩;exact ⟨s'',x,hle,hrv,fun β2 G2 y w2 hcy hH=>⟨y,G2,β2,x,hp',rfl,hQ,hp,hcy,hH.sub hsu⟩⟩
 cases e with
 |normal=>exact ⟨.inl rfl,key hq⟩
 |ret=>exact ⟨.inr rfl,key hq⟩
 |_=>exact hq.elim
theorem JD {e:Exit} {s s':St} (hle:Le s s') (hrv:RV P rs s' x) (hs:iE s'.hp hp') (hw:iA ids x hp') (hQ:Q x hp')
 (he:e= .ret∨e= .normal:=by first|exact .inl rfl|exact .inr rfl):er P rs ids Q e s:=by
 have:∃ s' x hp',Le s s'∧RV P rs s' x∧iE s'.hp hp'∧iA ids x hp'∧Q x hp':=⟨s',x,hp',hle,hrv,hs,hw,hQ⟩
 rcases he with rfl|rfl<;>exact this
end Go.Ab
namespace Go.Ab
open Go.RowKit
variable {P:Program}
variable {d:Tmp} {t el:TypeId} {z:Value} {m bw:Nat} {s:St} {K:St→Prop}
theorem kW {len:Nat} {parts:Array (Nat×Operand)} {ty:TypeId} {pos:String} {bF:Array Edge} {g:Option (Nat×Bool)}
 [hu:cT P t (.slice el)] [hi:dI P el z m bw] (hsm:decide (0 < len * m)=true∧decide (len * m≤16777216)=true∧decide (len * bw≤140737488355328)=true)
 (hd:rS 0 (bM s parts)=true) (hl:(bM s parts).length=len) (hok:eU (fun i=>some (i * m,m)) (len * m) (bM s parts)=true)
 (hf:s.free d=true) (hm:AV.bz d ((bM s parts).flatMap fun p=>p.2.cells)=false)
 (hk:K ⟨s.fr.set d (.sl m bw d 0 len),cP s.hp d ⟨el,(bM s parts).flatMap (fun p=>p.2.cells),true⟩⟩):dJ P ⟨some d,.buildSlice t len parts,ty,pos,bF,g⟩ s K:=by
 intro R β G a w Q hr;obtain ⟨s1,s2,s3⟩:=hsm;simp only [decide_eq_true_eq] at s1 s2 s3;obtain ⟨ie,hie,hz0,hse,_⟩:=hi.ok;obtain ⟨p1,p2⟩:=mH hr parts;have hps:=nt (m:=m) (by intro i o s h;simp at h;exact h.2.symm) _ hok;have hok':eU (fun i=>some (i * m,m)) (List.replicate (len * m) AV.any).length (bM s parts)=true:=by simpa using hok
 obtain ⟨zs',e1,e2,e3⟩:=ow (G:=G) (β:=β) (place:=fun i=>some (i * m,m)) (bM s parts) _ (List.replicate (len * m) .any) ((Array.range (len * m)).map (z.cells[· % z.cells.size]!)) p1 aC hok' p2
  (fun j x y hx hy=>by
   rw [qk9] at hx;split at hx<;>simp at hx;subst hx;exact .any)
 have hfill:iu (fun i=>some (i * m)) (List.replicate (len * m) AV.any) (bM s parts)=(bM s parts).flatMap fun p=>p.2.cells:=by have:=nq (m:=m) (bM s parts) 0 [] (List.replicate (len * m) AV.any) hd aC (by simp [hl]) hps;simpa using this
 have e2':(iu (fun i=>some (i * m)) (List.replicate (len * m) AV.any) (bM s parts)).length=zs'.size:=e2;have e3':∀ (j:Nat) x y,(iu (fun i=>some (i * m)) (List.replicate (len * m) AV.any) (bM s parts))[j]?=some x→zs'[j]?=some y→Conc G β x y:=e3;rw [hfill] at e2' e3';have hrun:(Instr.buildSlice t len (parts.map fun (i,x)=>(i,a.eval x))).run P w= .ok (.slice (some ⟨w.heap.size,0,none⟩) len len) (w.alloc (.cells zs' el)):=
  run_buildSlice w t el len _ zs' ie z hu.ok hie hz0 (by rw [hse];omega) (by rw [hse];omega) (by rw [hse];exact e1)
 have hzl:zs'.size=len * m:=by
  rw [← e2'];have hes:∀ e∈(bM s parts).map (·.2),e.cells.length=m:=fun e he=>by
   obtain ⟨p,hp,rfl⟩:=qe7.1 he;exact hps p hp
  have hfm:((bM s parts).map (·.2)).flatMap AV.cells=(bM s parts).flatMap fun p=>p.2.cells:=by rw [qg9]
  rw [← hfm,kc hes];simp [hl]
 have h2:=hr.qk hf el ((bM s parts).flatMap fun p=>p.2.cells) zs' true ak (fun _=>e2') e3' hm;unfold Oper.wp;have hexec:(execOp a.eval ⟨some d,.buildSlice t len parts,ty,pos,bF,g⟩).run P w= .ok (.value (.slice (some ⟨w.heap.size,0,none⟩) len len)) (w.alloc (.cells zs' el)):=by simp only [execOp,Sem.run_bind,hrun,qb1];rfl
 rw [hexec,Oper.upon_value];have hm1:0 < m:=by
  rcases qj4 m with h|h
  ·subst h;omega
  exact h
 have hlm:len≤maxLen:=by
  have:len * 1≤len * m:=ql2 _ hm1
  simp only [maxLen];omega
 exact ⟨(Below.refl _ _).alloc (qb3 _) _,_,_,_,hk,h2.put (some d) (.sl (t:=zs'.size) aT (qb3 _) (by rw [hzl];omega) hlm s3)⟩
theorem yU {x y:Operand} {sz id id2 n:Nat} {bk bk2:iB} {ty:TypeId} {pos:String} {bF:Array Edge} {g:Option (Nat×Bool)}
 [hu:cT P t (.slice el)] [hi:dI P el z sz bw]
 (hx:s.eval x= .sl sz bw id 0 n) (hb:bp s.hp id=some bk) (hT:bk.T=el) (hl:bk.cs.length=n * sz) (hy:s.eval y= .sl sz bw id2 0 m) (hb2:bp s.hp id2=some bk2) (hf2:bk2.full=true) (hl2:bk2.cs.length=m * sz) (h1:jx bk2.cs=true) (hm2:AV.bz id bk2.cs=false)
 (hz:z.cells.size=sz) (hs:0 < sz) (hw:0 < bw) (hbytes:(n+m) * bw≤140737488355328)
 (hk:K ⟨(AV.cG id s.fr).set d (.sl sz bw id 0 (n+m)),cP (eQ id s.hp) id ⟨el,AV.cG id bk.cs++bk2.cs,false⟩⟩):
 ff P ⟨some d,.call {callee:=.builtin .append,args:=#[x,y],argTypes:=#[t,t]},ty,pos,bF,g⟩ s K:=by
 intro R β G a w Q hr;have e1:=hr.eval x;rw [hx] at e1;have e2:=hr.eval y;rw [hy] at e2;generalize hxv:a.eval x=vx at e1;generalize hyv:a.eval y=vy at e2;have hlt:id≤999999999:=hr.hp.kL id (xz e1);obtain ⟨i0,hi0,hz0,hs0,hb0⟩:=hi.ok;have hexec:∀ r w',(Builtin.append_ #[t,t] ty #[vx,vy]).run P w= .ok r w'→(execOp a.eval ⟨some d,.call {callee:=.builtin .append,args:=#[x,y],argTypes:=#[t,t]},ty,pos,bF,g⟩).run P w= .ok (.value r) w':=by intro r w' h;simp [execOp,resolve,invoke,builtin,hxv,hyv,h]
 have hmax:n+m≤maxLen:=by have h2:(n+m) * 1≤(n+m) * bw:=ql2 _ hw;simp only [maxLen];omega
 cases e2 with
 |lU hβ2=>
  exfalso;have h0:=hr.hp.blk id2 bk2 hb2;unfold bZ at h0;rw [hβ2] at h0;rw [h0.2] at hf2;cases hf2
 |@sl _ _ _ _ _ _ c b2 VP hβ2 hn2 ht2 hmx2 hbw2=>
  obtain ⟨q1,q2,arr2,q3,q4,q5,q6,q7⟩:=hr.hp.block hb2 hβ2;have hys:arr2.toList.length=m * sz:=by have:=q6 hf2;simp;omega
  generalize hysd:arr2.toList=ys at hys;have hyl:ys.length=m * sz:=hys;have hflat:bk2.cs.length=ys.length:=by rw [hl2,hyl]
  have hsc:∀ (j:Nat) x y,bk2.cs[j]?=some x→ys[j]?=some y→Conc G β x y:=fun j x y h h'=>q7 j x y h (by rw [← hysd] at h';simpa using h');have hones:∀ u∈ys,u.oneCell'=true:=fun u hm=>by
   obtain ⟨j,hj⟩:=qf2 hm;have hjl:j < bk2.cs.length:=by rw [hflat];exact bX hj
   exact (hsc j _ u (qa7 hjl) hj).one (px h1 (qa7 hjl))
  have hcells:∀ (j:Nat) u,ys[j]?=some u→w.cell? ((⟨b2,0,none⟩:Addr).add j)=some u:=fun j u hj=>by
   rw [Addr.fM];rw [← hysd] at hj;simp only [World.cell?,q3];simpa using hj
  have hβne:β id≠.no:=fun e=>by have:=hr.hp.blk id bk hb;unfold bZ at this;rw [e] at this;exact this
  have newcells:∀ (arr0:Array Value) (arr:Array Value) (k:BK),(∀ (j:Nat) x y,bk.cs[j]?=some x→arr0[j]?=some y→Conc G β x y)→bk.cs.length≤arr0.size→
   arr.toList.take ((n+m) * sz)=arr0.toList.take (n * sz)++ys→∀ (j:Nat) x y,(AV.cG id bk.cs++bk2.cs)[j]?=some x→arr[j]?=some y→Conc G (β.set id k) x y:=by
   intro arr0 arr k h0 h0l htake j x' y' hx' hy';have hjl:j < n * sz+ys.length:=by have:=bX hx';simp [dA,hl,hflat] at this;exact this
   have hy2:(arr0.toList.take (n * sz)++ys)[j]?=some y':=by rw [← htake,qc3,if_pos (by rw [qj9,← hyl];exact hjl)];simpa using hy'
   have hlen0:(arr0.toList.take (n * sz)).length=n * sz:=by simp;omega
   by_cases hj:j < n * sz
   ·rw [qe1 (by rw [dA,hl];exact hj),ja,qa6] at hx'
    obtain ⟨x0,hx0,rfl⟩:=hx';rw [qe1 (by rw [hlen0];exact hj),qc3,if_pos hj] at hy2;exact (h0 j x0 y' hx0 (by simpa using hy2)).lO (fun i hi=>by simp [c9.set,hi])
   rw [qc7 (by rw [dA,hl];omega),dA,hl] at hx';rw [qc7 (by rw [hlen0];omega),hlen0] at hy2;have hmx:AV.cq id x'=false:=eb hm2 hx';have hpx:AV.dN id x'=x':=by unfold AV.dN;rw [hmx];rfl
   have:=(hsc _ x' y' hx' hy2).lO (β':=β.set id k) (id:=id) (fun i hi=>by simp [c9.set,hi]);rw [hpx] at this;exact this
  have fin:∀ (v':Value) (w':World) (row:Option Nat) (arr0:Array Value),(Builtin.append_ #[t,t] ty #[vx,.slice (some ⟨b2,0,none⟩) m c]).run P w= .ok v' w'→w.grownBy w' row→(∀ b,row=some b→∃ t,β id= .at b t)→
   (∀ (j:Nat) x y,bk.cs[j]?=some x→arr0[j]?=some y→Conc G β x y)→bk.cs.length≤arr0.size→
   w'.ownsRow R.w0.heap.size el sz v' (n+m) (arr0.toList.take (n * sz)++ys)∨(∃ b tt cap cur,v'= .slice (some ⟨b,0,none⟩) (n+m) cap∧row=some b∧w'.heap[b]?=some (.cells cur el (0,0))∧n+m≤cap∧cap≤maxLen∧cur.size=cap * sz∧cur.size=tt∧cur.toList.take ((n+m) * sz)=arr0.toList.take (n * sz)++ys)→
   (∀ b,v'.ownBlock=some b→row=some b∨w.heap.size≤b)→RK R K (a.put (some d) v') w':=by
   intro v' w' row arr0 hrun hgrow hrow h0 h0l hown hat;have hown':(v'= .slice none 0 0∧n+m=0)∨∃ b cap cur,v'= .slice (some ⟨b,0,none⟩) (n+m) cap∧w'.heap[b]?=some (.cells cur el (0,0))∧n+m≤cap∧cap≤maxLen∧cur.size=cap * sz∧cur.toList.take ((n+m) * sz)=arr0.toList.take (n * sz)++ys:=by
    rcases hown with hown|⟨b,tt,cap,cur,h1,h2,h3,h4,h5,h6,h7,h8⟩
    ·rcases hown.2 with ⟨h1,h2⟩|⟨b,cap,cur,h1,h2,h3,h4,h5,h6,h7⟩
     ·exact .inl ⟨h1,h2⟩
     exact .inr ⟨b,cap,cur,h1,h3,h4,h5,h6,h7⟩
    exact .inr ⟨b,cap,cur,h1,h3,h4,h5,h6,h8⟩
   rcases hown' with ⟨hv,hn0⟩|⟨b,cap,cur,hv,hcur,hcap,hcm,hcs,htake⟩
   ·have hn:n=0:=by omega
    have hel:m=0:=by omega
    have hes:bk2.cs=[]:=qf8 (by rw [hl2,hel];simp);have hbk:bk.cs=[]:=qf8 (by rw [hl,hn];simp);have hrep:=hr.Aq (id:=id) hgrow hrow (by rw [hb];rfl) hlt .nil ⟨el,AV.cG id bk.cs++bk2.cs,false⟩ ⟨by simp [hbk,hes,AV.cG],rfl⟩;refine ⟨_,_,_,hk,hrep.put (some d) ?_⟩;rw [hv,hn0];exact .lU aT
   have hrep:=hr.Aq (id:=id) hgrow hrow (by rw [hb];rfl) hlt (.at b cur.size) ⟨el,AV.cG id bk.cs++bk2.cs,false⟩
    ⟨hat b (by rw [hv];rfl),cur,hcur,rfl,by
     simp only [qa3,dA,hl,hflat,hyl,hcs,← qj9];exact qh5 _ hcap,(fun h=>by cases h),newcells arr0 cur _ h0 h0l htake⟩
   refine ⟨_,_,_,hk,hrep.put (some d) ?_⟩;rw [hv];exact .sl (t:=cur.size) aT hcap (by rw [hcs];omega) hcm hbytes
  unfold Oper.wp;cases e1 with
  |lU hβ=>
   have hbk:bk.cs=[]:=by have:=hr.hp.blk id bk hb;unfold bZ at this;rw [hβ] at this;exact this.1
   obtain ⟨v',w',hrun,hown,hgr,_,hat⟩:=run_append_own_at (P:=P) w R.w0.heap.size t ty el i0 z sz bw hu.ok hi0 hz0 hs0 hb0 hz hs (.slice none 0 0) 0 [] (World.ownsRow_nil _ _ _ _) ⟨b2,0,none⟩ m c ys hyl hcells hones hmax hbytes hr.hp.keeps.size;rw [hexec _ _ hrun,Oper.upon_value];exact fin v' w' none #[] hrun hgr (fun _ h=>by cases h) (by simp [hbk]) (by simp [hbk]) (.inl (by simpa using hown)) (fun b h=>by
    rcases hat with h'|h'
    ·rw [h'] at h;cases h
    rw [h'] at h;injection h with h;exact .inr ak)
  |@sl _ _ _ _ _ _ cap b tt hβ hn ht hm hbw=>
   obtain ⟨g1,g2,arr,g3,g4,g5,g6,g7⟩:=hr.hp.block hb hβ;have hrow:∀ b',some b=some b'→∃ t,β id= .at b' t:=fun b' h=>by injection h with h;subst h;exact ⟨tt,hβ⟩
   have hcs:arr.size=cap * sz:=by rw [g4,← ht];omega
   have hown0:w.ownsRow 0 el sz (.slice (some ⟨b,0,none⟩) n cap) n (arr.toList.take (n * sz)):=
    ⟨by simp;omega,.inr ⟨b,cap,arr,rfl,qc6 _,by rw [← hT];exact g3,hn,hm,hcs,rfl⟩⟩
   obtain ⟨v',w',hrun,hown,hgr,_,hat⟩:=run_append_own_at (P:=P) w 0 t ty el i0 z sz bw hu.ok hi0 hz0 hs0 hb0 hz hs _ n _ hown0 ⟨b2,0,none⟩ m c ys hyl hcells hones hmax hbytes (qc6 _);rw [hexec _ _ hrun,Oper.upon_value];have hat':∀ b',v'.ownBlock=some b'→some b=some b'∨w.heap.size≤b':=fun b' h=>by
    rcases hat with h'|h'
    ·rw [h'] at h;exact .inl h
    rw [h'] at h;injection h with h;exact .inr ak
   rcases hown.2 with ⟨h1',h2'⟩|⟨b',cap',cur',h1',h2',h3',h4',h5',h6',h7'⟩
   ·exact fin v' w' (some b) arr hrun hgr hrow g7 ak (.inl ⟨hown.1,.inl ⟨h1',h2'⟩⟩) hat'
   rcases hat' b' (by rw [h1'];rfl) with hbb'|hbb'
   ·injection hbb' with hbb';subst hbb'
    exact fin v' w' (some b) arr hrun hgr hrow g7 ak (.inr ⟨b,cur'.size,cap',cur',h1',rfl,h3',h4',h5',h6',rfl,h7'⟩) hat'
   exact fin v' w' (some b) arr hrun hgr hrow g7 ak (.inl ⟨hown.1,.inr ⟨b',cap',cur',h1',qd3 hr.hp.keeps.size hbb',h3',h4',h5',h6',h7'⟩⟩) hat'
end Go.Ab
namespace Go.Ab
open Go.RowKit Go.Sort
variable {P:Program}
def dQ (P:Program) (f:FuncId) (args:List AV) (id:Nat) (bk:iB) (Q:AV→iB→Prop):Prop:=
 ∀ β G w vals out lp,dx ⟨w,kq β id,G,out,lp⟩ β G [(id,bk)] w→Ce G β args vals→Calls P f vals.toArray w fun e w'=>
  ∃ y G' x bk',e= .returned y∧Q x bk'∧xE id x∧AV.cu bk'.cs=true∧Conc G' β x y∧dx ⟨w,kq β id,G,out,lp⟩ β G' [(id,bk')] w'
variable {β:c9} {G:bI} {s:St} {w:World} {id:Nat} {bk:iB}
theorem fw.SN {R:Rg} {a:Act} (h:fw R β G s a w) (hb:bp s.hp id=some bk)
 {w':World} {G':bI} {bk':iB} {x:AV} {y:Value} (hox:xE id x) (hob:AV.cu bk'.cs=true) (hcx:Conc G' β x y) (hrh:dx ⟨w,kq β id,G,R.out,iw R⟩ β G' [(id,bk')] w') (d:Option Tmp):
 ∃ G2,fw R β G2 ⟨(St.put ⟨s.fr,[]⟩ d x).fr,cP s.hp id bk'⟩ (a.put d y) w':=by
 have hkeep:=hrh.keeps;have hlent:∀ b,kq β id b→G b=none∧(R.w0.heap.size≤b∨R.ex b)∧b < w.heap.size:=fun b ⟨t,ht⟩=>by
  obtain ⟨g1,g2,arr,g3,_⟩:=h.hp.block hb ht;exact ⟨g1,g2,db g3⟩
 have hsame:∀ b,b < w.heap.size→¬kq β id b→w'.heap[b]?=w.heap[b]?:=fun b h1 h2=>hkeep.block b h1 h2;have hgs:∀ b o,G b=some o→w'.heap[b]?=some o:=fun b o hg=>by
  have h1:=h.hp.gs b o hg;rw [hsame b (db h1) (fun hl=>by have:=(hlent b hl).1;rw [hg] at this;cases this)];exact h1
 let G3:bI:=fun b=>match G b with|some o=>some o|none=>G' b
 have m1:∀ b o,G b=some o→G3 b=some o:=fun b o hb=>by simp [G3,hb]
 have m2:∀ b o,G' b=some o→G3 b=some o:=fun b o hb=>by
  cases hg:G b with
  |none=>simp [G3,hg,hb]
  |some o'=>
   have e1:=hgs b o' hg;have e2:=hrh.gs b o hb;rw [e1] at e2;injection e2 with e2;subst e2
   exact m1 b _ hg
 have m3:∀ b,G3 b≠none→G b≠none∨G' b≠none:=fun b hb=>by
  simp only [G3] at hb;cases hg:G b with
  |some o=>exact .inl aC
  |none=>rw [hg] at hb;exact .inr hb
 have hG':∀ b,G' b≠none→G b≠none∨w.heap.size≤b∨kq β id b:=fun b hb=>hrh.kH b hb;have hold:∀ u v,Conc G β u v→Conc G3 β u v:=fun u v hc=>hc.mono m1;have hnew:∀ u v,xE id u→Conc G' β u v→Conc G3 β u v:=fun u v _ hc=>hc.mono m2;have hblk':=hrh.blk id bk' (by simp [bp]);have hother:∀ i bk0 b t,i≠id→bp s.hp i=some bk0→β i= .at b t→¬kq β id b∧b < w.heap.size∧G3 b=none:=fun i bk0 b t hne hi hβ=>by
  obtain ⟨g1,g2,arr,g3,_⟩:=h.hp.block hi hβ;have hnl:¬kq β id b:=fun ⟨t',ht'⟩=>hne (h.hp.inj i id b t t' (by rw [hi];rfl) (by rw [hb];rfl) hβ ht');refine ⟨hnl,db g3,?_⟩;cases hq:G3 b with
  |none=>rfl
  |some o=>
   rcases m3 b (by rw [hq];simp) with h1|h1
   ·exact absurd g1 h1
   rcases hG' b h1 with h2|h2|h2
   ·exact absurd g1 h2
   ·have:=db g3;omega
   exact absurd h2 hnl
 have hnewb:∀ b t,β id= .at b t→(w.heap.size≤b∨kq β id b)∧G' b=none:=fun b t hβ=>by
  unfold bZ at hblk';rw [hβ] at hblk';exact ⟨hblk'.2.1,hblk'.1⟩
 have hpre:fw R β G3 ⟨s.fr,cP s.hp id bk'⟩ a w':=by
  refine ⟨h.defers.mono m1,h.size,fun i u v hu hv=>?_,⟨fun b o hb'=>?_,fun i bk0 hi=>?_,fun i j b t t' hi hj hbi hbj=>?_,?_,fun b hb'=>?_,h.hp.kL,h.hp.iC.cP (by rw [hb];rfl)⟩⟩
  ·exact hold _ _ (h.fr i u v hu hv)
  ·simp only [G3] at hb'
   split at hb'
   ·rename_i o' hg;injection hb' with hb';subst hb';exact hgs b _ hg
   exact hrh.gs b o hb'
  ·rw [cO] at hi
   split at hi
   ·rename_i hid;subst hid;injection hi with hi;subst hi
    unfold bZ at hblk' ⊢;cases hβ:β id with
    |no=>rw [hβ] at hblk';exact hblk'
    |nil=>rw [hβ] at hblk';exact hblk'
    |gh o=>rw [hβ] at hblk';exact gA (wJ hblk' h.hp.keeps.size (fun b hb=>(hlent b hb).2.1)) m2 fun u hu v hc=>hnew u v (fun k hk=>by obtain ⟨j,hj⟩:=qf2 hu;exact eb (jT hob) hj) hc
    |«at» b t=>
     rw [hβ] at hblk';obtain ⟨g1,g2,arr',g3,g4,g5,g6,g7⟩:=hblk';refine ⟨?_,?_,arr',g3,g4,g5,g6,fun j u v hu hv=>hnew u v (fun k hk=>eb (jT hob) hu) (g7 j u v hu hv)⟩
     ·cases hq:G3 b with
      |none=>rfl
      |some o=>
       rcases m3 b (by rw [hq];simp) with h1|h1
       ·rcases g2 with h2|h2
        ·cases hq2:G b with
         |none=>exact absurd hq2 h1
         |some o2=>have:=db (h.hp.gs b o2 hq2);simp only at h2;omega
        exact absurd (hlent b h2).1 h1
       exact absurd g1 h1
     rcases g2 with h2|h2
     ·exact .inl (qd3 h.hp.keeps.size h2)
     exact (hlent b h2).2.1
   rename_i hid;have hi1:=hi;have:=h.hp.blk i bk0 hi1;unfold bZ at this ⊢;cases hβ:β i with
   |no=>rw [hβ] at this;exact this
   |nil=>rw [hβ] at this;exact this
   |gh o=>rw [hβ] at this;exact gA this m1 fun u _ v hc=>hold u v hc
   |«at» b t=>
    obtain ⟨o1,o2,o3⟩:=hother i bk0 b t (Ne.symm hid) hi1 hβ;rw [hβ] at this;obtain ⟨g1,g2,arr',g3,g4,g5,g6,g7⟩:=this;exact ⟨o3,g2,arr',by rw [hsame b o2 o1];exact g3,g4,g5,g6,fun j u v hu hv=>hold _ _ (g7 j u v hu hv)⟩
  ·have key:∀ i b t,i≠id→(bp (cP s.hp id bk') i).isSome→β i= .at b t→(bp s.hp i).isSome∧β i= .at b t∧¬kq β id b∧b < w.heap.size:=by
    intro i b t hne his hbi;rw [cO,if_neg (Ne.symm hne)] at his;obtain ⟨bk2,hb2⟩:=qb0.1 his;obtain ⟨o1,o2,_⟩:=hother i bk2 b t hne hb2 hbi;exact ⟨by rw [hb2];rfl,hbi,o1,o2⟩
   by_cases hi':i=id
   ·by_cases hj':j=id
    ·rw [hi',hj']
    exfalso;subst hi';obtain ⟨_,_,k3,k4⟩:=key j b t' hj' hj hbj;rcases (hnewb b t hbi).1 with h1|h1
    ·omega
    exact k3 h1
   by_cases hj':j=id
   ·exfalso
    subst hj';obtain ⟨_,_,k3,k4⟩:=key i b t hi' hi hbi;rcases (hnewb b t' hbj).1 with h1|h1
    ·omega
    exact k3 h1
   obtain ⟨a1,a2,_⟩:=key i b t hi' hi hbi;obtain ⟨c1,c2,_⟩:=key j b t' hj' hj hbj;exact h.hp.inj i j b t t' a1 c1 a2 c2
  ·have hk:=h.hp.keeps
   refine ⟨hkeep.os.trans hk.os,hkeep.tape.trans hk.tape,hkeep.output.trans hk.output,qd3 hk.size hkeep.size,fun j h1 h2=>?_⟩;rw [hsame j (qi4 h1 hk.size) (fun hl=>by rcases (hlent j hl).2.1 with h3|h3;omega;exact h2 h3)];exact hk.block j h1 h2
  rcases m3 b hb' with h1|h1
  ·exact h.hp.kH b h1
  rcases hG' b h1 with h2|h2|h2
  ·exact h.hp.kH b h2
  ·exact .inr (.inl (qd3 h.hp.keeps.size h2))
  exact .inr (hlent b h2).2.1
 refine ⟨G3,?_⟩;have:=hpre.put d (hnew x y hox hcx);cases d<;>exact this
variable {f:FuncId}
theorem mw {d:Option Tmp} {args:Array Operand} {fx:Array TypeId} {ty:TypeId} {pos:String} {bF:Array Edge} {g:Option (Nat×Bool)} {K:St→Prop} {Q:AV→iB→Prop} [hc:cI P f]
 (h:dQ P f (cv s args) id bk Q) (hb:bp s.hp id=some bk) (hk:∀ x bk',Q x bk'→K ⟨(St.put ⟨s.fr,[]⟩ d x).fr,cP s.hp id bk'⟩) (hT:bk.T < 1000000000:=by first|decide|exact of_decide_eq_true rfl):
 ff P ⟨d,.call {callee:=.value (.func f),args,argTypes:=fx},ty,pos,bF,g⟩ s K:=by
 intro R β G a w Q' hr;have hrun:(execOp a.eval ⟨d,.call {callee:=.value (.func f),args,argTypes:=fx},ty,pos,bF,g⟩).run P w= .ok (.enter f (args.map a.eval)) w:=by simp [execOp,resolve,Act.eval,Deferred.ofValue,invoke,hc.ok]
 unfold Oper.wp;rw [hrun,Oper.upon_enter];have:=h β G w (args.map a.eval).toList R.out (iw R) (Jz hr.hp hb hT) (iR hr args);simp only [qf5] at this;refine this.mono fun e w' ⟨y,G',x,bk',he,hQ,hox,hob,hcx,hrh⟩=>?_;subst he;obtain ⟨G2,hr2⟩:=hr.SN hb hox hob hcx hrh d;exact ⟨β,G2,_,hk x bk' hQ,hr2⟩
theorem heap_put (w:World) (b n:Nat) (d:Array Int) (os:Array Obj) (k:Nat) (hk:k < w.heap.size) :
 (grow (putRow (Value.int .i64) (Sort.ahead w n) b 0 d) os).heap[k]?=if b=k then (w.heap[k]?).map (onCells (putCells (Value.int .i64) 0 d)) else w.heap[k]?:=by
 have e:(putRow (Value.int .i64) (Sort.ahead w n) b 0 d).heap=w.heap.modify b (onCells (putCells (Value.int .i64) 0 d)):=rfl;show ((putRow (Value.int .i64) (Sort.ahead w n) b 0 d).heap++os)[k]?=_;rw [e,Array.getElem?_append_left (by simpa using hk),Array.getElem?_modify]
variable {out:Nat→Option (List Value)} {lp:nb} {b t:Nat} {T:TypeId}
theorem Cm (h:dx ⟨w,kq β id,G,out,lp⟩ β G [(id,bk)] w) (hT:bk.T=T) (hβ:β id= .at b t) (d keep:List Int) (n:Nat) (os:Array Obj) (hd:d.length≤t) (hk:keep.length≤d.length) (hke:∀ j (h:j < keep.length),keep[j]=d[j]' ak):
 dx ⟨w,kq β id,G,out,lp⟩ β G [(id,⟨T,keep.map AV.int,false⟩)] (grow (putRow (Value.int .i64) (Sort.ahead w n) b 0 d.toArray) os):=by
 subst hT;have hblk:=h.blk id bk (by simp [bp]);unfold bZ at hblk;rw [hβ] at hblk;obtain ⟨g1,g2,arr,g3,g4,g5,g6,g7⟩:=hblk;have hsz:(grow (putRow (Value.int .i64) (Sort.ahead w n) b 0 d.toArray) os).heap.size=w.heap.size+os.size:=by rw [size_grow];simp [putRow,mapBlock,Sort.ahead]
 refine ⟨fun k o hg=>?_,fun i bk' hi=>?_,fun i j k t t' hi hj hbi hbj=>?_,⟨rfl,rfl,rfl,?_,fun k hk1 hk2=>?_⟩,h.kH,h.kL,jw.one⟩
 ·have h1:=h.gs k o hg
  rw [heap_put _ _ _ _ _ _ (db h1),if_neg (fun hbk=>by rw [← hbk,g1] at hg;cases hg)];exact h1
 ·obtain ⟨rfl,rfl⟩:=fV hi
  unfold bZ;rw [hβ];refine ⟨g1,g2,putCells (Value.int .i64) 0 d.toArray arr,?_,?_,?_,fun h=>(by cases h),fun j x y hx hy=>?_⟩
  ·rw [heap_put _ _ _ _ _ _ (db g3),if_pos rfl,g3];rfl
  ·rw [← g4];simp [putCells]
  ·simp;omega
  rw [qc9,qa6] at hx;obtain ⟨z,hz,rfl⟩:=hx;obtain ⟨hj,rfl⟩:=qk2.1 hz;simp only [putCells,Array.getElem?_mapIdx,qa6] at hy;obtain ⟨y0,hy0,rfl⟩:=hy;rw [if_pos ⟨by omega,by simp;omega⟩,Nat.sub_zero,hke j hj]
  have:d.toArray[j]! =d[j]' ak :=by rw [getElem!_pos _ j aO];simp
  rw [this];exact .v
 ·obtain ⟨x,hx⟩:=qb0.1 hi
  obtain ⟨y,hy⟩:=qb0.1 hj;exact (fV hx).1.symm.trans (fV hy).1
 ·rw [hsz];simp only;omega
 have hbk:b≠k:=fun hbk=>hk2 ⟨t,by rw [← hbk];exact hβ⟩;rw [heap_put _ _ _ _ _ _ hk1,if_neg hbk]
variable {xs:List Int}
theorem zm (h:dx ⟨w,kq β id,G,out,lp⟩ β G [(id,bk)] w) (hβ:β id= .at b t) (hc:bk.cs=xs.map AV.int):
 Holds (Value.int .i64) w b 0 xs.toArray∧b < w.heap.size∧xs.length≤t:=by
 have hblk:=h.blk id bk (by simp [bp]);unfold bZ at hblk;rw [hβ,hc] at hblk;obtain ⟨g1,g2,arr,g3,g4,g5,g6,g7⟩:=hblk;simp only [qa2] at g5;refine ⟨fun j hj=>?_,db g3,g5⟩;have hj2:j < xs.length:=by simpa using hj
 have hja:j < arr.size:=by omega
 have h1:=g7 j (.int xs[j]) arr[j] (by simp [hj2]) (by simp [hja]);have h2:=fz h1;constructor
 ·simp only [World.cell?,g3,ql4]
  rw [getElem!_pos _ j hj];simp [hja,h2]
 simp [World.frozen?,g3]
def nw (xs:List Int):List Int:=xs.mergeSort fun x y=>decide (x≤y)
variable {bw:Nat} {fl:Bool}
theorem Eu (hlen:xs.length≤17592186044416)
 (hS:∀ (blk off cap:Nat) (zs:List Int) (w:World),Holds (Value.int .i64) w blk off zs.toArray→blk < w.heap.size→zs.length < 4611686018427387904→
  Calls P f #[.slice (some ⟨blk,off,none⟩) zs.length cap] w fun e w'=>e= .returned (.tuple #[])∧∃ n os,w'=grow (putRow (Value.int .i64) (Sort.ahead w n) blk off (zs.mergeSort fun x y=>decide (x≤y)).toArray) os)
 (hN:∀ (p:Option Addr) (cap:Nat) (w:World),Calls P f #[.slice p 0 cap] w fun e w'=>e= .returned (.tuple #[])∧w'=w):
 dQ P f [.sl 1 bw id 0 xs.length] id ⟨T,xs.map AV.int,fl⟩ (fun x bk=>x= .dC []∧bk=⟨T,(nw xs).map AV.int,false⟩):=by
 intro β G w vals out lp hr ⟨hvl,hv⟩
 match vals,hvl,hv with
 |[v],_,hv=>
  have h1:=hv 0 _ _ rfl rfl;obtain ⟨n0,hn0⟩:∃ n,xs.length=n:=⟨_,rfl⟩
  rw [hn0] at h1;have hsl:(nw xs).length=xs.length:=List.length_mergeSort xs;cases h1 with
  |lU hb=>
   have hx0:xs=[]:=qf8 hn0;subst hx0;refine (hN none 0 w).mono fun e w' ⟨he,hw⟩=>?_;subst hw;refine ⟨_,G,_,_,he,⟨rfl,rfl⟩,fun j hj=>rfl,by simp [nw,AV.cu],.dC [] rfl (fun j x y hx=>by simp at hx),?_⟩;have hb2:=hr.blk id _ (by simp [bp];rfl);refine ⟨hr.gs,fun i bk' hi=>?_,fun i j k t t' hi hj _ _=>?_,hr.keeps,hr.kH,hr.kL,jw.one⟩
   ·obtain ⟨rfl,rfl⟩:=fV hi
    unfold bZ;rw [hb];exact ⟨by simp [nw],rfl⟩
   obtain ⟨x,hx⟩:=qb0.1 hi;obtain ⟨y,hy⟩:=qb0.1 hj;exact (fV hx).1.symm.trans (fV hy).1
  |sl hb hn ht hm hbb=>
   subst hn0;obtain ⟨hH,hbw,hxt⟩:=zm hr hb rfl;refine (hS _ 0 _ xs w hH hbw ak).mono fun e w' ⟨he,n,os,hw⟩=>?_;subst hw;refine ⟨_,G,_,_,he,⟨rfl,rfl⟩,fun j hj=>rfl,dO AV.int _ fun _=>rfl,.dC [] rfl (fun j x y hx=>by simp at hx),?_⟩;exact Cm hr rfl hb (nw xs) (nw xs) n os ak (qb3 _) (fun j hj=>rfl)
theorem Cn (xs:List Int):(Lib.compact xs).length≤xs.length:=by
 unfold Lib.compact Lib.compactUpTo;rw [qa2];have:=qh8 (Lib.keeps xs.toArray) (List.range xs.length);simpa using this
theorem yV (hlen:xs.length≤1000000)
 (hC:∀ (blk off cap:Nat) (zs:List Int) (w:World),Holds (Value.int .i64) w blk off zs.toArray→zs.length≤9223372036854775807→zs.length≤cap→
  Calls P f #[.slice (some ⟨blk,off,none⟩) zs.length cap] w fun e w'=>e= .returned (.slice (some ⟨blk,off,none⟩) (Lib.compact zs).length cap)∧∃ q,w'=putRow (Value.int .i64) (Sort.ahead w q) blk off (Lib.compact zs++List.replicate (zs.length - (Lib.compact zs).length) 0).toArray)
 (hN:∀ (p:Option Addr) (cap:Nat) (w:World),Calls P f #[.slice p 0 cap] w fun e w'=>e= .returned (.slice p 0 cap)∧w'=w):
 dQ P f [.sl 1 bw id 0 xs.length] id ⟨T,xs.map AV.int,fl⟩ (fun x bk=>x= .sl 1 bw id 0 (Lib.compact xs).length∧bk=⟨T,(Lib.compact xs).map AV.int,false⟩):=by
 intro β G w vals out lp hr ⟨hvl,hv⟩;have hcl:=Cn xs
 match vals,hvl,hv with
 |[v],_,hv=>
  have h1:=hv 0 _ _ rfl rfl;obtain ⟨n0,hn0⟩:∃ n,xs.length=n:=⟨_,rfl⟩
  rw [hn0] at h1;have only:xE id (.sl 1 bw id 0 (Lib.compact xs).length):=fun j hj=>by simp [AV.cq,Ne.symm hj]
  cases h1 with
  |lU hb=>
   have hx0:xs=[]:=qf8 hn0;subst hx0;refine (hN none 0 w).mono fun e w' ⟨he,hw⟩=>?_;subst hw;refine ⟨_,G,_,_,he,⟨rfl,rfl⟩,only,rfl,.lU hb,?_⟩;refine ⟨hr.gs,fun i bk' hi=>?_,fun i j k t t' hi hj _ _=>?_,hr.keeps,hr.kH,hr.kL,jw.one⟩
   ·obtain ⟨rfl,rfl⟩:=fV hi
    unfold bZ;rw [hb];exact ⟨rfl,rfl⟩
   obtain ⟨x,hx⟩:=qb0.1 hi;obtain ⟨y,hy⟩:=qb0.1 hj;exact (fV hx).1.symm.trans (fV hy).1
  |sl hb hn ht hm hbb=>
   subst hn0;obtain ⟨hH,hbw,hxt⟩:=zm hr hb rfl;refine (hC _ 0 _ xs w hH ak hn).mono fun e w' ⟨he,q,hw⟩=>?_;subst hw;have hl:(Lib.compact xs++List.replicate (xs.length - (Lib.compact xs).length) 0).length=xs.length:=by simp;omega
   have key:=Cm hr rfl hb (Lib.compact xs++List.replicate (xs.length - (Lib.compact xs).length) 0) (Lib.compact xs) q #[] ak aC (fun j hj=>by rw [List.getElem_append_left hj]);rw [grow_empty] at key;exact ⟨_,G,_,_,he,⟨rfl,rfl⟩,only,dO AV.int _ fun _=>rfl,.sl hb ak ht hm (qd3 (qh5 _ hcl) hbb),key⟩
end Go.Ab
