/- Part of a proof: of two right answers both have a plan, at one cost, or none. No condition. -/
import Derived.Laws.CopyRow
import Derived.Lib.SliceRun
import Derived.Lib.SlicesCompact
import Derived.Sort.Grow
import Derived.Test.YtkbiagkbmodgdaaGreatZab
set_option linter.unusedSimpArgs false
set_option linter.unusedVariables false
namespace Go.Ab
open Go.RowKit
variable {P:Program}
def uF (id:Nat) (x:AV):Prop:=∀ j,j≠id→AV.cv j x=false
def zc (G:bE) (β:cM) (args:List AV) (vals:List Value):Prop:=args.length=vals.length∧∀ (j:Nat) x y,args[j]?=some x→vals[j]?=some y→Conc G β x y
def ji (β:cM) (id:Nat):Nat→Prop:=fun b=>∃ t,β id= .at b t
def ec (P:Program) (f:FuncId) (args:List AV) (id:Nat) (bk:fZ) (Q:AV→fZ→Prop):Prop:=
 ∀ β G w vals out lp,c9 ⟨w,ji β id,G,out,lp⟩ β G [(id,bk)] w→zc G β args vals→Calls P f vals.toArray w fun e w'=>
  ∃ y G' β' x bk',e= .returned y∧Q x bk'∧uF id x∧AV.cj bk'.cs=true∧Conc G' β' x y∧c9 ⟨w,ji β id,G,out,lp⟩ β' G' [(id,bk')] w'
theorem e9 {id i:Nat} {bk bk':fZ} (h:aW [(id,bk)] i=some bk'):id=i∧bk=bk':=by
 simp only [aW] at h
 split at h
 ·rename_i hi;exact ⟨hi,by injection h⟩
 ·cases h
theorem FJ {R:Rg} {β:cM} {G:bE} {hp:Hp} {w:World} (h:c9 R β G hp w) {id:Nat} {bk:fZ} (hb:aW hp id=some bk) (hT:bk.T < 1000000000):c9 ⟨w,ji β id,G,R.out,fW R⟩ β G [(id,bk)] w:=by
 refine ⟨h.gs,fun i bk' hi=>?_,fun i j b t t' hi hj _ _=>?_,⟨rfl,rfl,rfl,Nat.le_refl _,fun _ _ _=>rfl⟩,fun b hb=>.inl hb,h.jv,iy.one⟩
 ·obtain ⟨rfl,rfl⟩:=e9 hi
  have:=h.blk _ _ hb
  unfold bW at this ⊢
  cases hβ:β id with
  |no=>rw [hβ] at this;exact this
  |nil=>rw [hβ] at this;exact this
  |«at» b t=>
   rw [hβ] at this
   obtain ⟨g1,_,g3⟩:=this
   exact ⟨g1,.inr ⟨t,hβ⟩,g3⟩
  |gh o=>rw [hβ] at this;exact absurd hT (Nat.not_lt.2 (sM.MM this).2)
 ·obtain ⟨x,hx⟩:=Option.isSome_iff_exists.1 hi
  obtain ⟨y,hy⟩:=Option.isSome_iff_exists.1 hj
  exact (e9 hx).1.symm.trans (e9 hy).1
end Go.Ab
namespace Go.Ab
open Go.RowKit
variable {P:Program}
def gI (P:Program) (rs:Array ResultVar) (id:Nat) (Q:AV→fZ→Prop):Exit→St→Prop
 | .normal,s| .ret,s=>∃ s' x bk',Le s s'∧RV P rs s' x∧aW s'.hp id=some bk'∧uF id x∧AV.cj bk'.cs=true∧Q x bk'
 |_,_=>False
theorem xH {w:World} {b:Nat} {arr arr':Array Value} {T:TypeId} (_hb:w.heap[b]?=some (.cells arr T (0,0))):w.grownBy (w.setRow b arr') (some b):=
 ⟨rfl,rfl,rfl,by simp,fun k _ hk=>setRow_other w b k arr' (fun e=>hk (by rw [e]))⟩
def PW (G:bE) (β:cM) (cs:List AV) (l:List Value):Prop:=∀ (i:Nat) x y,cs[i]?=some x→l[i]?=some y→Conc G β x y
theorem PW.take {G:bE} {β:cM} {cs:List AV} {l:List Value} (h:PW G β cs l) (n:Nat):PW G β (cs.take n) (l.take n):=fun i x y hx hy=>by
 rw [List.getElem?_take] at hx hy
 split at hx
 ·rename_i hi;rw [if_pos hi] at hy;exact h i x y hx hy
 ·cases hx
theorem PW.drop {G:bE} {β:cM} {cs:List AV} {l:List Value} (h:PW G β cs l) (n:Nat):PW G β (cs.drop n) (l.drop n):=fun i x y hx hy=>by
 rw [List.getElem?_drop] at hx hy;exact h _ x y hx hy
theorem c9.rewrite {R:Rg} {β:cM} {G:bE} {hp:Hp} {w w':World} (h:c9 R β G hp w) {id:Nat} {bk bk':fZ} {row:Option Nat} (hb:aW hp id=some bk) (hg:w.grownBy w' row) (hrow:∀ b,row=some b→∃ t,β id= .at b t)
  (hk:match β id with| .no=>False| .gh _=>False| .nil=>bk'.cs=[]∧bk'.full=false| .at b t=>∃ arr:Array Value,w'.heap[b]?=some (.cells arr bk'.T (0,0))∧arr.size=t∧bk'.cs.length≤t∧
   (bk'.full=true→bk'.cs.length=t)∧∀ (j:Nat) x y,bk'.cs[j]?=some x→arr[j]?=some y→Conc G β x y):c9 R β G (cK hp id bk') w':=by
 have hrb:∀ b,row=some b→G b=none∧(R.w0.heap.size≤b∨R.ex b)∧b < w.heap.size:=fun b hb'=>by
  obtain ⟨t,ht⟩:=hrow b hb'
  obtain ⟨g1,g2,arr,g3,_⟩:=h.block hb ht
  exact ⟨g1,g2,cN g3⟩
 have his:∀ i,(aW (cK hp id bk') i).isSome→(aW hp i).isSome:=fun i hi=>by
  rw [cE] at hi
  split at hi
  ·rename_i e;subst e;rw [hb];rfl
  ·exact hi
 refine ⟨fun b o hb'=>?_,fun i bk1 hi=>?_,fun i j b t t' hi hj hbi hbj=>h.inj i j b t t' (his i hi) (his j hj) hbi hbj,?_,h.js,h.jv,h.ga.sub his⟩
 ·have h1:=h.gs b o hb'
  rw [hg.block b (cN h1) (fun e=>by have:=(hrb b e.symm).1;rw [hb'] at this;cases this)]
  exact h1
 ·rw [cE] at hi
  split at hi
  ·rename_i e
   subst e
   injection hi with hi;subst hi
   have h0:=h.blk id bk hb
   unfold bW at h0 ⊢
   cases hβ:β id with
   |no=>rw [hβ] at hk;exact hk
   |gh o=>rw [hβ] at hk;exact hk.elim
   |nil=>rw [hβ] at hk;exact hk
   |«at» b t=>
    rw [hβ] at hk h0
    exact ⟨h0.1,h0.2.1,hk⟩
  ·rename_i hne
   have:=h.blk i bk1 hi
   unfold bW at this ⊢
   cases hβ:β i with
   |no=>rw [hβ] at this;exact this
   |gh o=>rw [hβ] at this;exact this
   |nil=>rw [hβ] at this;exact this
   |«at» b t=>
    rw [hβ] at this
    obtain ⟨g1,g2,arr',g3,g4⟩:=this
    refine ⟨g1,g2,arr',?_,g4⟩
    rw [hg.block b (cN g3) (fun e=>by
     obtain ⟨t',ht'⟩:=hrow b e.symm
     exact hne (h.inj id i b t' t (by rw [hb];rfl) (by rw [hi];rfl) ht' hβ))]
    exact g3
 ·have hk:=h.keeps
  refine ⟨hg.os.trans hk.os,hg.tape.trans hk.tape,hg.output.trans hk.output,Nat.le_trans hk.size hg.size,fun j h1 h2=>?_⟩
  rw [hg.block j (Nat.lt_of_lt_of_le h1 hk.size) (fun e=>by rcases (hrb j e.symm).2.1 with h3|h3;omega;exact h2 h3)]
  exact hk.block j h1 h2
theorem lY {t el:TypeId} {x:Operand} {sz bw id l k:Nat} {z:Value} {bk:fZ} {ty:TypeId} {pos:String} {bC:Array Edge} {g:Option (Nat×Bool)} {s:St} {K:St→Prop}
  [hu:cJ P t (.slice el)] [hi:dm P el z sz bw]
  (hb:aW s.hp id=some bk) (hx:s.eval x=Ch sz bw id (l * sz) k) (hT:bk.T=el) (hz:z.cells.toList.all (·.oneCell')=true) (hzs:z.cells.size=sz) (hl:(l+k) * sz≤bk.cs.length)
  (hk:K ⟨s.fr,cK s.hp id ⟨el,bk.cs.take (l * sz),false⟩⟩) (hel:el < 1000000000:=by decide) :
  eR P ⟨none,.call {callee:=.builtin .clear,args:=#[x],argTypes:=#[t]},ty,pos,bC,g⟩ s K:=by
 intro R β G a w Q hr
 have e1:=hr.eval x;rw [hx] at e1
 generalize hxv:a.eval x=vx at e1
 obtain ⟨i0,hi0,hz0,hs0,hb0⟩:=hi.ok
 have hexec:∀ r w',(Builtin.clear_ #[t] ty #[vx]).run P w= .ok r w'→(execOp a.eval ⟨none,.call {callee:=.builtin .clear,args:=#[x],argTypes:=#[t]},ty,pos,bC,g⟩).run P w= .ok (.value r) w':=by
  intro r w' h
  simp [execOp,resolve,invoke,builtin,hxv,h]
 have hlk:(l+k) * sz=l * sz+k * sz:=Nat.add_mul _ _ _
 have hblk:=hr.hp.blk id bk hb
 unfold Oper.wp
 have fin:∀ (w':World) (row:Option Nat),(Builtin.clear_ #[t] ty #[vx]).run P w= .ok (.tuple #[]) w'→w.grownBy w' row→(∀ b,row=some b→∃ t,β id= .at b t)→
   (∀ b tt,β id= .at b tt→∃ arr':Array Value,w'.heap[b]?=some (.cells arr' el (0,0))∧arr'.size=tt∧∀ arr:Array Value,w.heap[b]?=some (.cells arr el (0,0))→arr'.toList.take (l * sz)=arr.toList.take (l * sz))→(∀ b tt,β id= .at b tt→row=some b)→
   Oper.upon P ⟨none,.call {callee:=.builtin .clear,args:=#[x],argTypes:=#[t]},ty,pos,bC,g⟩ a (RK R K) Q ((execOp a.eval ⟨none,.call {callee:=.builtin .clear,args:=#[x],argTypes:=#[t]},ty,pos,bC,g⟩).run P w):=by
  intro w' row hrun hgr hrow hat hrb
  rw [hexec _ _ hrun,Oper.upon_value]
  unfold bW at hblk
  cases hβ:β id with
  |no=>rw [hβ] at hblk;exact hblk.elim
  |gh o=>rw [hβ] at hblk;have hbig:=(sM.MM hblk).2;rw [hT] at hbig;exact absurd hel (Nat.not_lt.2 hbig)
  |nil=>
   rw [hβ] at hblk
   have hrep:=hr.hp.rewrite (bk':=⟨el,bk.cs.take (l * sz),false⟩) hb hgr hrow (by rw [hβ];exact ⟨by simp [hblk.1],rfl⟩)
   exact ⟨_,_,_,hk,⟨hr.defers,hr.size,hr.fr,hrep⟩⟩
  |«at» b tt=>
   rw [hβ] at hblk
   obtain ⟨g1,g2,arr,g3,g4,g5,g6,g7⟩:=hblk
   obtain ⟨arr',a1,a2,a3⟩:=hat b tt hβ
   have hrep:=hr.hp.rewrite (bk':=⟨el,bk.cs.take (l * sz),false⟩) hb hgr hrow (by
    rw [hβ]
    refine ⟨arr',a1,a2,by simp only [List.length_take];omega,(fun h=>by cases h),fun i u v hu' hv=>?_⟩
    have hi:i < l * sz:=by have:=bS hu';simp at this;omega
    rw [List.getElem?_take,if_pos hi] at hu'
    have h4:arr'.toList[i]?=arr.toList[i]?:=by
     have:=congrArg (fun q=>q[i]?) (a3 arr (by rw [← hT];exact g3))
     simpa [List.getElem?_take,hi] using this
    refine g7 i u v hu' ?_
    have h5:arr'.toList[i]?=some v:=by simpa using hv
    rw [h4] at h5;simpa using h5)
   exact ⟨_,_,_,hk,⟨hr.defers,hr.size,hr.fr,hrep⟩⟩
 have hsame:∀ (b tt:Nat),β id= .at b tt→∃ arr':Array Value,w.heap[b]?=some (.cells arr' el (0,0))∧arr'.size=tt∧∀ arr:Array Value,w.heap[b]?=some (.cells arr el (0,0))→arr'.toList.take (l * sz)=arr.toList.take (l * sz):=by
  intro b tt hβ
  obtain ⟨g1,g2,arr,g3,g4,g5,g6,g7⟩:=hr.hp.block hb hβ
  refine ⟨arr,by rw [← hT];exact g3,g4,fun arr2 h2=>?_⟩
  rw [hT] at g3
  rw [g3] at h2;injection h2 with h2;injection h2 with h2;subst h2;rfl
 rcases Nat.eq_zero_or_pos k with hk0|hk0
 ·subst hk0
  simp only [Ch,if_true] at e1
  obtain ⟨A,c,rfl,_⟩:∃ A c,vx= .slice A 0 c∧True:=by
   generalize hq:AV.cr sz bw []=q at e1
   cases e1 with
   |cr ys hu' hl'=>injection hq with _ _ q3;subst q3;exact ⟨_,_,rfl,trivial⟩
   |_=>cases hq
  have hrun:(Builtin.clear_ #[t] ty #[.slice A 0 c]).run P w= .ok (.tuple #[]) w:=by
   cases A<;>simp [Builtin.clear_,run_underlying hu.ok]
  cases hβ:β id with
  |no=>unfold bW at hblk;rw [hβ] at hblk;exact hblk.elim
  |gh o=>unfold bW at hblk;rw [hβ] at hblk;have hbig:=(sM.MM hblk).2;rw [hT] at hbig;exact absurd hel (Nat.not_lt.2 hbig)
  |nil=>exact fin w none hrun (World.grownBy.refl w none) (fun _ h=>by cases h) hsame (fun b tt h=>by rw [hβ] at h;cases h)
  |«at» b tt=>exact fin w (some b) hrun (World.grownBy.refl w (some b)) (fun b' h=>by injection h with h;subst h;exact ⟨tt,hβ⟩) hsame (fun b' tt' h=>by rw [hβ] at h;injection h with h1 h2;rw [h1])
 ·rw [Ch,if_neg aj] at e1
  obtain ⟨c,b,tt,hβ,rfl⟩:∃ c b tt,β id= .at b tt∧vx= .slice (some ⟨b,l * sz,none⟩) k c:=by
   generalize l * sz=o at e1 ⊢
   cases e1 with
   |j5 hβ=>exact absurd hk0 (Nat.lt_irrefl 0)
   |sl h=>exact ⟨_,_,_,h,rfl⟩
  ·obtain ⟨g1,g2,arr,g3,g4,g5,g6,g7⟩:=hr.hp.block hb hβ
   rw [hT] at g3
   have hzv:(Builtin.zeroCells z.cells k).size=k * sz:=by rw [size_zeroCells,hzs]
   have hst:=run_storeCells_at P b (l * sz) el (Builtin.zeroCells z.cells k).toList 0 arr w g3 (by simp [hzv];omega) (fun v hv=>by
    simp only [Builtin.zeroCells,Array.toList_map,List.mem_map] at hv
    obtain ⟨i,hi',rfl⟩:=hv
    have hlt:i % z.cells.size < z.cells.size:=by
     apply Nat.mod_lt
     rw [hzs]
     rcases Nat.eq_zero_or_pos sz with h|h
     ·subst h
      simp [hzs] at hi'
     ·exact h
    rw [getElem!_pos z.cells _ hlt]
    exact List.all_eq_true.1 hz _ ax)
   have hzval:(zeroValue el).run P w= .ok z w:=nt hi w
   obtain ⟨k',rfl⟩:∃ k',k=k'+1:=⟨k - 1,by omega⟩
   have hrun:(Builtin.clear_ #[t] ty #[.slice (some ⟨b,l * sz,none⟩) (k'+1) c]).run P w= .ok (.tuple #[]) (w.setRow b (arr.toList.take (l * sz)++(Builtin.zeroCells z.cells (k'+1)).toList++arr.toList.drop (l * sz+(k'+1) * sz)).toArray):=by
    simp only [Nat.add_zero,Array.length_toList,hzv] at hst
    simp [Builtin.clear_,run_underlying hu.ok,hzval,hst]
   refine fin _ (some b) hrun (xH g3) (fun b' h=>by injection h with h;subst h;exact ⟨tt,hβ⟩) (fun b' tt' h=>?_) (fun b' tt' h=>by rw [hβ] at h;injection h with h1 h2;rw [h1])
   rw [hβ] at h;injection h with h1 h2;subst h1;subst h2
   refine ⟨_,setRow_heap w b arr _ el (0,0) g3,?_,fun arr2 h2=>?_⟩
   ·simp only [List.size_toArray,List.length_append,List.length_take,List.length_drop,Array.length_toList,hzv]
    omega
   ·rw [g3] at h2;injection h2 with h2;injection h2 with h2;subst h2
    have h5:(arr.toList.take (l * sz)).length=l * sz:=by simp;omega
    show ((arr.toList.take (l * sz)++(Builtin.zeroCells z.cells (k'+1)).toList)++arr.toList.drop (l * sz+(k'+1) * sz)).take (l * sz)=_
    rw [List.append_assoc,List.take_append_of_le_length aj,List.take_of_length_le aj]
end Go.Ab
namespace Go.Ab
open Go.RowKit
variable {P:Program}
mutual
def AV.fz (id sz bw n:Nat) (es:List AV):AV→AV
 | .agg cs=>.agg (AV.du id sz bw n es cs)
 | .dr cs=>.dr (AV.du id sz bw n es cs)
 | .fn f cs=>.fn f (AV.du id sz bw n es cs)
 | .ptr i o=>if i=id then .any else .ptr i o
 | .yl i y=>if i=id then .any else .yl i y
 | .sl a b i o k=>if i=id then (if a=sz∧b=bw∧o=0∧k=n then .cr sz bw es else .any) else .sl a b i o k
 | .any=>.any
 | .v x=>.v x
 | .cr a b l=>.cr a b l
 | .bx l=>.bx l
def AV.du (id sz bw n:Nat) (es:List AV):List AV→List AV
 |[]=>[]
 |x::r=>AV.fz id sz bw n es x::AV.du id sz bw n es r
end
def gP (id sz bw n:Nat) (es:List AV):Hp→Hp
 |[]=>[]
 |(i,b)::r=>if i=id then gP id sz bw n es r else (i,{b with cs:=AV.du id sz bw n es b.cs})::gP id sz bw n es r
theorem jA (id sz bw n:Nat) (es:List AV):∀ (l:List AV) (i:Nat),(AV.du id sz bw n es l)[i]?=l[i]?.map (AV.fz id sz bw n es)
 |[],i=>by simp [AV.du]
 |x::r,0=>by simp [AV.du]
 |x::r,i+1=>by simp [AV.du,jA id sz bw n es r i]
theorem jB (id sz bw n:Nat) (es l:List AV):(AV.du id sz bw n es l).length=l.length:=by
 induction l with
 |nil=>rfl
 |cons x r ih=>simp [AV.du,ih]
theorem DY (id sz bw n:Nat) (es l:List AV):AV.du id sz bw n es l=l.map (AV.fz id sz bw n es):=by
 induction l with
 |nil=>rfl
 |cons x r ih=>simp [AV.du,ih]
theorem kq (id sz bw n:Nat) (es:List AV) (hp:Hp) (i:Nat):aW (gP id sz bw n es hp) i=if id=i then none else (aW hp i).map fun b=>{b with cs:=AV.du id sz bw n es b.cs}:=by
 induction hp with
 |nil=>simp [gP,aW]
 |cons p r ih=>
  obtain ⟨j,b⟩:=p
  by_cases hj:j=id
  ·subst hj
   simp only [gP,if_true,ih,aW]
   split<;>rfl
  ·simp only [gP,hj,if_false,aW,ih]
   by_cases hji:j=i
   ·subst hji;simp [Ne.symm hj]
   ·simp [hji]
mutual
theorem DZ {id sz bw n:Nat} {es:List AV}:∀ {x:AV},x.fm=true→AV.fz id sz bw n es x=x
 | .agg cs,h=>by simp only [AV.fz];rw [ew (by simpa [AV.fm] using h)]
 | .dr cs,h=>by simp only [AV.fz];rw [ew (by simpa [AV.fm] using h)]
 | .fn f cs,h=>by simp only [AV.fz];rw [ew (by simpa [AV.fm] using h)]
 | .ptr i o,h=>by simp [AV.fm] at h
 | .yl i y,h=>by simp [AV.fm] at h
 | .sl a b i o k,h=>by simp [AV.fm] at h
 | .any,_=>rfl
 | .v x,_=>rfl
 | .cr a b l,_=>rfl
 | .bx l,_=>rfl
theorem ew {id sz bw n:Nat} {es:List AV}:∀ {l:List AV},AV.cj l=true→AV.du id sz bw n es l=l
 |[],_=>rfl
 |x::r,h=>by
  simp only [AV.cj,Bool.and_eq_true] at h
  simp only [AV.du]
  rw [DZ h.1,ew h.2]
end
theorem Conc.fz {G G':bE} {β β':cM} {x:AV} {y:Value} (h:Conc G β x y) {id sz bw n:Nat} {es:List AV} (hβ:∀ j,j≠id→β' j=β j) (hG:∀ b o,G b=some o→G' b=some o)
  (hc:∀ y,Conc G β (.sl sz bw id 0 n) y→Conc G' lj (.cr sz bw es) y):Conc G' β' (AV.fz id sz bw n es x) y:=by
 have key:∀ {β0 x y},Conc G β0 x y→β0=β→Conc G' β' (AV.fz id sz bw n es x) y:=by
  intro β0 x y h
  induction h with
  |any=>intro _;exact .any
  |v=>intro _;exact .v
  |agg xs hl hs ih=>
   intro e
   refine .agg xs (by rw [jB];exact hl) fun j u v hu hv=>?_
   rw [jA,Option.map_eq_some_iff] at hu
   obtain ⟨u0,hu0,rfl⟩:=hu
   exact ih j u0 v hu0 hv e
  |dr xs hl hs ih=>
   intro e
   refine .dr xs (by rw [jB];exact hl) fun j u v hu hv=>?_
   rw [jA,Option.map_eq_some_iff] at hu
   obtain ⟨u0,hu0,rfl⟩:=hu
   exact ih j u0 v hu0 hv e
  |fn xs hf hl hs ih=>
   intro e
   refine .fn xs hf (by rw [jB];exact hl) fun j u v hu hv=>?_
   rw [jA,Option.map_eq_some_iff] at hu
   obtain ⟨u0,hu0,rfl⟩:=hu
   exact ih j u0 v hu0 hv e
  |qC _ ih=>intro e;simp only [AV.fz,AV.du];exact .qC (ih e)
  |@ptr β1 i off b t hb=>
   intro e
   subst e
   simp only [AV.fz]
   split
   ·exact .any
   ·rename_i hi;exact .ptr (by rw [hβ i hi];exact hb)
  |@yl β1 i y l hb=>
   intro e
   subst e
   simp only [AV.fz]
   split
   ·exact .any
   ·rename_i hi;exact .yl (by rw [hβ i hi];exact hb)
  |@j5 β1 a b i hb=>
   intro e
   subst e
   simp only [AV.fz]
   split
   ·rename_i hi;subst hi
    split
    ·rename_i hq;obtain ⟨rfl,rfl,_,rfl⟩:=hq
     exact (hc _ (.j5 hb)).free _
    ·exact .any
   ·rename_i hi;exact .j5 (by rw [hβ i hi];exact hb)
  |@sl β1 a b i off k c bb t hb hn ht hm hbw=>
   intro e
   subst e
   simp only [AV.fz]
   split
   ·rename_i hi;subst hi
    split
    ·rename_i hq;obtain ⟨rfl,rfl,rfl,rfl⟩:=hq
     exact (hc _ (.sl hb hn ht hm hbw)).free _
    ·exact .any
   ·rename_i hi;exact .sl (by rw [hβ i hi];exact hb) hn ht hm hbw
  |cr ys hu hl hc' hb hA hr hs _=>intro _;exact (Conc.cr (β:=β) ys hu hl hc' hb hA hr hs).ext (fun _ h=>by simp [AV.cv] at h) hG
  |bx ys hl hr hs _=>intro _;exact (Conc.bx (β:=β) ys hl hr hs).ext (fun _ h=>by simp [AV.cv] at h) hG
 exact key h rfl
theorem FK {f:List AV} {hp:Hp} (id sz bw n:Nat) {bk:fZ} (es:List AV) (hb:aW hp id=some bk) (hes:es.flatMap AV.cells=bk.cs)
  (hu:∀ e∈es,e.cells.length=sz) (hn:es.length=n) (hp1:AV.cj bk.cs=true) (hsz:0 < sz):Le ⟨f,hp⟩ ⟨AV.du id sz bw n es f,gP id sz bw n es hp⟩:=by
 intro R β G a w h
 have h0:=h.hp.blk id bk hb
 unfold bW at h0
 have hoth:∀ j,j≠id→(β.set id .no) j=β j:=fun j hj=>by simp [cM.set,hj]
 have fin:∀ (G':bE),(∀ b o,G b=some o→G' b=some o)→(∀ b o,G' b=some o→w.heap[b]?=some o)→(∀ b,G' b≠none→R.g0 b≠none∨R.w0.heap.size≤b∨R.ex b)→
   (∀ j bk' b t,j≠id→aW hp j=some bk'→β j= .at b t→G' b=none)→(∀ y,Conc G β (.sl sz bw id 0 n) y→Conc G' lj (.cr sz bw es) y)→∃ β' G',eE R β' G' ⟨AV.du id sz bw n es f,gP id sz bw n es hp⟩ a w:=by
  intro G' hm hgs hdom hfree hc
  refine ⟨β.set id .no,G',h.defers.mono hm,by rw [jB];exact h.size,fun j x y hj hy=>?_,⟨hgs,fun j bk' hj=>?_,fun j k b t t' hj hk hbj hbk=>?_,h.hp.keeps,hdom,h.hp.jv.gone,h.hp.ga.ext fun j _ hj=>by
   rw [kq] at hj
   split at hj
   ·simp at hj
   ·rename_i hne;exact ⟨by simpa using hj,by simp [cM.set,Ne.symm hne]⟩⟩⟩
  ·rw [jA,Option.map_eq_some_iff] at hj
   obtain ⟨x0,hx0,rfl⟩:=hj
   exact (h.fr j x0 y hx0 hy).fz hoth hm hc
  ·rw [kq] at hj
   by_cases hid:id=j
   ·simp [hid] at hj
   ·simp only [hid,if_false,Option.map_eq_some_iff] at hj
    obtain ⟨bk1,hj1,rfl⟩:=hj
    have:=h.hp.blk j bk1 hj1
    unfold bW at this ⊢
    rw [hoth j (Ne.symm hid)]
    cases hβ:β j with
    |no=>rw [hβ] at this;exact this
    |nil=>rw [hβ] at this;exact ⟨by rw [this.1];rfl,this.2⟩
    |«at» b t=>
     rw [hβ] at this
     obtain ⟨g1,g2,arr,g3,g4,g5,g6,g7⟩:=this
     refine ⟨hfree j bk1 b t (Ne.symm hid) hj1 hβ,g2,arr,g3,g4,by simpa [jB] using g5,by simpa [jB] using g6,fun k x y hx hy=>?_⟩
     simp only [jA,Option.map_eq_some_iff] at hx
     obtain ⟨x0,hx0,rfl⟩:=hx
     exact (g7 k x0 y hx0 hy).fz hoth hm hc
    |gh o=>rw [hβ] at this;exact oP this hm (AV.fz id sz bw n es) (fun x _ y hx=>hx.fz hoth hm hc) _ (DY _ _ _ _ _ _)
  ·have key:∀ j b t,(β.set id .no) j= .at b t→j≠id:=fun j b t hb e=>by subst e;simp [cM.set] at hb
   have n1:=key j b t hbj
   have n2:=key k b t' hbk
   rw [hoth j n1] at hbj
   rw [hoth k n2] at hbk
   rw [kq,if_neg (Ne.symm n1)] at hj
   rw [kq,if_neg (Ne.symm n2)] at hk
   exact h.hp.inj j k b t t' (by simpa using hj) (by simpa using hk) hbj hbk
 cases hβ:β id with
 |no=>rw [hβ] at h0;exact h0.elim
 |gh o=>
  refine fin G (fun _ _ h=>h) h.hp.gs h.hp.js (fun j bk' b t _ hj hbj=>(h.hp.block hj hbj).1) fun y hc=>?_
  cases hc with
  |j5 hb'=>rw [hβ] at hb';cases hb'
  |sl hb'=>rw [hβ] at hb';cases hb'
 |nil=>
  rw [hβ] at h0
  have he:es=[]:=by
   cases es with
   |nil=>rfl
   |cons e es=>
    have h1:=hes
    rw [h0.1,List.flatMap_cons] at h1
    have h2:e.cells=[]:=(List.append_eq_nil_iff.1 h1).1
    have:=hu e ax
    rw [h2] at this;simp at this;omega
  refine fin G (fun _ _ h=>h) h.hp.gs h.hp.js (fun j bk' b t _ hj hbj=>(h.hp.block hj hbj).1) fun y hc=>?_
  subst he
  cases hc with
  |j5 _=>exact .cr (es:=[]) [] ax ax ax ax ax ax ax
  |sl hb'=>rw [hβ] at hb';cases hb'
 |«at» b t=>
  rw [hβ] at h0
  obtain ⟨g1,g2,arr,g3,g4,g5,g6,g7⟩:=h0
  have hm:∀ k o,G k=some o→(G.set b (.cells arr bk.T (0,0))) k=some o:=fun k o hk=>by
   simp only [bE.set];rw [if_neg (by rintro rfl;rw [g1] at hk;cases hk)];exact hk
  refine fin (G.set b (.cells arr bk.T (0,0))) hm (fun k o hk=>?_) (fun k hk=>?_) (fun j bk' b' t' hne hj hbj=>?_) fun y hc=>?_
  ·simp only [bE.set] at hk
   split at hk
   ·rename_i e;subst e;injection hk with hk;subst hk;exact g3
   ·exact h.hp.gs k o hk
  ·simp only [bE.set] at hk
   split at hk
   ·rename_i e;subst e;exact .inr g2
   ·exact h.hp.js k hk
  ·have hbb:b'≠b:=fun e=>by subst e;exact hne (h.hp.inj j id b' t' t (by rw [hj];rfl) (by rw [hb];rfl) hbj hβ)
   simp only [bE.set];rw [if_neg hbb]
   exact (h.hp.block hj hbj).1
  ·cases hc with
   |j5 hb'=>rw [hβ] at hb';cases hb'
   |@sl _ _ _ _ _ _ c b' t' hb' hnc ht hcm hbw=>
    rw [hβ] at hb';injection hb' with e1 e2;subst e1;subst e2
    subst hn
    have hfl:(es.flatMap AV.cells).length=es.length * sz:=jb hu
    have hle:es.length * sz≤arr.size:=by rw [← hfl,hes,g4];exact g5
    refine .cr (arr.toList.take (es.length * sz)) hu aE hnc hbw (fun _=>by simp) (fun j v hv=>⟨_,rfl,?_⟩) (fun j u v hu' hv=>?_)
    ·have hj:j < es.length * sz:=by have:=bS hv;simp at this;omega
     simp only [List.getElem?_take,hj,if_true,Array.getElem?_toList] at hv
     rw [Addr.eV]
     simpa [dO,bE.set] using hv
    ·have hj:j < es.length * sz:=by have:=bS hv;simp at this;omega
     simp only [List.getElem?_take,hj,if_true,Array.getElem?_toList] at hv
     rw [hes] at hu'
     exact ((g7 j u v hu' hv).mu (fw hp1 hu') lj).mono hm
theorem eg {α:Type} {f:α→AV} {fr:List AV} {hp:Hp} (id sz bw n:Nat) {T:TypeId} {cs:List AV} {full:Bool} (xs:List α) (hb:aW hp id=some ⟨T,cs,full⟩) (hcs:(xs.map f).flatMap AV.cells=cs) (hn:xs.length=n)
  (hc:∀ a,(f a).cells.length=sz) (hpu:∀ a,AV.cj (f a).cells=true) (hs:0 < sz):Le ⟨fr,hp⟩ ⟨AV.du id sz bw n (xs.map f) fr,gP id sz bw n (xs.map f) hp⟩:=
 FK id sz bw n (xs.map f) hb hcs (fun e he=>by obtain ⟨a,_,rfl⟩:=List.mem_map.1 he;exact hc a) (by simpa using hn) (by
  subst hcs;rw [List.flatMap_map];exact fK _ xs hpu) hs
theorem sq {fr:List AV} {hp:Hp} (id n:Nat) {T:TypeId} {full:Bool} (xs:List Int) (hb:aW hp id=some ⟨T,xs.map AV.int,full⟩) (hn:xs.length=n) :
  Le ⟨fr,hp⟩ ⟨AV.du id 1 8 n (xs.map AV.int) fr,gP id 1 8 n (xs.map AV.int) hp⟩:=
 eg (f:=AV.int) id 1 8 n xs hb (ky xs) hn (fun _=>rfl) (fun _=>rfl) aj
section
variable (id sz bw n:Nat) (es:List AV)
theorem D3 (l:List AV):AV.fz id sz bw n es (.agg l)= .agg (AV.du id sz bw n es l):=rfl
theorem D4 (l:List AV):AV.fz id sz bw n es (.dr l)= .dr (AV.du id sz bw n es l):=rfl
theorem FL (f:FuncId) (l:List AV):AV.fz id sz bw n es (.fn f l)= .fn f (AV.du id sz bw n es l):=rfl
theorem D5 (i o:Nat):AV.fz id sz bw n es (.ptr i o)=if i=id then .any else .ptr i o:=rfl
theorem FM (a b i o k:Nat):AV.fz id sz bw n es (.sl a b i o k)=if i=id then (if a=sz∧b=bw∧o=0∧k=n then .cr sz bw es else .any) else .sl a b i o k:=rfl
theorem D6:AV.fz id sz bw n es .any= .any:=rfl
theorem IV (x:Value):AV.fz id sz bw n es (.v x)= .v x:=rfl
theorem D7 (a b:Nat) (l:List AV):AV.fz id sz bw n es (.cr a b l)= .cr a b l:=rfl
theorem Bg (l:List AV):AV.fz id sz bw n es (.bx l)= .bx l:=rfl
theorem Bh:AV.du id sz bw n es []=[]:=rfl
theorem zh (x:AV) (r:List AV):AV.du id sz bw n es (x::r)=AV.fz id sz bw n es x::AV.du id sz bw n es r:=rfl
theorem zi (xs:List Int):AV.du id sz bw n es (xs.map AV.int)=xs.map AV.int:=ew (dK AV.int xs fun _=>rfl)
theorem xI (xs:List Bool):AV.du id sz bw n es (xs.map AV.bool)=xs.map AV.bool:=ew (dK AV.bool xs fun _=>rfl)
theorem zj:gP id sz bw n es []=[]:=rfl
theorem xJ (i:Nat) (T:TypeId) (cs:List AV) (fl:Bool) (r:Hp):gP id sz bw n es ((i,⟨T,cs,fl⟩)::r)=if i=id then gP id sz bw n es r else (i,⟨T,AV.du id sz bw n es cs,fl⟩)::gP id sz bw n es r:=rfl
end
attribute [go_sem] D3 D4 FL D5 FM D6 IV D7 Bg Bh zh zi xI zj xJ
theorem iD {f:List AV} {hp:Hp} (p i id sz bw:Nat) (T:TypeId) {bk0:fZ} (hb:aW hp p=some bk0) (hx:bk0.cs[i]?=some .fS) (hf:St.free ⟨f,hp⟩ id=true):Le ⟨f,hp⟩ ⟨f,cK (cK hp p {bk0 with cs:=bk0.cs.set i (.sl sz bw id 0 0)}) id ⟨T,[],false⟩⟩:=by
 intro R β G a w h
 obtain ⟨f1,f2,f3⟩:=ja hf
 have hself:(β.set id .nil) id= .nil:=by simp [cM.set]
 have hoth:∀ j,j≠id→(β.set id .nil) j=β j:=fun j hj=>by simp [cM.set,hj]
 have hpid:p≠id:=fun e=>by subst e;rw [hb] at f2;cases f2
 refine ⟨β.set id .nil,G,h.defers,h.size,fun j x y hj hy=>(h.fr j x y hj hy).gu (f1 j x hj) _,⟨h.hp.gs,fun j bk hj=>?_,fun j k b t t' hj hk hbj hbk=>?_,h.hp.keeps,h.hp.js,h.hp.jv.set _ (gg hf),h.hp.ga.DN _ (by have:=gg hf;omega) fun j hne hj=>by
  rw [cE,if_neg (Ne.symm hne)] at hj
  exact ot (by rw [hb];rfl) hj⟩⟩
 ·rw [cE] at hj
  by_cases hid:id=j
  ·subst hid
   simp only [if_true,Option.some.injEq] at hj
   subst hj
   unfold bW
   rw [hself]
   exact ⟨rfl,rfl⟩
  ·simp only [hid,if_false] at hj
   rw [cE] at hj
   by_cases hpj:p=j
   ·subst hpj
    simp only [if_true,Option.some.injEq] at hj
    subst hj
    have:=h.hp.blk p bk0 hb
    unfold bW at this ⊢
    rw [hoth p hpid]
    cases hβ:β p with
    |no=>rw [hβ] at this;exact this
    |nil=>rw [hβ] at this;rw [this.1] at hx;simp at hx
    |gh o=>
     rw [hβ] at this
     obtain ⟨outs,k3,k4,kk⟩:=sM.view this
     refine kk _ _ (by simpa using k3) (fun k x y hx' hy=>?_)
     simp only at hx'
     rw [List.getElem?_set] at hx'
     by_cases hik:i=k
     ·subst hik
      simp only [if_true] at hx'
      split at hx'<;>simp at hx'
      subst hx'
      have:=eF (k4 i _ y hx hy)
      rw [this]
      exact .j5 hself
     ·simp only [hik,if_false] at hx'
      exact (k4 k x y hx' hy).gu (f3 p bk0 k x hb hx') _
    |«at» b t=>
     rw [hβ] at this
     obtain ⟨g1,g2,arr,g3,g4,g5,g6,g7⟩:=this
     refine ⟨g1,g2,arr,g3,g4,by simpa using g5,by simpa using g6,fun k x y hx' hy=>?_⟩
     simp only at hx'
     rw [List.getElem?_set] at hx'
     by_cases hik:i=k
     ·subst hik
      simp only [if_true] at hx'
      split at hx'<;>simp at hx'
      subst hx'
      have:=eF (g7 i _ y hx hy)
      rw [this]
      exact .j5 hself
     ·simp only [hik,if_false] at hx'
      exact (g7 k x y hx' hy).gu (f3 p bk0 k x hb hx') _
   ·simp only [hpj,if_false] at hj
    have:=h.hp.blk j bk hj
    unfold bW at this ⊢
    rw [hoth j (Ne.symm hid)]
    cases hβ:β j with
    |no=>rw [hβ] at this;exact this
    |nil=>rw [hβ] at this;exact this
    |«at» b t=>
     rw [hβ] at this
     obtain ⟨g1,g2,arr,g3,g4,g5,g6,g7⟩:=this
     exact ⟨g1,g2,arr,g3,g4,g5,g6,fun k x y hx hy=>(g7 k x y hx hy).gu (f3 j bk k x hj hx) _⟩
    |gh o=>
     rw [hβ] at this
     exact fv this (fun _ _ h=>h) fun x hx y hc=>by
      obtain ⟨k,hk⟩:=List.getElem?_of_mem hx
      exact hc.gu (f3 j bk k x hj hk) _
 ·have key:∀ j b t,(β.set id .nil) j= .at b t→j≠id:=fun j b t hb e=>by subst e;rw [hself] at hb;cases hb
  have n1:=key j b t hbj
  have n2:=key k b t' hbk
  rw [hoth j n1] at hbj
  rw [hoth k n2] at hbk
  have key2:∀ j,j≠id→(aW (cK (cK hp p {bk0 with cs:=bk0.cs.set i (.sl sz bw id 0 0)}) id ⟨T,[],false⟩) j).isSome→(aW hp j).isSome:=by
   intro j hne hj
   rw [cE,if_neg (Ne.symm hne),cE] at hj
   split at hj
   ·rename_i e;subst e;rw [hb];rfl
   ·exact hj
  exact h.hp.inj j k b t t' (key2 j n1 hj) (key2 k n2 hk) hbj hbk
def iP (x y:AV):Prop:=∀ G β v,Conc G β x v→Conc G β y v
theorem iP.iB (x:AV):iP x x:=fun _ _ _ h=>h
theorem iP.nil (sz bw:Nat):iP .fS (.cr sz bw []):=fun G β v h=>by
 cases h
 exact .cr [] ax ax ax ax ax ax ax
def uG:List AV→List AV→Prop
 |[],[]=>True
 |x::r,y::q=>iP x y∧uG r q
 |_,_=>False
theorem jj:∀ {xs ys:List AV},uG xs ys→xs.length=ys.length∧∀ (j:Nat) x y,xs[j]?=some x→ys[j]?=some y→iP x y
 |[],[],_=>⟨rfl,by simp⟩
 |x::xs,y::ys,h=>by
  obtain ⟨h1,h2⟩:=jj h.2
  refine ⟨by simp [h1],fun j a b ha hb=>?_⟩
  cases j with
  |zero=>simp at ha hb;subst ha;subst hb;exact h.1
  |succ j=>exact h2 j a b (by simpa using ha) (by simpa using hb)
 |[],_::_,h=>h.elim
 |_::_,[],h=>h.elim
theorem iP.agg {xs ys:List AV} (h:uG xs ys):iP (.agg xs) (.agg ys):=fun G β v hc=>by
 obtain ⟨h1,h2⟩:=jj h
 cases hc with
 |agg vs hl hs=>
  refine .agg vs aj fun j x y hx hy=>?_
  have hj:j < xs.length:=by have:=bS hx;omega
  exact h2 j _ _ (List.getElem?_eq_getElem hj) hx G β y (hs j _ y (List.getElem?_eq_getElem hj) hy)
theorem iP.cr {sz bw:Nat} {es fs:List AV} (hl:es.length=fs.length) (hf:∀ e∈fs,e.cells.length=sz) (h:uG (es.flatMap AV.cells) (fs.flatMap AV.cells)):iP (.cr sz bw es) (.cr sz bw fs):=fun G β v hc=>by
 obtain ⟨h1,h2⟩:=jj h
 generalize hq:AV.cr sz bw es=q at hc
 cases hc with
 |cr ys hu hl' hc' hb hA hr hs=>
  injection hq with q1 q2 q3
  subst q1;subst q2;subst q3
  rw [hl] at hl' hc' hb hA ⊢
  refine .cr ys hf hl' hc' hb hA hr fun j x y hx hy=>?_
  have hj:j < (es.flatMap AV.cells).length:=by have:=bS hx;omega
  exact h2 j _ _ (List.getElem?_eq_getElem hj) hx G lj y (hs j _ y (List.getElem?_eq_getElem hj) hy)
 |_=>cases hq
theorem mI {f:FuncId} {args args':List AV} {Q:AV→Prop} (h:bg P f args Q) (hl:uG args' args):bg P f args' Q:=fun G w vals hG hv=>
 h G w vals hG ⟨by rw [← (jj hl).1];exact hv.1,fun j x y hx hy=>by
  have hj:j < args'.length:=by have:=bS hx;rw [(jj hl).1];exact this
  exact (jj hl).2 j _ _ (List.getElem?_eq_getElem hj) hx G lj y (hv.2 j _ y (List.getElem?_eq_getElem hj) hy)⟩
theorem xK:∀ {xs ys:List AV},xs.length=ys.length→(∀ (j:Nat) x y,xs[j]?=some x→ys[j]?=some y→iP x y)→uG xs ys
 |[],[],_,_=>trivial
 |x::xs,y::ys,hl,h=>⟨h 0 x y rfl rfl,xK (by simpa using hl) fun j a b ha hb=>h (j+1) a b (by simpa using ha) (by simpa using hb)⟩
 |[],_::_,hl,_=>by simp at hl
 |_::_,[],hl,_=>by simp at hl
theorem uG.iB (xs:List AV):uG xs xs:=xK rfl fun j x y hx hy=>by rw [hx] at hy;injection hy with hy;subst hy;exact iP.iB x
theorem uG.set {xs:List AV} {i:Nat} {x y:AV} (h:iP x y):uG (xs.set i x) (xs.set i y):=xK ax fun j a b ha hb=>by
 rw [List.getElem?_set] at ha hb
 split at ha
 ·rename_i e
  subst e
  simp only [if_true] at hb
  split at ha
  ·rename_i hl
   rw [if_pos hl] at hb
   injection ha with ha;injection hb with hb;subst ha;subst hb;exact h
  ·cases ha
 ·rename_i e;rw [if_neg e] at hb;rw [ha] at hb;injection hb with hb;subst hb;exact iP.iB a
theorem c9.sub {R:Rg} {β:cM} {G:bE} {hp hp':Hp} {w:World} (h:c9 R β G hp w) (hs:gi hp hp'):c9 R β G hp' w:=by
 refine ⟨h.gs,fun i bk hi=>h.blk i bk (hs i bk hi),fun i j b t t' hi hj=>?_,h.keeps,h.js,h.jv,h.ga.sub fun i hi=>by obtain ⟨b,hb⟩:=Option.isSome_iff_exists.1 hi;rw [hs i b hb];rfl⟩
 have key:∀ i,(aW hp' i).isSome→(aW hp i).isSome:=fun i hi=>by
  obtain ⟨b,hb⟩:=Option.isSome_iff_exists.1 hi
  rw [hs i b hb];rfl
 exact h.inj i j b t t' (key i hi) (key j hj)
def en (P:Program) (rs:Array ResultVar) (ids:List Nat) (Q:AV→Hp→Prop):Exit→St→Prop
 | .normal,s| .ret,s=>∃ s' x hp',Le s s'∧RV P rs s' x∧gi s'.hp hp'∧fY ids x hp'∧Q x hp'
 |_,_=>False
theorem D8 {f:FuncId} {fn:Func} {c:Code} {args:List AV} {ids:List Nat} {Q:AV→Hp→Prop} {n:Nat} {rs:Array ResultVar} (hf:P.funcs[f]?=some fn) (hb:fn.body=some c) (hn:fn.ntmps=n) (hrs:fn.results=rs)
  (h:AW P c ⟨args++List.replicate (n - args.length) .any,[]⟩ (en P rs ids Q)):dn P f args ids Q:=by
 intro _ G w vals hG ⟨hl,hc⟩
 subst hn
 refine fU (R:=⟨w,fun _=>False,G,fun _=>none,ln.no⟩) (β:=lj) (G:=G) hf hb hrs (iR hl hc ⟨hG,fun id bk h=>by simp [aW] at h,fun i j b t t' h=>by simp [aW] at h,⟨rfl,rfl,rfl,Nat.le_refl _,fun _ _ _=>rfl⟩,fun b h=>.inl h,qz,iy.nil⟩) h fun e s' hq=>?_
 have key:(∃ s'' x hp',Le s' s''∧RV P rs s'' x∧gi s''.hp hp'∧fY ids x hp'∧Q x hp')→∃ s'' x,Le s' s''∧RV P rs s'' x∧∀ β2 G2 y w2,Conc G2 β2 x y→c9 ⟨w,fun _=>False,G,fun _=>none,ln.no⟩ β2 G2 s''.hp w2→
   (fun (e:Ending) (w':World)=>∃ y G' β' x hp,e=Ending.returned y∧Q x hp∧fY ids x hp∧Conc G' β' x y∧c9 ⟨w,fun _=>False,G,fun _=>none,ln.no⟩ β' G' hp w') (.returned y) w2:=by
  rintro ⟨s'',x,hp',hle,hrv,hsu,hp,hQ⟩
  exact ⟨s'',x,hle,hrv,fun β2 G2 y w2 hcy hH=>⟨y,G2,β2,x,hp',rfl,hQ,hp,hcy,hH.sub hsu⟩⟩
 cases e with
 |normal=>exact ⟨.inl rfl,key hq⟩
 |ret=>exact ⟨.inr rfl,key hq⟩
 |_=>exact hq.elim
theorem FN {rs:Array ResultVar} {ids:List Nat} {Q:AV→Hp→Prop} {e:Exit} {s s':St} {x:AV} {hp':Hp} (hle:Le s s') (hrv:RV P rs s' x) (hs:gi s'.hp hp') (hw:fY ids x hp') (hQ:Q x hp')
  (he:e= .ret∨e= .normal:=by first|exact .inl rfl|exact .inr rfl):en P rs ids Q e s:=by
 have:∃ s' x hp',Le s s'∧RV P rs s' x∧gi s'.hp hp'∧fY ids x hp'∧Q x hp':=⟨s',x,hp',hle,hrv,hs,hw,hQ⟩
 rcases he with rfl|rfl<;>exact this
end Go.Ab
namespace Go.Ab
open Go.RowKit
variable {P:Program}
theorem sr {d:Tmp} {t el:TypeId} {len:Nat} {parts:Array (Nat×Operand)} {z:Value} {m bw:Nat} {ty:TypeId} {pos:String} {bC:Array Edge} {g:Option (Nat×Bool)} {s:St} {K:St→Prop}
  [hu:cJ P t (.slice el)] [hi:dm P el z m bw] (hsm:decide (0 < len * m)=true∧decide (len * m≤16777216)=true∧decide (len * bw≤140737488355328)=true)
  (hd:pw 0 (bJ s parts)=true) (hl:(bJ s parts).length=len) (hok:eb (fun i=>some (i * m,m)) (len * m) (bJ s parts)=true)
  (hf:s.free d=true) (hm:AV.bz d ((bJ s parts).flatMap fun p=>p.2.cells)=false)
  (hk:K ⟨s.fr.set d (.sl m bw d 0 len),cK s.hp d ⟨el,(bJ s parts).flatMap (fun p=>p.2.cells),true⟩⟩):dz P ⟨some d,.buildSlice t len parts,ty,pos,bC,g⟩ s K:=by
 intro R β G a w Q hr
 obtain ⟨s1,s2,s3⟩:=hsm
 simp only [decide_eq_true_eq] at s1 s2 s3
 obtain ⟨ie,hie,hz0,hse,_⟩:=hi.ok
 obtain ⟨p1,p2⟩:=kL hr parts
 have hps:=lG (m:=m) (by intro i o s h;simp at h;exact h.2.symm) _ hok
 have hok':eb (fun i=>some (i * m,m)) (List.replicate (len * m) AV.any).length (bJ s parts)=true:=by simpa using hok
 obtain ⟨zs',e1,e2,e3⟩:=mE (G:=G) (β:=β) (place:=fun i=>some (i * m,m)) (bJ s parts) _ (List.replicate (len * m) .any) ((Array.range (len * m)).map (z.cells[· % z.cells.size]!)) p1 ax hok' p2
  (fun j x y hx hy=>by
   rw [List.getElem?_replicate] at hx
   split at hx<;>simp at hx
   subst hx;exact .any)
 have hfill:fV (fun i=>some (i * m)) (List.replicate (len * m) AV.any) (bJ s parts)=(bJ s parts).flatMap fun p=>p.2.cells:=by
  have:=lF (m:=m) (bJ s parts) 0 [] (List.replicate (len * m) AV.any) hd ax (by simp [hl]) hps
  simpa using this
 have e2':(fV (fun i=>some (i * m)) (List.replicate (len * m) AV.any) (bJ s parts)).length=zs'.size:=e2
 have e3':∀ (j:Nat) x y,(fV (fun i=>some (i * m)) (List.replicate (len * m) AV.any) (bJ s parts))[j]?=some x→zs'[j]?=some y→Conc G β x y:=e3
 rw [hfill] at e2' e3'
 have hrun:(Instr.buildSlice t len (parts.map fun (i,x)=>(i,a.eval x))).run P w= .ok (.slice (some ⟨w.heap.size,0,none⟩) len len) (w.alloc (.cells zs' el)):=
  run_buildSlice w t el len _ zs' ie z hu.ok hie hz0 (by rw [hse];omega) (by rw [hse];omega) (by rw [hse];exact e1)
 have hzl:zs'.size=len * m:=by
  rw [← e2']
  have hes:∀ e∈(bJ s parts).map (·.2),e.cells.length=m:=fun e he=>by
   obtain ⟨p,hp,rfl⟩:=List.mem_map.1 he
   exact hps p hp
  have hfm:((bJ s parts).map (·.2)).flatMap AV.cells=(bJ s parts).flatMap fun p=>p.2.cells:=by rw [List.flatMap_map]
  rw [← hfm,jb hes];simp [hl]
 have h2:=hr.nY hf el ((bJ s parts).flatMap fun p=>p.2.cells) zs' true aj (fun _=>e2') e3' hm
 unfold Oper.wp
 have hexec:(execOp a.eval ⟨some d,.buildSlice t len parts,ty,pos,bC,g⟩).run P w= .ok (.value (.slice (some ⟨w.heap.size,0,none⟩) len len)) (w.alloc (.cells zs' el)):=by
  simp only [execOp,Sem.run_bind,hrun,Result.andThen_ok];rfl
 rw [hexec,Oper.upon_value]
 have hm1:0 < m:=by
  rcases Nat.eq_zero_or_pos m with h|h
  ·subst h;omega
  ·exact h
 have hlm:len≤maxLen:=by
  have:len * 1≤len * m:=Nat.mul_le_mul_left _ hm1
  simp only [maxLen];omega
 exact ⟨(Below.refl _ _).alloc (Nat.le_refl _) _,_,_,_,hk,h2.put (some d) (.sl (t:=zs'.size) aG (Nat.le_refl _) (by rw [hzl];omega) hlm s3)⟩
theorem v7 {d:Tmp} {t el:TypeId} {x y:Operand} {sz bw id id2 n m:Nat} {z:Value} {bk bk2:fZ} {ty:TypeId} {pos:String} {bC:Array Edge} {g:Option (Nat×Bool)} {s:St} {K:St→Prop}
  [hu:cJ P t (.slice el)] [hi:dm P el z sz bw]
  (hx:s.eval x= .sl sz bw id 0 n) (hb:aW s.hp id=some bk) (hT:bk.T=el) (hl:bk.cs.length=n * sz) (hy:s.eval y= .sl sz bw id2 0 m) (hb2:aW s.hp id2=some bk2) (hf2:bk2.full=true) (hl2:bk2.cs.length=m * sz) (h1:iz bk2.cs=true) (hm2:AV.bz id bk2.cs=false)
  (hz:z.cells.size=sz) (hs:0 < sz) (hw:0 < bw) (hbytes:(n+m) * bw≤140737488355328)
  (hk:K ⟨(AV.ct id s.fr).set d (.sl sz bw id 0 (n+m)),cK (dZ id s.hp) id ⟨el,AV.ct id bk.cs++bk2.cs,false⟩⟩) :
  eR P ⟨some d,.call {callee:=.builtin .append,args:=#[x,y],argTypes:=#[t,t]},ty,pos,bC,g⟩ s K:=by
 intro R β G a w Q hr
 have e1:=hr.eval x;rw [hx] at e1
 have e2:=hr.eval y;rw [hy] at e2
 generalize hxv:a.eval x=vx at e1
 generalize hyv:a.eval y=vy at e2
 have hlt:id≤999999999:=hr.hp.jv id (uA e1)
 obtain ⟨i0,hi0,hz0,hs0,hb0⟩:=hi.ok
 have hexec:∀ r w',(Builtin.append_ #[t,t] ty #[vx,vy]).run P w= .ok r w'→(execOp a.eval ⟨some d,.call {callee:=.builtin .append,args:=#[x,y],argTypes:=#[t,t]},ty,pos,bC,g⟩).run P w= .ok (.value r) w':=by
  intro r w' h
  simp [execOp,resolve,invoke,builtin,hxv,hyv,h]
 have hmax:n+m≤maxLen:=by
  have h2:(n+m) * 1≤(n+m) * bw:=Nat.mul_le_mul_left _ hw
  simp only [maxLen];omega
 cases e2 with
 |j5 hβ2=>
  exfalso
  have h0:=hr.hp.blk id2 bk2 hb2
  unfold bW at h0
  rw [hβ2] at h0
  rw [h0.2] at hf2;cases hf2
 |@sl _ _ _ _ _ _ c b2 P8 hβ2 hn2 ht2 hmx2 hbw2=>
  obtain ⟨q1,q2,arr2,q3,q4,q5,q6,q7⟩:=hr.hp.block hb2 hβ2
  have hys:arr2.toList.length=m * sz:=by have:=q6 hf2;simp;omega
  generalize hysd:arr2.toList=ys at hys
  have hyl:ys.length=m * sz:=hys
  have hflat:bk2.cs.length=ys.length:=by rw [hl2,hyl]
  have hsc:∀ (j:Nat) x y,bk2.cs[j]?=some x→ys[j]?=some y→Conc G β x y:=fun j x y h h'=>q7 j x y h (by rw [← hysd] at h';simpa using h')
  have hones:∀ u∈ys,u.oneCell'=true:=fun u hm=>by
   obtain ⟨j,hj⟩:=List.getElem?_of_mem hm
   have hjl:j < bk2.cs.length:=by rw [hflat];exact bS hj
   exact (hsc j _ u (List.getElem?_eq_getElem hjl) hj).one (nw h1 (List.getElem?_eq_getElem hjl))
  have hcells:∀ (j:Nat) u,ys[j]?=some u→w.cell? ((⟨b2,0,none⟩:Addr).add j)=some u:=fun j u hj=>by
   rw [Addr.eV]
   rw [← hysd] at hj
   simp only [World.cell?,q3]
   simpa using hj
  have hβne:β id≠.no:=fun e=>by have:=hr.hp.blk id bk hb;unfold bW at this;rw [e] at this;exact this
  have newcells:∀ (arr0:Array Value) (arr:Array Value) (k:BK),(∀ (j:Nat) x y,bk.cs[j]?=some x→arr0[j]?=some y→Conc G β x y)→bk.cs.length≤arr0.size→
    arr.toList.take ((n+m) * sz)=arr0.toList.take (n * sz)++ys→∀ (j:Nat) x y,(AV.ct id bk.cs++bk2.cs)[j]?=some x→arr[j]?=some y→Conc G (β.set id k) x y:=by
   intro arr0 arr k h0 h0l htake j x' y' hx' hy'
   have hjl:j < n * sz+ys.length:=by have:=bS hx';simp [da,hl,hflat] at this;exact this
   have hy2:(arr0.toList.take (n * sz)++ys)[j]?=some y':=by
    rw [← htake,List.getElem?_take,if_pos (by rw [Nat.add_mul,← hyl];exact hjl)]
    simpa using hy'
   have hlen0:(arr0.toList.take (n * sz)).length=n * sz:=by simp;omega
   by_cases hj:j < n * sz
   ·rw [List.getElem?_append_left (by rw [da,hl];exact hj),gZ,Option.map_eq_some_iff] at hx'
    obtain ⟨x0,hx0,rfl⟩:=hx'
    rw [List.getElem?_append_left (by rw [hlen0];exact hj),List.getElem?_take,if_pos hj] at hy2
    exact (h0 j x0 y' hx0 (by simpa using hy2)).jY (fun i hi=>by simp [cM.set,hi])
   ·rw [List.getElem?_append_right (by rw [da,hl];omega),da,hl] at hx'
    rw [List.getElem?_append_right (by rw [hlen0];omega),hlen0] at hy2
    have hmx:AV.cv id x'=false:=dC hm2 hx'
    have hpx:AV.dJ id x'=x':=by unfold AV.dJ;rw [hmx];rfl
    have:=(hsc _ x' y' hx' hy2).jY (β':=β.set id k) (id:=id) (fun i hi=>by simp [cM.set,hi])
    rw [hpx] at this
    exact this
  have fin:∀ (v':Value) (w':World) (row:Option Nat) (arr0:Array Value),(Builtin.append_ #[t,t] ty #[vx,.slice (some ⟨b2,0,none⟩) m c]).run P w= .ok v' w'→w.grownBy w' row→(∀ b,row=some b→∃ t,β id= .at b t)→
    (∀ (j:Nat) x y,bk.cs[j]?=some x→arr0[j]?=some y→Conc G β x y)→bk.cs.length≤arr0.size→
    w'.ownsRow R.w0.heap.size el sz v' (n+m) (arr0.toList.take (n * sz)++ys)∨(∃ b tt cap cur,v'= .slice (some ⟨b,0,none⟩) (n+m) cap∧row=some b∧w'.heap[b]?=some (.cells cur el (0,0))∧n+m≤cap∧cap≤maxLen∧cur.size=cap * sz∧cur.size=tt∧cur.toList.take ((n+m) * sz)=arr0.toList.take (n * sz)++ys)→
    (∀ b,v'.ownBlock=some b→row=some b∨w.heap.size≤b)→RK R K (a.put (some d) v') w':=by
   intro v' w' row arr0 hrun hgrow hrow h0 h0l hown hat
   have hown':(v'= .slice none 0 0∧n+m=0)∨∃ b cap cur,v'= .slice (some ⟨b,0,none⟩) (n+m) cap∧w'.heap[b]?=some (.cells cur el (0,0))∧n+m≤cap∧cap≤maxLen∧cur.size=cap * sz∧cur.toList.take ((n+m) * sz)=arr0.toList.take (n * sz)++ys:=by
    rcases hown with hown|⟨b,tt,cap,cur,h1,h2,h3,h4,h5,h6,h7,h8⟩
    ·rcases hown.2 with ⟨h1,h2⟩|⟨b,cap,cur,h1,h2,h3,h4,h5,h6,h7⟩
     ·exact .inl ⟨h1,h2⟩
     ·exact .inr ⟨b,cap,cur,h1,h3,h4,h5,h6,h7⟩
    ·exact .inr ⟨b,cap,cur,h1,h3,h4,h5,h6,h8⟩
   rcases hown' with ⟨hv,hn0⟩|⟨b,cap,cur,hv,hcur,hcap,hcm,hcs,htake⟩
   ·have hn:n=0:=by omega
    have hel:m=0:=by omega
    have hes:bk2.cs=[]:=List.eq_nil_of_length_eq_zero (by rw [hl2,hel];simp)
    have hbk:bk.cs=[]:=List.eq_nil_of_length_eq_zero (by rw [hl,hn];simp)
    have hrep:=hr.xE (id:=id) hgrow hrow (by rw [hb];rfl) hlt .nil ⟨el,AV.ct id bk.cs++bk2.cs,false⟩ ⟨by simp [hbk,hes,AV.ct],rfl⟩
    refine ⟨_,_,_,hk,hrep.put (some d) ?_⟩
    rw [hv,hn0]
    exact .j5 aG
   ·have hrep:=hr.xE (id:=id) hgrow hrow (by rw [hb];rfl) hlt (.at b cur.size) ⟨el,AV.ct id bk.cs++bk2.cs,false⟩
     ⟨hat b (by rw [hv];rfl),cur,hcur,rfl,by
      simp only [List.length_append,da,hl,hflat,hyl,hcs,← Nat.add_mul]
      exact Nat.mul_le_mul_right _ hcap,(fun h=>by cases h),newcells arr0 cur _ h0 h0l htake⟩
    refine ⟨_,_,_,hk,hrep.put (some d) ?_⟩
    rw [hv]
    exact .sl (t:=cur.size) aG hcap (by rw [hcs];omega) hcm hbytes
  unfold Oper.wp
  cases e1 with
  |j5 hβ=>
   have hbk:bk.cs=[]:=by have:=hr.hp.blk id bk hb;unfold bW at this;rw [hβ] at this;exact this.1
   obtain ⟨v',w',hrun,hown,hgr,_,hat⟩:=run_append_own_at (P:=P) w R.w0.heap.size t ty el i0 z sz bw hu.ok hi0 hz0 hs0 hb0 hz hs (.slice none 0 0) 0 [] (World.ownsRow_nil _ _ _ _) ⟨b2,0,none⟩ m c ys hyl hcells hones hmax hbytes hr.hp.keeps.size
   rw [hexec _ _ hrun,Oper.upon_value]
   exact fin v' w' none #[] hrun hgr (fun _ h=>by cases h) (by simp [hbk]) (by simp [hbk]) (.inl (by simpa using hown)) (fun b h=>by
    rcases hat with h'|h'
    ·rw [h'] at h;cases h
    ·rw [h'] at h;injection h with h;exact .inr aj)
  |@sl _ _ _ _ _ _ cap b tt hβ hn ht hm hbw=>
   obtain ⟨g1,g2,arr,g3,g4,g5,g6,g7⟩:=hr.hp.block hb hβ
   have hrow:∀ b',some b=some b'→∃ t,β id= .at b' t:=fun b' h=>by injection h with h;subst h;exact ⟨tt,hβ⟩
   have hcs:arr.size=cap * sz:=by rw [g4,← ht];omega
   have hown0:w.ownsRow 0 el sz (.slice (some ⟨b,0,none⟩) n cap) n (arr.toList.take (n * sz)):=
    ⟨by simp;omega,.inr ⟨b,cap,arr,rfl,Nat.zero_le _,by rw [← hT];exact g3,hn,hm,hcs,rfl⟩⟩
   obtain ⟨v',w',hrun,hown,hgr,_,hat⟩:=run_append_own_at (P:=P) w 0 t ty el i0 z sz bw hu.ok hi0 hz0 hs0 hb0 hz hs _ n _ hown0 ⟨b2,0,none⟩ m c ys hyl hcells hones hmax hbytes (Nat.zero_le _)
   rw [hexec _ _ hrun,Oper.upon_value]
   have hat':∀ b',v'.ownBlock=some b'→some b=some b'∨w.heap.size≤b':=fun b' h=>by
    rcases hat with h'|h'
    ·rw [h'] at h;exact .inl h
    ·rw [h'] at h;injection h with h;exact .inr aj
   rcases hown.2 with ⟨h1',h2'⟩|⟨b',cap',cur',h1',h2',h3',h4',h5',h6',h7'⟩
   ·exact fin v' w' (some b) arr hrun hgr hrow g7 aj (.inl ⟨hown.1,.inl ⟨h1',h2'⟩⟩) hat'
   ·rcases hat' b' (by rw [h1'];rfl) with hbb'|hbb'
    ·injection hbb' with hbb';subst hbb'
     exact fin v' w' (some b) arr hrun hgr hrow g7 aj (.inr ⟨b,cur'.size,cap',cur',h1',rfl,h3',h4',h5',h6',rfl,h7'⟩) hat'
    ·exact fin v' w' (some b) arr hrun hgr hrow g7 aj (.inl ⟨hown.1,.inr ⟨b',cap',cur',h1',Nat.le_trans hr.hp.keeps.size hbb',h3',h4',h5',h6',h7'⟩⟩) hat'
end Go.Ab
namespace Go.Ab
open Go.RowKit Go.Sort
variable {P:Program}
def dP (P:Program) (f:FuncId) (args:List AV) (id:Nat) (bk:fZ) (Q:AV→fZ→Prop):Prop:=
 ∀ β G w vals out lp,c9 ⟨w,ji β id,G,out,lp⟩ β G [(id,bk)] w→zc G β args vals→Calls P f vals.toArray w fun e w'=>
  ∃ y G' x bk',e= .returned y∧Q x bk'∧uF id x∧AV.cj bk'.cs=true∧Conc G' β x y∧c9 ⟨w,ji β id,G,out,lp⟩ β G' [(id,bk')] w'
theorem eE.Nu {R:Rg} {β:cM} {G:bE} {s:St} {a:Act} {w:World} (h:eE R β G s a w) {id:Nat} {bk:fZ} (hb:aW s.hp id=some bk)
  {w':World} {G':bE} {bk':fZ} {x:AV} {y:Value} (hox:uF id x) (hob:AV.cj bk'.cs=true) (hcx:Conc G' β x y) (hrh:c9 ⟨w,ji β id,G,R.out,fW R⟩ β G' [(id,bk')] w') (d:Option Tmp) :
  ∃ G2,eE R β G2 ⟨(St.put ⟨s.fr,[]⟩ d x).fr,cK s.hp id bk'⟩ (a.put d y) w':=by
 have hkeep:=hrh.keeps
 have hlent:∀ b,ji β id b→G b=none∧(R.w0.heap.size≤b∨R.ex b)∧b < w.heap.size:=fun b ⟨t,ht⟩=>by
  obtain ⟨g1,g2,arr,g3,_⟩:=h.hp.block hb ht
  exact ⟨g1,g2,cN g3⟩
 have hsame:∀ b,b < w.heap.size→¬ji β id b→w'.heap[b]?=w.heap[b]?:=fun b h1 h2=>hkeep.block b h1 h2
 have hgs:∀ b o,G b=some o→w'.heap[b]?=some o:=fun b o hg=>by
  have h1:=h.hp.gs b o hg
  rw [hsame b (cN h1) (fun hl=>by have:=(hlent b hl).1;rw [hg] at this;cases this)]
  exact h1
 let G3:bE:=fun b=>match G b with|some o=>some o|none=>G' b
 have m1:∀ b o,G b=some o→G3 b=some o:=fun b o hb=>by simp [G3,hb]
 have m2:∀ b o,G' b=some o→G3 b=some o:=fun b o hb=>by
  cases hg:G b with
  |none=>simp [G3,hg,hb]
  |some o'=>
   have e1:=hgs b o' hg
   have e2:=hrh.gs b o hb
   rw [e1] at e2;injection e2 with e2;subst e2
   exact m1 b _ hg
 have m3:∀ b,G3 b≠none→G b≠none∨G' b≠none:=fun b hb=>by
  simp only [G3] at hb
  cases hg:G b with
  |some o=>exact .inl ax
  |none=>rw [hg] at hb;exact .inr hb
 have hG':∀ b,G' b≠none→G b≠none∨w.heap.size≤b∨ji β id b:=fun b hb=>hrh.js b hb
 have hold:∀ u v,Conc G β u v→Conc G3 β u v:=fun u v hc=>hc.mono m1
 have hnew:∀ u v,uF id u→Conc G' β u v→Conc G3 β u v:=fun u v _ hc=>hc.mono m2
 have hblk':=hrh.blk id bk' (by simp [aW])
 have hother:∀ i bk0 b t,i≠id→aW s.hp i=some bk0→β i= .at b t→¬ji β id b∧b < w.heap.size∧G3 b=none:=fun i bk0 b t hne hi hβ=>by
  obtain ⟨g1,g2,arr,g3,_⟩:=h.hp.block hi hβ
  have hnl:¬ji β id b:=fun ⟨t',ht'⟩=>hne (h.hp.inj i id b t t' (by rw [hi];rfl) (by rw [hb];rfl) hβ ht')
  refine ⟨hnl,cN g3,?_⟩
  cases hq:G3 b with
  |none=>rfl
  |some o=>
   rcases m3 b (by rw [hq];simp) with h1|h1
   ·exact absurd g1 h1
   ·rcases hG' b h1 with h2|h2|h2
    ·exact absurd g1 h2
    ·have:=cN g3;omega
    ·exact absurd h2 hnl
 have hnewb:∀ b t,β id= .at b t→(w.heap.size≤b∨ji β id b)∧G' b=none:=fun b t hβ=>by
  unfold bW at hblk'
  rw [hβ] at hblk'
  exact ⟨hblk'.2.1,hblk'.1⟩
 have hpre:eE R β G3 ⟨s.fr,cK s.hp id bk'⟩ a w':=by
  refine ⟨h.defers.mono m1,h.size,fun i u v hu hv=>?_,⟨fun b o hb'=>?_,fun i bk0 hi=>?_,fun i j b t t' hi hj hbi hbj=>?_,?_,fun b hb'=>?_,h.hp.jv,h.hp.ga.cK (by rw [hb];rfl)⟩⟩
  ·exact hold _ _ (h.fr i u v hu hv)
  ·simp only [G3] at hb'
   split at hb'
   ·rename_i o' hg;injection hb' with hb';subst hb';exact hgs b _ hg
   ·exact hrh.gs b o hb'
  ·rw [cE] at hi
   split at hi
   ·rename_i hid;subst hid;injection hi with hi;subst hi
    unfold bW at hblk' ⊢
    cases hβ:β id with
    |no=>rw [hβ] at hblk';exact hblk'
    |nil=>rw [hβ] at hblk';exact hblk'
    |gh o=>rw [hβ] at hblk';exact fv (tP hblk' h.hp.keeps.size (fun b hb=>(hlent b hb).2.1)) m2 fun u hu v hc=>hnew u v (fun k hk=>by obtain ⟨j,hj⟩:=List.getElem?_of_mem hu;exact dC (iS hob) hj) hc
    |«at» b t=>
     rw [hβ] at hblk'
     obtain ⟨g1,g2,arr',g3,g4,g5,g6,g7⟩:=hblk'
     refine ⟨?_,?_,arr',g3,g4,g5,g6,fun j u v hu hv=>hnew u v (fun k hk=>dC (iS hob) hu) (g7 j u v hu hv)⟩
     ·cases hq:G3 b with
      |none=>rfl
      |some o=>
       rcases m3 b (by rw [hq];simp) with h1|h1
       ·rcases g2 with h2|h2
        ·cases hq2:G b with
         |none=>exact absurd hq2 h1
         |some o2=>have:=cN (h.hp.gs b o2 hq2);simp only at h2;omega
        ·exact absurd (hlent b h2).1 h1
       ·exact absurd g1 h1
     ·rcases g2 with h2|h2
      ·exact .inl (Nat.le_trans h.hp.keeps.size h2)
      ·exact (hlent b h2).2.1
   ·rename_i hid
    have hi1:=hi
    have:=h.hp.blk i bk0 hi1
    unfold bW at this ⊢
    cases hβ:β i with
    |no=>rw [hβ] at this;exact this
    |nil=>rw [hβ] at this;exact this
    |gh o=>rw [hβ] at this;exact fv this m1 fun u _ v hc=>hold u v hc
    |«at» b t=>
     obtain ⟨o1,o2,o3⟩:=hother i bk0 b t (Ne.symm hid) hi1 hβ
     rw [hβ] at this
     obtain ⟨g1,g2,arr',g3,g4,g5,g6,g7⟩:=this
     exact ⟨o3,g2,arr',by rw [hsame b o2 o1];exact g3,g4,g5,g6,fun j u v hu hv=>hold _ _ (g7 j u v hu hv)⟩
  ·have key:∀ i b t,i≠id→(aW (cK s.hp id bk') i).isSome→β i= .at b t→(aW s.hp i).isSome∧β i= .at b t∧¬ji β id b∧b < w.heap.size:=by
    intro i b t hne his hbi
    rw [cE,if_neg (Ne.symm hne)] at his
    obtain ⟨bk2,hb2⟩:=Option.isSome_iff_exists.1 his
    obtain ⟨o1,o2,_⟩:=hother i bk2 b t hne hb2 hbi
    exact ⟨by rw [hb2];rfl,hbi,o1,o2⟩
   by_cases hi':i=id
   ·by_cases hj':j=id
    ·rw [hi',hj']
    ·exfalso
     subst hi'
     obtain ⟨_,_,k3,k4⟩:=key j b t' hj' hj hbj
     rcases (hnewb b t hbi).1 with h1|h1
     ·omega
     ·exact k3 h1
   ·by_cases hj':j=id
    ·exfalso
     subst hj'
     obtain ⟨_,_,k3,k4⟩:=key i b t hi' hi hbi
     rcases (hnewb b t' hbj).1 with h1|h1
     ·omega
     ·exact k3 h1
    ·obtain ⟨a1,a2,_⟩:=key i b t hi' hi hbi
     obtain ⟨c1,c2,_⟩:=key j b t' hj' hj hbj
     exact h.hp.inj i j b t t' a1 c1 a2 c2
  ·have hk:=h.hp.keeps
   refine ⟨hkeep.os.trans hk.os,hkeep.tape.trans hk.tape,hkeep.output.trans hk.output,Nat.le_trans hk.size hkeep.size,fun j h1 h2=>?_⟩
   rw [hsame j (Nat.lt_of_lt_of_le h1 hk.size) (fun hl=>by rcases (hlent j hl).2.1 with h3|h3;omega;exact h2 h3)]
   exact hk.block j h1 h2
  ·rcases m3 b hb' with h1|h1
   ·exact h.hp.js b h1
   ·rcases hG' b h1 with h2|h2|h2
    ·exact h.hp.js b h2
    ·exact .inr (.inl (Nat.le_trans h.hp.keeps.size h2))
    ·exact .inr (hlent b h2).2.1
 refine ⟨G3,?_⟩
 have:=hpre.put d (hnew x y hox hcx)
 cases d<;>exact this
theorem kz {d:Option Tmp} {f:FuncId} {args:Array Operand} {eQ:Array TypeId} {ty:TypeId} {pos:String} {bC:Array Edge} {g:Option (Nat×Bool)} {s:St} {K:St→Prop} {id:Nat} {bk:fZ} {Q:AV→fZ→Prop} [hc:cS P f]
  (h:dP P f (cn s args) id bk Q) (hb:aW s.hp id=some bk) (hk:∀ x bk',Q x bk'→K ⟨(St.put ⟨s.fr,[]⟩ d x).fr,cK s.hp id bk'⟩) (hT:bk.T < 1000000000:=by first|decide|exact of_decide_eq_true rfl) :
  eR P ⟨d,.call {callee:=.value (.func f),args,argTypes:=eQ},ty,pos,bC,g⟩ s K:=by
 intro R β G a w Q' hr
 have hrun:(execOp a.eval ⟨d,.call {callee:=.value (.func f),args,argTypes:=eQ},ty,pos,bC,g⟩).run P w= .ok (.enter f (args.map a.eval)) w:=by
  simp [execOp,resolve,Act.eval,Deferred.ofValue,invoke,hc.ok]
 unfold Oper.wp
 rw [hrun,Oper.upon_enter]
 have:=h β G w (args.map a.eval).toList R.out (fW R) (FJ hr.hp hb hT) (gw hr args)
 simp only [Array.toArray_toList] at this
 refine this.mono fun e w' ⟨y,G',x,bk',he,hQ,hox,hob,hcx,hrh⟩=>?_
 subst he
 obtain ⟨G2,hr2⟩:=hr.Nu hb hox hob hcx hrh d
 exact ⟨β,G2,_,hk x bk' hQ,hr2⟩
theorem heap_put (w:World) (b n:Nat) (d:Array Int) (os:Array Obj) (k:Nat) (hk:k < w.heap.size) :
  (grow (putRow (Value.int .i64) (Sort.ahead w n) b 0 d) os).heap[k]?=if b=k then (w.heap[k]?).map (onCells (putCells (Value.int .i64) 0 d)) else w.heap[k]?:=by
 have e:(putRow (Value.int .i64) (Sort.ahead w n) b 0 d).heap=w.heap.modify b (onCells (putCells (Value.int .i64) 0 d)):=rfl
 show ((putRow (Value.int .i64) (Sort.ahead w n) b 0 d).heap++os)[k]?=_
 rw [e,Array.getElem?_append_left (by simpa using hk),Array.getElem?_modify]
theorem zk {out:Nat→Option (List Value)} {lp:ln} {β:cM} {G:bE} {id b t:Nat} {T:TypeId} {bk:fZ} {w:World} (h:c9 ⟨w,ji β id,G,out,lp⟩ β G [(id,bk)] w) (hT:bk.T=T) (hβ:β id= .at b t) (d keep:List Int) (n:Nat) (os:Array Obj) (hd:d.length≤t) (hk:keep.length≤d.length) (hke:∀ j (h:j < keep.length),keep[j]=d[j]' aj) :
  c9 ⟨w,ji β id,G,out,lp⟩ β G [(id,⟨T,keep.map AV.int,false⟩)] (grow (putRow (Value.int .i64) (Sort.ahead w n) b 0 d.toArray) os):=by
 subst hT
 have hblk:=h.blk id bk (by simp [aW])
 unfold bW at hblk
 rw [hβ] at hblk
 obtain ⟨g1,g2,arr,g3,g4,g5,g6,g7⟩:=hblk
 have hsz:(grow (putRow (Value.int .i64) (Sort.ahead w n) b 0 d.toArray) os).heap.size=w.heap.size+os.size:=by
  rw [size_grow];simp [putRow,mapBlock,Sort.ahead]
 refine ⟨fun k o hg=>?_,fun i bk' hi=>?_,fun i j k t t' hi hj hbi hbj=>?_,⟨rfl,rfl,rfl,?_,fun k hk1 hk2=>?_⟩,h.js,h.jv,iy.one⟩
 ·have h1:=h.gs k o hg
  rw [heap_put _ _ _ _ _ _ (cN h1),if_neg (fun hbk=>by rw [← hbk,g1] at hg;cases hg)]
  exact h1
 ·obtain ⟨rfl,rfl⟩:=e9 hi
  unfold bW
  rw [hβ]
  refine ⟨g1,g2,putCells (Value.int .i64) 0 d.toArray arr,?_,?_,?_,fun h=>(by cases h),fun j x y hx hy=>?_⟩
  ·rw [heap_put _ _ _ _ _ _ (cN g3),if_pos rfl,g3];rfl
  ·rw [← g4];simp [putCells]
  ·simp;omega
  ·rw [List.getElem?_map,Option.map_eq_some_iff] at hx
   obtain ⟨z,hz,rfl⟩:=hx
   obtain ⟨hj,rfl⟩:=List.getElem?_eq_some_iff.1 hz
   simp only [putCells,Array.getElem?_mapIdx,Option.map_eq_some_iff] at hy
   obtain ⟨y0,hy0,rfl⟩:=hy
   rw [if_pos ⟨by omega,by simp;omega⟩,Nat.sub_zero,hke j hj]
   have:d.toArray[j]! =d[j]' aj :=by
    rw [getElem!_pos _ j aE];simp
   rw [this]
   exact .v
 ·obtain ⟨x,hx⟩:=Option.isSome_iff_exists.1 hi
  obtain ⟨y,hy⟩:=Option.isSome_iff_exists.1 hj
  exact (e9 hx).1.symm.trans (e9 hy).1
 ·rw [hsz];simp only;omega
 ·have hbk:b≠k:=fun hbk=>hk2 ⟨t,by rw [← hbk];exact hβ⟩
  rw [heap_put _ _ _ _ _ _ hk1,if_neg hbk]
theorem wH {out:Nat→Option (List Value)} {lp:ln} {β:cM} {G:bE} {id b t:Nat} {bk:fZ} {w:World} {xs:List Int} (h:c9 ⟨w,ji β id,G,out,lp⟩ β G [(id,bk)] w) (hβ:β id= .at b t) (hc:bk.cs=xs.map AV.int) :
  Holds (Value.int .i64) w b 0 xs.toArray∧b < w.heap.size∧xs.length≤t:=by
 have hblk:=h.blk id bk (by simp [aW])
 unfold bW at hblk
 rw [hβ,hc] at hblk
 obtain ⟨g1,g2,arr,g3,g4,g5,g6,g7⟩:=hblk
 simp only [List.length_map] at g5
 refine ⟨fun j hj=>?_,cN g3,g5⟩
 have hj2:j < xs.length:=by simpa using hj
 have hja:j < arr.size:=by omega
 have h1:=g7 j (.int xs[j]) arr[j] (by simp [hj2]) (by simp [hja])
 have h2:=eF h1
 constructor
 ·simp only [World.cell?,g3,Nat.zero_add]
  rw [getElem!_pos _ j hj]
  simp [hja,h2]
 ·simp [World.frozen?,g3]
def lJ (xs:List Int):List Int:=xs.mergeSort fun x y=>decide (x≤y)
theorem Bi {f:FuncId} {id bw:Nat} {T:TypeId} {xs:List Int} {fl:Bool} (hlen:xs.length≤17592186044416)
  (hS:∀ (blk off cap:Nat) (zs:List Int) (w:World),Holds (Value.int .i64) w blk off zs.toArray→blk < w.heap.size→zs.length < 4611686018427387904→
   Calls P f #[.slice (some ⟨blk,off,none⟩) zs.length cap] w fun e w'=>e= .returned (.tuple #[])∧∃ n os,w'=grow (putRow (Value.int .i64) (Sort.ahead w n) blk off (zs.mergeSort fun x y=>decide (x≤y)).toArray) os)
  (hN:∀ (p:Option Addr) (cap:Nat) (w:World),Calls P f #[.slice p 0 cap] w fun e w'=>e= .returned (.tuple #[])∧w'=w) :
  dP P f [.sl 1 bw id 0 xs.length] id ⟨T,xs.map AV.int,fl⟩ (fun x bk=>x= .dr []∧bk=⟨T,(lJ xs).map AV.int,false⟩):=by
 intro β G w vals out lp hr ⟨hvl,hv⟩
 match vals,hvl,hv with
 |[v],_,hv=>
  have h1:=hv 0 _ _ rfl rfl
  obtain ⟨n0,hn0⟩:∃ n,xs.length=n:=⟨_,rfl⟩
  rw [hn0] at h1
  have hsl:(lJ xs).length=xs.length:=List.length_mergeSort xs
  cases h1 with
  |j5 hb=>
   have hx0:xs=[]:=List.eq_nil_of_length_eq_zero hn0
   subst hx0
   refine (hN none 0 w).mono fun e w' ⟨he,hw⟩=>?_
   subst hw
   refine ⟨_,G,_,_,he,⟨rfl,rfl⟩,fun j hj=>rfl,by simp [lJ,AV.cj],.dr [] rfl (fun j x y hx=>by simp at hx),?_⟩
   have hb2:=hr.blk id _ (by simp [aW];rfl)
   refine ⟨hr.gs,fun i bk' hi=>?_,fun i j k t t' hi hj _ _=>?_,hr.keeps,hr.js,hr.jv,iy.one⟩
   ·obtain ⟨rfl,rfl⟩:=e9 hi
    unfold bW
    rw [hb]
    exact ⟨by simp [lJ],rfl⟩
   ·obtain ⟨x,hx⟩:=Option.isSome_iff_exists.1 hi
    obtain ⟨y,hy⟩:=Option.isSome_iff_exists.1 hj
    exact (e9 hx).1.symm.trans (e9 hy).1
  |sl hb hn ht hm hbb=>
   subst hn0
   obtain ⟨hH,hbw,hxt⟩:=wH hr hb rfl
   refine (hS _ 0 _ xs w hH hbw aj).mono fun e w' ⟨he,n,os,hw⟩=>?_
   subst hw
   refine ⟨_,G,_,_,he,⟨rfl,rfl⟩,fun j hj=>rfl,dK AV.int _ fun _=>rfl,.dr [] rfl (fun j x y hx=>by simp at hx),?_⟩
   exact zk hr rfl hb (lJ xs) (lJ xs) n os aj (Nat.le_refl _) (fun j hj=>rfl)
theorem zl (xs:List Int):(Lib.compact xs).length≤xs.length:=by
 unfold Lib.compact Lib.compactUpTo
 rw [List.length_map]
 have:=List.length_filter_le (Lib.keeps xs.toArray) (List.range xs.length)
 simpa using this
theorem v8 {f:FuncId} {id bw:Nat} {T:TypeId} {xs:List Int} {fl:Bool} (hlen:xs.length≤1000000)
  (hC:∀ (blk off cap:Nat) (zs:List Int) (w:World),Holds (Value.int .i64) w blk off zs.toArray→zs.length≤9223372036854775807→zs.length≤cap→
   Calls P f #[.slice (some ⟨blk,off,none⟩) zs.length cap] w fun e w'=>e= .returned (.slice (some ⟨blk,off,none⟩) (Lib.compact zs).length cap)∧∃ q,w'=putRow (Value.int .i64) (Sort.ahead w q) blk off (Lib.compact zs++List.replicate (zs.length - (Lib.compact zs).length) 0).toArray)
  (hN:∀ (p:Option Addr) (cap:Nat) (w:World),Calls P f #[.slice p 0 cap] w fun e w'=>e= .returned (.slice p 0 cap)∧w'=w) :
  dP P f [.sl 1 bw id 0 xs.length] id ⟨T,xs.map AV.int,fl⟩ (fun x bk=>x= .sl 1 bw id 0 (Lib.compact xs).length∧bk=⟨T,(Lib.compact xs).map AV.int,false⟩):=by
 intro β G w vals out lp hr ⟨hvl,hv⟩
 have hcl:=zl xs
 match vals,hvl,hv with
 |[v],_,hv=>
  have h1:=hv 0 _ _ rfl rfl
  obtain ⟨n0,hn0⟩:∃ n,xs.length=n:=⟨_,rfl⟩
  rw [hn0] at h1
  have only:uF id (.sl 1 bw id 0 (Lib.compact xs).length):=fun j hj=>by simp [AV.cv,Ne.symm hj]
  cases h1 with
  |j5 hb=>
   have hx0:xs=[]:=List.eq_nil_of_length_eq_zero hn0
   subst hx0
   refine (hN none 0 w).mono fun e w' ⟨he,hw⟩=>?_
   subst hw
   refine ⟨_,G,_,_,he,⟨rfl,rfl⟩,only,rfl,.j5 hb,?_⟩
   refine ⟨hr.gs,fun i bk' hi=>?_,fun i j k t t' hi hj _ _=>?_,hr.keeps,hr.js,hr.jv,iy.one⟩
   ·obtain ⟨rfl,rfl⟩:=e9 hi
    unfold bW
    rw [hb]
    exact ⟨rfl,rfl⟩
   ·obtain ⟨x,hx⟩:=Option.isSome_iff_exists.1 hi
    obtain ⟨y,hy⟩:=Option.isSome_iff_exists.1 hj
    exact (e9 hx).1.symm.trans (e9 hy).1
  |sl hb hn ht hm hbb=>
   subst hn0
   obtain ⟨hH,hbw,hxt⟩:=wH hr hb rfl
   refine (hC _ 0 _ xs w hH aj hn).mono fun e w' ⟨he,q,hw⟩=>?_
   subst hw
   have hl:(Lib.compact xs++List.replicate (xs.length - (Lib.compact xs).length) 0).length=xs.length:=by simp;omega
   have key:=zk hr rfl hb (Lib.compact xs++List.replicate (xs.length - (Lib.compact xs).length) 0) (Lib.compact xs) q #[] aj ax (fun j hj=>by rw [List.getElem_append_left hj])
   rw [grow_empty] at key
   exact ⟨_,G,_,_,he,⟨rfl,rfl⟩,only,dK AV.int _ fun _=>rfl,.sl hb aj ht hm (Nat.le_trans (Nat.mul_le_mul_right _ hcl) hbb),key⟩
end Go.Ab
