/- Part of a proof: of two right answers both have a plan, at one cost, or none. No condition. -/
import Derived.Test.YtkbiagkbmodgdaaGreatZabn
import Derived.Test.YtkbiagkbmodgdaaGreatZdgw
import Derived.Test.YtkbiagkbmodgdaaGreatZdgz
set_option linter.unusedSimpArgs false
set_option linter.unusedVariables false
namespace Go.Proofs.YtkbiagkbmodgdaaGreat
open Go.Ab
open Go
set_option maxRecDepth 10000
attribute [local irreducible] PV eR ef AW bg dn ec Ab.Fin ft gI RV jX Le eI fM mg gV kf dz dg
set_option maxHeartbeats 2000000
end Go.Proofs.YtkbiagkbmodgdaaGreat
namespace Go.Proofs.YtkbiagkbmodgdaaGreat
open Go.Ab
open Go
set_option maxRecDepth 10000
attribute [local irreducible] PV eR ef AW bg dn ec Ab.Fin ft en gI RV jX Le eI fM mg gV kf dz dg
set_option maxHeartbeats 2000000
structure xY (t:Task):Prop where
 f0:0≤t.facts
 f1:t.facts≤24
 init:isSet t.init t.facts=true
 goal:isSet t.goal t.facts=true
 n40:t.ops.length≤40
 ops:∀ o∈t.ops,l9 o t.facts=true∧0≤o.cost∧o.cost≤100
theorem zL {o:Op} {n:Int}:BA o n=0↔l9 o n=true∧0≤o.cost∧o.cost≤100:=by
 unfold BA
 cases h:l9 o n
 ·simp
 ·simp only [Bool.true_eq_false,if_false,true_and]
  split<;>omega
theorem ru {t:Task}:cW t=(0,0)↔xY t:=by
 constructor
 ·intro h
  unfold cW at h
  split at h
  ·simp at h
  ·rename_i h1
   split at h
   ·simp at h
   ·rename_i h2
    split at h
    ·simp at h
    ·rename_i h3
     split at h
     ·simp at h
     ·rename_i h4
      refine ⟨by omega,by omega,by simpa using h2,by simpa using h3,by omega,fun o ho=>?_⟩
      cases hq:bD (zM t.facts t.ops) t.ops.length with
      |none=>
       obtain ⟨k,hk,rfl⟩:=List.getElem_of_mem ho
       have:=jm.1 hq k hk
       rw [rv hk] at this
       split at this
       ·rename_i h5;exact zL.1 h5
       ·cases this
      |some p=>
       rw [hq] at h
       obtain ⟨i,hi,hg⟩:=dN hq
       rw [rv hi] at hg
       split at hg
       ·cases hg
       ·rename_i h5
        injection hg with hg
        simp only [Option.getD_some] at h
        rw [← hg] at h
        simp only [Prod.mk.injEq] at h
        exact absurd h.1 h5
 ·rintro ⟨h0,h1,h2,h3,h4,h5⟩
  rw [NQ aj h2 h3 aj]
  have:bD (zM t.facts t.ops) t.ops.length=none:=jm.2 fun k hk=>by
   rw [rv hk,if_pos (zL.2 (h5 _ (List.getElem_mem hk)))]
  rw [this];rfl
theorem tV {t:Task} (h:cW t≠(0,0)):(cW t).1≠0:=by
 unfold cW at h ⊢
 split
 ·simp
 ·split
  ·simp
  ·split
   ·simp
   ·split
    ·simp
    ·rename_i h1 h2 h3 h4
     rw [if_neg h1,if_neg h2,if_neg h3,if_neg h4] at h
     cases hq:bD (zM t.facts t.ops) t.ops.length with
     |none=>rw [hq] at h;simp at h
     |some p=>
      obtain ⟨i,hi,hg⟩:=dN hq
      rw [rv hi] at hg
      split at hg
      ·cases hg
      ·rename_i h5
       injection hg with hg
       subst hg
       simpa using h5
theorem Ey {o:Op} {n:Int} (h:l9 o n=true):isSet o.pre n=true∧isSet o.add n=true∧isSet o.del n=true∧qk o.add o.del=true:=by
 simpa [l9,and_assoc] using h
theorem CP:∀ (xs:List Int) (lo n:Int),(∀ x∈xs,lo≤x∧x < n)→xs.Pairwise (· < ·)→lo≤n→(xs.length:Int)≤n - lo
 |[],_,_,_,_,h=>by simp;omega
 |x::r,lo,n,h,hp,hl=>by
  have hx:=h x ax
  have ⟨h1,h2⟩:=List.pairwise_cons.1 hp
  have:=CP r (x+1) n (fun y hy=>⟨by have:=h1 y hy;omega,(h y (by simp [hy])).2⟩) h2 aj
  simp only [List.length_cons];omega
theorem Ez {xs:List Int} {n:Int} (h:isSet xs n=true) (hn:0≤n):(xs.length:Int)≤n:=by
 have ⟨h1,h2⟩:=cG.1 h
 have:=CP xs 0 n h1 h2 hn
 omega
theorem xZ (l:List Op) (k i:Nat) (hi:i < 4) (x:AV) (f:Op→Op) (hf:∀ o,tD (f o)=(tD o).set i x):(l.flatMap tD).set (k * 4+i) x=(l.modify k f).flatMap tD:=by
 induction l generalizing k with
 |nil=>simp
 |cons w l ih=>
  cases k with
  |zero=>
   simp only [List.flatMap_cons,Nat.zero_mul,Nat.zero_add,List.modify_zero_cons]
   rw [List.set_append_left _ _ aE,hf]
  |succ k=>
   have:=ih k
   simp only [List.flatMap_cons,List.modify_succ_cons]
   rw [List.set_append_right _ _ aE,← this]
   congr 2
   simp;omega
def L2 (l:List Op) (k:Nat) (xs:List Int):List Op:=l.modify k fun o=>{o with add:=xs}
def L3 (l:List Op) (k:Nat) (xs:List Int):List Op:=l.modify k fun o=>{o with del:=xs}
def Jt (l:List Op) (k:Nat) (c:Int):List Op:=l.modify k fun o=>{o with cost:=c}
@[go_sem] theorem Ph (l:List Op) (k:Nat) (xs:List Int):(l.flatMap tD).set (k * 4+1) (.cr 1 8 (xs.map AV.int))=(L2 l k xs).flatMap tD:=xZ l k 1 aj _ _ fun _=>rfl
@[go_sem] theorem Pj (l:List Op) (k:Nat) (xs:List Int):(l.flatMap tD).set (k * 4+2) (.cr 1 8 (xs.map AV.int))=(L3 l k xs).flatMap tD:=xZ l k 2 aj _ _ fun _=>rfl
@[go_sem] theorem Pk (l:List Op) (k:Nat) (c:Int):(l.flatMap tD).set (k * 4+3) (.int c)=(Jt l k c).flatMap tD:=xZ l k 3 aj _ _ fun _=>rfl
end Go.Proofs.YtkbiagkbmodgdaaGreat
namespace Go.Proofs.YtkbiagkbmodgdaaGreat
open Go.Ab
open Go
theorem uZ:∀ {a b:List Int},a.Pairwise (· < ·)→b.Pairwise (· < ·)→(∀ p,p∈a↔p∈b)→a=b
 |[],[],_,_,_=>rfl
 |[],y::b,_,_,h=>by have:=(h y).2 ax;simp at this
 |x::a,[],_,_,h=>by have:=(h x).1 ax;simp at this
 |x::a,y::b,ha,hb,h=>by
  have hxa:=List.pairwise_cons.1 ha
  have hyb:=List.pairwise_cons.1 hb
  have hxy:x=y:=by
   have h1:x∈y::b:=(h x).1 ax
   have h2:y∈x::a:=(h y).2 ax
   rw [List.mem_cons] at h1 h2
   rcases h1 with h1|h1
   ·exact h1
   ·rcases h2 with h2|h2
    ·exact h2.symm
    ·have:=hyb.1 _ h1;have:=hxa.1 _ h2;omega
  subst hxy
  rw [uZ hxa.2 hyb.2 fun p=>?_]
  have hp:=h p
  rw [List.mem_cons,List.mem_cons] at hp
  constructor
  ·intro h1
   rcases hp.1 (.inr h1) with h2|h2
   ·have:=hxa.1 _ h1;omega
   ·exact h2
  ·intro h1
   rcases hp.2 (.inr h1) with h2|h2
   ·have:=hyb.1 _ h1;omega
   ·exact h2
theorem Ju {a b:List Int} {n:Int} (ha:isSet a n=true) (hb:isSet b n=true) (h:∀ p,p∈a↔p∈b):a=b:=uZ (cG.1 ha).2 (cG.1 hb).2 h
def x5 (n:Nat):List Int:=(List.range n).map fun (k:Nat)=>(k:Int)
theorem u4 {n:Nat} {p:Int}:p∈x5 n↔0≤p∧p < n:=by
 simp only [x5,List.mem_map,List.mem_range]
 constructor
 ·rintro ⟨k,hk,rfl⟩;omega
 ·rintro ⟨h1,h2⟩;exact ⟨p.toNat,by omega,by omega⟩
theorem EA (n:Nat):x5 (n+1)=x5 n++[(n:Int)]:=by simp [x5,List.range_succ]
theorem tc:∀ n:Nat,(x5 n).Pairwise (· < ·)
 |0=>by simp [x5]
 |n+1=>by
  rw [EA,List.pairwise_append]
  refine ⟨tc n,by simp,fun a ha b hb=>?_⟩
  have:=(u4.1 ha).2
  simp only [List.mem_singleton] at hb
  omega
theorem BL {n:Nat} (f:Int→Bool):isSet ((x5 n).filter f) n=true:=by
 rw [cG]
 refine ⟨fun x hx=>?_,(tc n).filter _⟩
 have:=u4.1 (List.mem_filter.1 hx).1
 omega
def L4 (o:Op) (s:List Int) (p:Int):Bool:=hasB o.add p|| (hasB s p&&!hasB o.del p)
def NR (o:Op) (s:List Int) (k:Nat):List Int:=(x5 k).filter (L4 o s)
def bC (n:Int) (s:List Int) (o:Op):List Int:=NR o s n.toNat
theorem tW {n:Int} {s:List Int} {o:Op} {p:Int}:p∈bC n s o↔(0≤p∧p < n)∧(p∈o.add∨p∈s∧¬p∈o.del):=by
 unfold bC NR
 rw [List.mem_filter,u4]
 simp only [L4,Bool.or_eq_true,Bool.and_eq_true,Bool.not_eq_true',hZ,nK]
 constructor
 ·rintro ⟨h1,h2⟩;exact ⟨by omega,h2⟩
 ·rintro ⟨h1,h2⟩;exact ⟨by omega,h2⟩
theorem o5 {n:Int} (hn:0≤n) (s:List Int) (o:Op):isSet (bC n s o) n=true:=by
 have:=BL (n:=n.toNat) (L4 o s)
 rw [Int.toNat_of_nonneg hn] at this
 exact this
def cY:List Int→Nat
 |[]=>0
 |x::r=>2 ^ x.toNat+cY r
theorem ry {m:Nat}:∀ {l:List Int},(∀ x∈l,(m:Int)≤x)→2 ^ m∣ cY l
 |[],_=>⟨0,rfl⟩
 |x::r,h=>by
  refine Nat.dvd_add (Nat.pow_dvd_pow 2 ?_) (ry fun y hy=>h y (by simp [hy]))
  have:=h x ax
  omega
theorem zN {x:Int} {r:List Int}:0 < cY (x::r):=by
 have:0 < 2 ^ x.toNat:=Nat.pow_pos aj
 rw [cY];omega
theorem CQ {x:Int} {a b:List Int} (hx:0≤x) (ha:∀ y∈a,x < y) (hb:∀ y∈b,x < y):cY (x::a)≠cY b:=by
 intro h
 obtain ⟨q,hq⟩:=ry (m:=x.toNat+1) (l:=a) fun y hy=>by have:=ha y hy;omega
 obtain ⟨q',hq'⟩:=ry (m:=x.toNat+1) (l:=b) fun y hy=>by have:=hb y hy;omega
 rw [cY,hq,hq',Nat.pow_succ] at h
 have h2:2 ^ x.toNat * (1+2 * q)=2 ^ x.toNat * (2 * q'):=by
  rw [Nat.mul_add,Nat.mul_one,← Nat.mul_assoc,← Nat.mul_assoc];exact h
 have:=Nat.eq_of_mul_eq_mul_left (Nat.pow_pos aj) h2
 omega
theorem zO:∀ {a b:List Int},a.Pairwise (· < ·)→b.Pairwise (· < ·)→(∀ x∈a,0≤x)→(∀ x∈b,0≤x)→cY a=cY b→a=b
 |[],[],_,_,_,_,_=>rfl
 |[],y::b,_,_,_,_,h=>by have:=zN (x:=y) (r:=b);rw [← h] at this;simp [cY] at this
 |x::a,[],_,_,_,_,h=>by have:=zN (x:=x) (r:=a);rw [h] at this;simp [cY] at this
 |x::a,y::b,ha,hb,pa,pb,h=>by
  have hxa:=List.pairwise_cons.1 ha
  have hyb:=List.pairwise_cons.1 hb
  have hx:=pa x ax
  have hy:=pb y ax
  rcases Int.lt_trichotomy x y with hlt|rfl|hlt
  ·refine absurd h (CQ hx hxa.1 fun z hz=>?_)
   rw [List.mem_cons] at hz
   rcases hz with rfl|hz
   ·exact hlt
   ·have:=hyb.1 z hz;omega
  ·rw [cY,cY] at h
   rw [zO hxa.2 hyb.2 (fun z hz=>pa z (by simp [hz])) (fun z hz=>pb z (by simp [hz])) aj]
  ·refine absurd h.symm (CQ hy hyb.1 fun z hz=>?_)
   rw [List.mem_cons] at hz
   rcases hz with rfl|hz
   ·exact hlt
   ·have:=hxa.1 z hz;omega
theorem Jv {a b:List Int} {n:Int} (ha:isSet a n=true) (hb:isSet b n=true) (h:cY a=cY b):a=b:=by
 have ha:=cG.1 ha
 have hb:=cG.1 hb
 exact zO ha.2 hb.2 (fun x hx=>(ha.1 x hx).1) (fun x hx=>(hb.1 x hx).1) h
theorem rz:∀ (a b:List Int),cY (a++b)=cY a+cY b
 |[],b=>by simp [cY]
 |x::a,b=>by rw [List.cons_append,cY,cY,rz a b];omega
theorem CR {n:Nat}:∀ {l:List Int},l.Pairwise (· < ·)→(∀ x∈l,0≤x∧x < n)→cY l < 2 ^ n:=by
 induction n with
 |zero=>
  intro l _ h
  cases l with
  |nil=>simp [cY]
  |cons x r=>have:=h x ax;omega
 |succ n ih=>
  intro l hs h
  rcases List.eq_nil_or_concat l with rfl|⟨r,x,rfl⟩
  ·simp only [cY];exact Nat.pow_pos aj
  ·rw [List.concat_eq_append] at *
   rw [List.pairwise_append] at hs
   have hx:=h x ax
   have h1:cY r < 2 ^ n:=ih hs.1 fun y hy=>by
    have h1:=hs.2.2 y hy x ax
    have:=h y (by simp [hy])
    omega
   have h2:2 ^ x.toNat≤2 ^ n:=Nat.pow_le_pow_right aj aj
   rw [rz,cY,cY,Nat.pow_succ]
   omega
def ix (t:Task):List Int→List Nat→Option (List Int)
 |s,[]=>some s
 |s,i::r=>match t.ops[i]? with
  |some o=>if iG o.pre s then ix t (bC t.facts s o) r else none
  |none=>none
def fA (t:Task):List Nat→Int
 |[]=>0
 |i::r=>(match t.ops[i]? with|some o=>o.cost|none=>0)+fA t r
theorem jI {t:Task} {s e:List Int} {i:Nat} {r:List Nat}:ix t s (i::r)=some e↔∃ o,t.ops[i]?=some o∧iG o.pre s=true∧ix t (bC t.facts s o) r=some e:=by
 rw [ix]
 cases h:t.ops[i]? with
 |none=>simp
 |some o=>
  simp only [Option.some.injEq,exists_eq_left']
  split
  ·rename_i h2;simp [h2]
  ·rename_i h2;simp [h2]
theorem u5 {t:Task} {e:List Int} {b:List Nat}:∀ {a:List Nat} {s:List Int},ix t s (a++b)=some e↔∃ m,ix t s a=some m∧ix t m b=some e
 |[],s=>by simp [ix]
 |i::a,s=>by
  rw [List.cons_append,jI]
  constructor
  ·rintro ⟨o,h1,h2,h3⟩
   obtain ⟨m,h4,h5⟩:=u5.1 h3
   exact ⟨m,jI.2 ⟨o,h1,h2,h4⟩,h5⟩
  ·rintro ⟨m,h4,h5⟩
   obtain ⟨o,h1,h2,h3⟩:=jI.1 h4
   exact ⟨o,h1,h2,u5.2 ⟨m,h3,h5⟩⟩
theorem zP {t:Task} {b:List Nat}:∀ {a:List Nat},fA t (a++b)=fA t a+fA t b
 |[]=>by simp [fA]
 |i::a=>by rw [List.cons_append,fA,fA,zP];omega
def ql (t:Task) (s:List Int) (plan:List Nat):Prop:=∃ e,ix t s plan=some e∧iG t.goal e=true
theorem u6 {t:Task} {s:List Int} {i:Nat} {r:List Nat}:ql t s (i::r)↔∃ o,t.ops[i]?=some o∧iG o.pre s=true∧ql t (bC t.facts s o) r:=by
 constructor
 ·rintro ⟨e,h,hg⟩
  obtain ⟨o,h1,h2,h3⟩:=jI.1 h
  exact ⟨o,h1,h2,e,h3,hg⟩
 ·rintro ⟨o,h1,h2,e,h3,hg⟩
  exact ⟨e,jI.2 ⟨o,h1,h2,h3⟩,hg⟩
def x6 (t:Task) (s x:List Int):Prop:=∃ plan,ix t s plan=some x
theorem x6.step {t:Task} {s x:List Int} (h:x6 t s x) {o:Op} (ho:o∈t.ops) (hp:iG o.pre x=true):x6 t s (bC t.facts x o):=by
 obtain ⟨plan,h⟩:=h
 obtain ⟨i,hi,rfl⟩:=List.getElem_of_mem ho
 exact ⟨plan++[i],u5.2 ⟨x,h,jI.2 ⟨_,List.getElem?_eq_getElem hi,hp,rfl⟩⟩⟩
structure Gy (t:Task) (s:List Int) (l:List (List Int)):Prop where
 head:l[0]?=some s
 set:∀ x∈l,isSet x t.facts=true
 reach:∀ x∈l,x6 t s x
 closed:∀ x∈l,∀ o∈t.ops,iG o.pre x=true→bC t.facts x o∈l
 len:l.length≤2000
theorem Gy.all {t:Task} {s:List Int} {l:List (List Int)} (h:Gy t s l):∀ {plan:List Nat} {x e:List Int},x∈l→ix t x plan=some e→e∈l
 |[],x,e,hx,he=>by simp only [ix,Option.some.injEq] at he;rw [← he];exact hx
 |i::r,x,e,hx,he=>by
  obtain ⟨o,h1,h2,h3⟩:=jI.1 he
  exact h.all (h.closed x hx o (List.mem_of_getElem? h1) h2) h3
theorem EB {xs:List Int} {x:Int}:x∈lJ xs↔x∈xs:=List.mem_mergeSort
theorem rA (xs:List Int):(lJ xs).Pairwise (· ≤·):=by
 have:=List.pairwise_mergeSort (le:=fun x y:Int=>decide (x≤y)) (fun a b c h1 h2=>by simp only [decide_eq_true_eq] at *;omega) (fun a b=>by simp only [Bool.or_eq_true,decide_eq_true_eq];omega) xs
 exact this.imp fun h=>by simpa using h
theorem L5 {zs:List Int} {j:Nat} (h:j < zs.length):zs.toArray[j]! =zs[j]:=by
 rw [getElem!_pos _ j (by simpa using h)];simp
theorem Gz {zs:List Int} (hs:zs.Pairwise (· ≤·)):∀ m,m≤zs.length→
  (Lib.compactUpTo zs.toArray m).Pairwise (· < ·)∧(∀ x,x∈Lib.compactUpTo zs.toArray m↔∃ j,∃ h:j < zs.length,j < m∧zs[j]=x)
 |0,_=>by simp [Lib.compactUpTo]
 |m+1,hm=>by
  obtain ⟨h1,h2⟩:=Gz hs m aj
  have hs':=List.pairwise_iff_getElem.1 hs
  rw [Lib.compactUpTo_succ]
  have ge:zs.toArray[m]! =zs[m]:=L5 hm
  by_cases hk:Lib.keeps zs.toArray m=true
  ·rw [if_pos hk,ge]
   have hgt:∀ j (hj:j < m),zs[j] < zs[m]:=fun j hj=>by
    have h3:zs[m - 1]≠zs[m]:=fun e=>by
     simp only [Lib.keeps,decide_eq_true_eq] at hk
     rcases hk with hk|hk
     ·omega
     ·rw [ge,L5 (show m - 1 < zs.length by omega)] at hk
      exact hk e.symm
    have h4:=hs' (m - 1) m aj aj aj
    rcases Nat.lt_or_ge j (m - 1) with h5|h5
    ·have:=hs' j (m - 1) aj aj h5;omega
    ·obtain rfl:j=m - 1:=by omega
     omega
   refine ⟨?_,fun x=>?_⟩
   ·rw [List.pairwise_append]
    refine ⟨h1,by simp,fun a ha b hb=>?_⟩
    rw [List.mem_singleton.1 hb]
    obtain ⟨j,hj,hjm,rfl⟩:=(h2 a).1 ha
    exact hgt j hjm
   ·rw [List.mem_append,h2,List.mem_singleton]
    constructor
    ·rintro (⟨j,hj,hjm,rfl⟩|rfl)
     ·exact ⟨j,hj,by omega,rfl⟩
     ·exact ⟨m,hm,by omega,rfl⟩
    ·rintro ⟨j,hj,hjm,rfl⟩
     rcases Nat.lt_or_ge j m with h5|h5
     ·exact .inl ⟨j,hj,h5,rfl⟩
     ·obtain rfl:j=m:=by omega
      exact .inr rfl
  ·have hk':Lib.keeps zs.toArray m=false:=by simpa using hk
   rw [if_neg hk,List.append_nil]
   refine ⟨h1,fun x=>?_⟩
   rw [h2]
   simp only [Lib.keeps,decide_eq_false_iff_not,not_or,Decidable.not_not] at hk'
   rw [ge,L5 (show m - 1 < zs.length by omega)] at hk'
   constructor
   ·rintro ⟨j,hj,hjm,rfl⟩
    exact ⟨j,hj,by omega,rfl⟩
   ·rintro ⟨j,hj,hjm,rfl⟩
    rcases Nat.lt_or_ge j m with h5|h5
    ·exact ⟨j,hj,h5,rfl⟩
    ·obtain rfl:j=m:=by omega
     exact ⟨j - 1,by omega,by omega,hk'.2.symm⟩
def GA (xs:List Int):List Int:=Lib.compact (lJ xs)
theorem zQ (xs:List Int):(GA xs).Pairwise (· < ·):=(Gz (rA xs) _ (Nat.le_refl _)).1
theorem GB {xs:List Int} {x:Int}:x∈GA xs↔x∈xs:=by
 unfold GA Lib.compact
 rw [(Gz (rA xs) _ (Nat.le_refl _)).2 x,← EB,List.mem_iff_getElem]
 constructor
 ·rintro ⟨j,hj,_,rfl⟩;exact ⟨j,hj,rfl⟩
 ·rintro ⟨j,hj,rfl⟩;exact ⟨j,hj,hj,rfl⟩
def nX (s add del:List Int):List Int:=GA ((s.filter fun x=>!hasB del x)++add)
theorem oD {s add del:List Int} {x:Int}:x∈nX s add del↔(x∈s∧¬x∈del)∨x∈add:=by
 unfold nX
 rw [GB,List.mem_append,List.mem_filter]
 simp [hasB]
theorem oE {s add del:List Int} {n:Int} (hs:isSet s n=true) (ha:isSet add n=true):isSet (nX s add del) n=true:=by
 rw [cG] at hs ha ⊢
 refine ⟨fun x hx=>?_,zQ _⟩
 rcases oD.1 hx with h|h
 ·exact hs.1 x h.1
 ·exact ha.1 x h
theorem GC {s:List Int} {o:Op} {n:Int} (h0:0≤n) (hs:isSet s n=true) (ha:isSet o.add n=true):nX s o.add o.del=bC n s o:=by
 refine Ju (oE hs ha) (o5 h0 s o) fun p=>?_
 rw [oD,tW]
 constructor
 ·rintro (⟨h1,h2⟩|h1)
  ·exact ⟨(cG.1 hs).1 p h1,.inr ⟨h1,h2⟩⟩
  ·exact ⟨(cG.1 ha).1 p h1,.inl h1⟩
 ·rintro ⟨_,h1|⟨h1,h2⟩⟩
  ·exact .inr h1
  ·exact .inl ⟨h1,h2⟩
end Go.Proofs.YtkbiagkbmodgdaaGreat
namespace Go.Proofs.YtkbiagkbmodgdaaGreat
open Go.Ab
open Go
set_option maxRecDepth 10000
set_option maxHeartbeats 4000000
theorem lN {n:Nat} {xs:List Int} (h:isSet xs n=true):xs.length≤n:=by
 obtain ⟨h1,h2⟩:=cG.1 h
 have key:∀ i (hi:i < xs.length),(i:Int)≤xs[i]:=fun i=>by
  induction i with
  |zero=>intro hi;have:=(h1 _ (List.getElem_mem hi)).1;omega
  |succ i ih=>
   intro hi
   have:=ih aj
   have:=(List.pairwise_iff_getElem.1 h2) i (i+1) aj hi aj
   omega
 by_cases h0:xs.length=0
 ·omega
 ·have:=key (xs.length - 1) aj
  have:=(h1 _ (List.getElem_mem (by omega:xs.length - 1 < xs.length))).2
  omega
structure GD (L:Int) (c:SSet):Prop where
 n:isSet c.ia L=true
 o:isSet c.no L=true
theorem GD.OF {L:Int} (h0L:0≤L) (hL:L≤24) {c:SSet} (h:GD L c):MX L c:=by
 obtain ⟨m,rfl⟩:∃ m:Nat,L=m:=⟨L.toNat,by omega⟩
 exact ⟨(cG.1 h.n).1,(cG.1 h.o).1,by have:=lN h.n;omega,by have:=lN h.o;omega⟩
def jJ (c:SSet) (o:Op):Option SSet:=if qk o.pre c.no=false then none else some ⟨nX (nX c.ia o.pre []) o.add o.del,nX c.no o.del o.add⟩
theorem zR {L:Int} {c nx:SSet} {o:Op} (h:GD L c) (ho:l9 o L=true) (he:jJ c o=some nx):GD L nx:=by
 unfold jJ at he
 unfold l9 at ho
 simp only [Bool.and_eq_true] at ho
 split at he
 ·cases he
 ·injection he with he
  subst he
  exact ⟨oE (oE h.n ho.1.1.1) ho.1.1.2,oE h.o ho.1.2⟩
def vS (s:List Int):Int→Bool:=fun p=>hasB s p
theorem GF {n:Int} {c:SSet} {o:Op} {s:List Int} (hs:isSet s n=true) (ho:l9 o n=true) (hc:j7 c (vS s)) (hp:iG o.pre s=true):∃ nx,jJ c o=some nx∧j7 nx (vS (bC n s o)):=by
 unfold l9 at ho
 simp only [Bool.and_eq_true] at ho
 obtain ⟨⟨⟨o1,o2⟩,o3⟩,o4⟩:=ho
 have hd:=u7.1 o4
 have gi:=u9.1 hp
 obtain ⟨c1,c2⟩:=hc
 have c1:∀ p∈c.ia,p∈s:=fun p hp=>(hZ _ _).mp (c1 p hp)
 have c2:∀ p∈c.no,¬p∈s:=fun p hp=>(nK _ _).mp (c2 p hp)
 have rs:=(cG.1 hs).1
 have ra:=(cG.1 o2).1
 refine ⟨_,by rw [jJ,if_neg];simp only [Bool.not_eq_false,u7];exact fun x hx hn=>c2 x hn (gi x hx),fun p hp=>?_,fun p hp=>?_⟩
 ·unfold vS
  rw [hZ,tW]
  rcases oD.1 hp with ⟨h1,h2⟩|h1
  ·have h3:p∈s:=by
    rcases oD.1 h1 with ⟨h4,_⟩|h4
    ·exact c1 p h4
    ·exact gi p h4
   exact ⟨rs p h3,.inr ⟨h3,h2⟩⟩
  ·exact ⟨ra p h1,.inl h1⟩
 ·unfold vS
  rw [nK,tW]
  rintro ⟨_,h3⟩
  rcases oD.1 hp with ⟨h1,h2⟩|h1
  ·rcases h3 with h3|h3
   ·exact h2 h3
   ·exact c2 p h1 h3.1
  ·rcases h3 with h3|h3
   ·exact hd p h3 h1
   ·exact h3.2 h1
def sF (L all:Int) (c:SSet):List Op→eB→eB×Bool
 |[],S=>(S,true)
 |o::r,S=>match jJ c o with
  |none=>sF L all c r S
  |some nx=>if (vc L all nx S).2=true then sF L all c r (vc L all nx S).1 else ((vc L all nx S).1,false)
def pE (L all:Int) (goal:List Int) (ops:List Op):List SSet→eB→eB×Bool
 |[],S=>(S,true)
 |c::r,S=>if qk goal c.no=true then (S,false) else
  if (sF L all c ops S).2=true then pE L all goal ops r (sF L all c ops S).1 else ((sF L all c ops S).1,false)
def OG:Nat:=2 * zS+1200
structure KU (S S':eB) (L:Int) (m:Nat) (b:Bool) (p:Prop):Prop where
 ok:ma L S'
 gr:Grow S S' m
 sm:b=true→p
def Pl (ns:List I3) (all:Int) (gk:List SSet):Prop:=∀ v,fQ ns all v=true↔∃ c∈gk,j7 c v
theorem x7 {L:Int} (h0L:0≤L) (hL:L≤24) {all:Int} {gk:List SSet} {c:SSet} (hc:GD L c):∀ (ops:List Op) (S:eB),(∀ o∈ops,l9 o L=true)→ma L S→Vd S.ns all→Pl S.ns all gk→
  KU S (sF L all c ops S).1 L (ops.length * OG) (sF L all c ops S).2 (∀ o∈ops,∀ nx,jJ c o=some nx→∀ v,j7 nx v→∃ d∈gk,j7 d v)
 |[],S,_,h,_,_=>⟨h,.refl _ _,fun _ o ho=>by cases ho⟩
 |o::r,S,hop,h,hv,ha=>by
  unfold sF
  split
  ·rename_i hi
   have r1:=x7 h0L hL hc r S (fun o ho=>hop o (by simp [ho])) h hv ha
   refine ⟨r1.ok,r1.gr.le (by rw [List.length_cons,Nat.succ_mul];omega),fun hb q hq nx hx=>?_⟩
   rcases List.mem_cons.1 hq with rfl|hq
   ·rw [hi] at hx;cases hx
   ·exact r1.sm hb q hq nx hx
  ·rename_i nx hi
   have hn:=zR hc (hop o ax) hi
   have r2:=CS h0L hL (hn.OF h0L hL) h hv
   generalize vc L all nx S=x at *
   split
   ·rename_i hb
    have r1:=x7 h0L hL hc r x.1 (fun o ho=>hop o (by simp [ho])) r2.ok (r2.gr.vd hv) (fun v=>by rw [r2.gr.fQ hv];exact ha v)
    refine ⟨r1.ok,(r2.gr.trans r1.gr).le (by rw [List.length_cons,Nat.succ_mul r.length];have hG:OG=2 * zS+1200:=rfl;omega),fun hb2 q hq nx' hx=>?_⟩
    rcases List.mem_cons.1 hq with rfl|hq
    ·rw [hi] at hx
     injection hx with hx
     subst hx
     exact fun v hv'=>(ha v).1 (r2.sm.1 hb v hv')
    ·exact r1.sm hb2 q hq nx' hx
   ·refine ⟨r2.ok,r2.gr.le (by rw [List.length_cons,Nat.succ_mul r.length];have hG:OG=2 * zS+1200:=rfl;omega),fun hb=>by cases hb⟩
structure Closed (L:Int) (goal:List Int) (ops:List Op) (gk:List SSet) (c:SSet):Prop where
 goal:¬qk goal c.no=true
 step:∀ o∈ops,∀ nx,jJ c o=some nx→∀ v,j7 nx v→∃ d∈gk,j7 d v
theorem zT {L:Int} (h0L:0≤L) (hL:L≤24) {all:Int} {gk:List SSet} {goal:List Int} {ops:List Op} (hop:∀ o∈ops,l9 o L=true):∀ (l:List SSet) (S:eB),(∀ c∈l,GD L c)→ma L S→Vd S.ns all→Pl S.ns all gk→
  KU S (pE L all goal ops l S).1 L (l.length * (ops.length * OG)) (pE L all goal ops l S).2 (∀ c∈l,Closed L goal ops gk c)
 |[],S,_,h,_,_=>⟨h,.refl _ _,fun _ o ho=>by cases ho⟩
 |c::r,S,hl,h,hv,ha=>by
  unfold pE
  split
  ·exact ⟨h,.refl _ _,fun hb=>by cases hb⟩
  ·rename_i hg
   have r1:=x7 h0L hL (hl c ax) ops S hop h hv ha
   generalize sF L all c ops S=x at *
   split
   ·rename_i hb
    have r2:=zT h0L hL (goal:=goal) hop r x.1 (fun o ho=>hl o (by simp [ho])) r1.ok (r1.gr.vd hv) (fun v=>by rw [r1.gr.fQ hv];exact ha v)
    refine ⟨r2.ok,(r1.gr.trans r2.gr).le (by rw [List.length_cons,Nat.succ_mul];omega),fun hb2 q hq=>?_⟩
    rcases List.mem_cons.1 hq with rfl|hq
    ·exact ⟨hg,r1.sm hb⟩
    ·exact r2.sm hb2 q hq
   ·exact ⟨r1.ok,r1.gr.le (by rw [List.length_cons,Nat.succ_mul];omega),fun hb=>by cases hb⟩
def S0:eB:=⟨[],[],[]⟩
theorem KV (L:Int):ma L S0:=⟨fun k h2 hk=>by simp [S0] at hk;omega,fun x k h=>by simp [S0,lk] at h,fun x k h=>by simp [S0,lk] at h⟩
def x8 (t:Task) (S:eB) (all:Int):eB×Int:=
 let c:=jU (fun i=>hasB t.init i) t.facts.toNat S 1
 fC t.facts 0 c.1 c.2 all
def td (t:Task) (gk:List SSet):Bool:=
 let x:=ve t.facts gk S0 0
 let z:=x8 t x.1 x.2
 if z.2=0 then false else (pE t.facts x.2 t.goal t.ops gk z.1).2
theorem Jw {L:Int} (h0L:0≤L) (hL:L≤24) {gk:List SSet} (hs:∀ c∈gk,GD L c) :
  wX L (gk.length * (zS+1200)) S0 (ve L gk S0 0) (fun v=>∃ c∈gk,j7 c v):=by
 have r:=CT h0L hL gk S0 0 (fun c hc=>(hs c hc).OF h0L hL) (KV L) (v0 _)
 refine ⟨r.ok,r.gr,r.vd,fun v=>?_⟩
 rw [r.sm,(jK _ v).1]
 simp
theorem L6 {t:Task} (hw:xY t) {S:eB} (h:ma t.facts S) {all:Int} (hv:Vd S.ns all):ma t.facts (x8 t S all).1∧Grow S (x8 t S all).1 (24+zS)∧
  ((x8 t S all).2≠0→∃ v,fQ S.ns all v=true∧∀ p,0≤p→p < t.facts→v p=vS t.init p):=by
 have h0L:=hw.f0
 have hL:=hw.f1
 unfold x8
 simp only
 have r1:=vf (fun i=>hasB t.init i) t.facts.toNat S 1 aj h (v1 _) (by rw [ir _ _ aj];omega)
 generalize jU (fun i=>hasB t.init i) t.facts.toNat S 1=c at *
 have r2:=fe h0L (.inl rfl) t.facts.toNat c.1 c.2 all r1.ok r1.vd (r1.gr.vd hv) (mb h0L r1.ok r1.vd (r1.gr.vd hv))
 have ez:di t.facts 0 t.facts.toNat c.1 c.2 all=fC t.facts 0 c.1 c.2 all:=rfl
 rw [ez] at r2
 generalize fC t.facts 0 c.1 c.2 all=z at r2
 have hp:=qn hL
 refine ⟨r2.ok,(r1.gr.trans r2.gr).le aj,fun hz=>?_⟩
 obtain ⟨v,hv'⟩:=tX r2.ok.no _ z.2 (Nat.le_refl _) r2.vd hz
 rw [r2.sm,r1.gr.fQ hv] at hv'
 simp only [x9,if_true,Bool.and_eq_true] at hv'
 refine ⟨v,hv'.2,fun p p0 pL=>?_⟩
 have:=((r1.sm v).1 hv'.1).2 p.toNat aj
 rw [Int.toNat_of_nonneg p0] at this
 exact this
theorem BM {t:Task} (hw:xY t) {gk:List SSet} (hs:∀ c∈gk,GD t.facts c) (hd:td t gk=true) (plan:List Nat):¬ql t t.init plan:=by
 have h0L:=hw.f0
 have hL:=hw.f1
 unfold td at hd
 simp only at hd
 have r1:=Jw h0L hL hs
 generalize ve t.facts gk S0 0=x at *
 obtain ⟨i1,i2,i3⟩:=L6 hw r1.ok r1.vd
 generalize x8 t x.1 x.2=z at *
 split at hd
 ·cases hd
 ·rename_i hz
  have hv:=i2.vd r1.vd
  have ha:Pl z.1.ns x.2 gk:=fun v=>by rw [i2.fQ r1.vd];exact r1.sm v
  have r2:=zT h0L hL (goal:=t.goal) (fun o ho=>(hw.ops o ho).1) gk z.1 hs i1 hv ha
  have hcl:=r2.sm hd
  obtain ⟨v,hv1,hv2⟩:=i3 hz
  obtain ⟨c,hc,hcv⟩:=(r1.sm v).1 hv1
  have same:∀ {c:SSet} {v w:Int→Bool},GD t.facts c→(∀ p,0≤p→p < t.facts→v p=w p)→j7 c v→j7 c w:=fun {c v w} hc he hi=>
   ⟨fun p hp=>by have:=(cG.1 hc.n).1 p hp;rw [← he p this.1 this.2];exact hi.1 p hp,fun p hp=>by have:=(cG.1 hc.o).1 p hp;rw [← he p this.1 this.2];exact hi.2 p hp⟩
  have key:∀ (plan:List Nat) (s:List Int),isSet s t.facts=true→(∃ c∈gk,j7 c (vS s))→¬ql t s plan:=fun plan=>by
   induction plan with
   |nil=>
    rintro s hs' ⟨c,hc,hi⟩ ⟨e,he,hg⟩
    simp only [ix,Option.some.injEq] at he
    subst he
    refine (hcl c hc).goal (u7.2 fun p hp hn=>?_)
    exact (nK _ _).mp (hi.2 p hn) (u9.1 hg p hp)
   |cons i r ih=>
    rintro s hs' ⟨c,hc,hi⟩ hwk
    obtain ⟨o,ho,hpre,hrest⟩:=u6.1 hwk
    have hmem:=List.mem_of_getElem? ho
    obtain ⟨nx,hx,hin⟩:=GF hs' (hw.ops o hmem).1 hi hpre
    exact ih _ (o5 h0L s o) ((hcl c hc).step o hmem nx hx _ hin) hrest
  exact key plan t.init hw.init ⟨c,hc,same (hs c hc) hv2 hcv⟩
end Go.Proofs.YtkbiagkbmodgdaaGreat
