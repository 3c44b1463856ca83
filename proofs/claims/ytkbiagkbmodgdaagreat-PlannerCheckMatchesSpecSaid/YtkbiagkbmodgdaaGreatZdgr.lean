/- Part of a proof. No condition. -/
import Derived.Test.YtkbiagkbmodgdaaGreatZph
import Derived.Test.YtkbiagkbmodgdaaGreatZabn
import Derived.Test.YtkbiagkbmodgdaaGreatZdgx
import Derived.Test.YtkbiagkbmodgdaaGreatZgcb
import Derived.Test.YtkbiagkbmodgdaaGreatZgg
set_option linter.unusedSimpArgs false
set_option linter.unusedVariables false
namespace Go.Proofs.YtkbiagkbmodgdaaGreat
open Go.Ab
open Go
section
set_option maxRecDepth 10000
attribute [local irreducible] PV ff ew AW bm da en Ab.Fin fi gF RV kh Le eV fL ma iG kM dJ dt
set_option maxHeartbeats 2000000
end
section
set_option maxRecDepth 10000
attribute [local irreducible] PV ff ew AW bm da en Ab.Fin fi er gF RV kh Le eV fL ma iG kM dJ dt
set_option maxHeartbeats 2000000
structure xZ (t:Task):Prop where
 f0:0≤t.facts
 f1:t.facts≤24
 init:isSet t.init t.facts=true
 goal:isSet t.goal t.facts=true
 P9:t.ops.length≤40
 ops:∀ o∈t.ops,mj o t.facts=true∧0≤o.cost∧o.cost≤100
variable {o:Op} {n:Int}
theorem CM:EM o n=0↔mj o n=true∧0≤o.cost∧o.cost≤100:=by
 unfold EM;cases h:mj o n
 ·simp
 simp only [qk4,if_false,true_and];split<;>omega
variable {t:Task}
theorem iJ:cK t=(0,0)↔xZ t:=by
 constructor
 ·intro h
  unfold cK at h;split at h
  ·simp at h
  rename_i h1;split at h
  ·simp at h
  rename_i h2;split at h
  ·simp at h
  rename_i h3;split at h
  ·simp at h
  rename_i h4;refine ⟨by omega,by omega,by simpa using h2,by simpa using h3,by omega,fun o ho=>?_⟩;cases hq:bx (CN t.facts t.ops) t.ops.length with
  |none=>
   obtain ⟨k,hk,rfl⟩:=qa9 ho;have:=ik.1 hq k hk;rw [tS hk] at this;split at this
   ·rename_i h5;exact CM.1 h5
   cases this
  |some p=>
   rw [hq] at h;obtain ⟨i,hi,hg⟩:=dh hq;rw [tS hi] at hg;split at hg
   ·cases hg
   rename_i h5;injection hg with hg
   simp only [qf3] at h;rw [← hg] at h;simp only [qg8] at h;exact absurd h.1 h5
 rintro ⟨h0,h1,h2,h3,h4,h5⟩;rw [Te ak h2 h3 ak]
 have:bx (CN t.facts t.ops) t.ops.length=none:=ik.2 fun k hk=>by
  rw [tS hk,if_pos (CM.2 (h5 _ (qa4 hk)))]
 rw [this];rfl
theorem wR (h:cK t≠(0,0)):(cK t).1≠0:=by
 unfold cK at h ⊢;split
 ·simp
 split
 ·simp
 split
 ·simp
 split
 ·simp
 rename_i h1 h2 h3 h4;rw [if_neg h1,if_neg h2,if_neg h3,if_neg h4] at h;cases hq:bx (CN t.facts t.ops) t.ops.length with
 |none=>rw [hq] at h;simp at h
 |some p=>
  obtain ⟨i,hi,hg⟩:=dh hq;rw [tS hi] at hg;split at hg
  ·cases hg
  rename_i h5;injection hg with hg
  subst hg;simpa using h5
theorem Ia (h:mj o n=true):isSet o.pre n=true∧isSet o.add n=true∧isSet o.del n=true∧kx o.add o.del=true:=by
 simpa [mj,and_assoc] using h
theorem Gc:∀ (xs:List Int) (lo n:Int),(∀ x∈xs,lo≤x∧x < n)→xs.Pairwise (· < ·)→lo≤n→(xs.length:Int)≤n - lo
 |[],_,_,_,_,h=>by simp;omega
 |x::r,lo,n,h,hp,hl=>by
  have hx:=h x aC;have ⟨h1,h2⟩:=qk5.1 hp;have:=Gc r (x+1) n (fun y hy=>⟨by have:=h1 y hy;omega,(h y (by simp [hy])).2⟩) h2 ak;simp only [qb8];omega
theorem Ib {xs:List Int} (h:isSet xs n=true) (hn:0≤n):(xs.length:Int)≤n:=by
 have ⟨h1,h2⟩:=ct.1 h;have:=Gc xs 0 n h1 h2 hn;omega
theorem AM (l:List Op) (k i:Nat) (hi:i < 4) (x:AV) (f:Op→Op) (hf:∀ o,v7 (f o)=(v7 o).set i x):(l.flatMap v7).set (k * 4+i) x=(l.modify k f).flatMap v7:=by
 induction l generalizing k with
 |nil=>simp
 |cons w l ih=>
  cases k with
  |zero=>
   simp only [qd5,Nat.zero_mul,ql4,List.modify_zero_cons];rw [List.set_append_left _ _ aO,hf]
  |succ k=>
   have:=ih k;simp only [qd5,List.modify_succ_cons];rw [List.set_append_right _ _ aO,← this];congr 2;simp;omega
def Ri (l:List Op) (k:Nat) (xs:List Int):List Op:=l.modify k fun o=>{o with add:=xs}
def Rj (l:List Op) (k:Nat) (xs:List Int):List Op:=l.modify k fun o=>{o with del:=xs}
def NS (l:List Op) (k:Nat) (c:Int):List Op:=l.modify k fun o=>{o with cost:=c}
@[go_sem] theorem UN (l:List Op) (k:Nat) (xs:List Int):(l.flatMap v7).set (k * 4+1) (.cD 1 8 (xs.map AV.int))=(Ri l k xs).flatMap v7:=AM l k 1 ak _ _ fun _=>rfl
@[go_sem] theorem UO (l:List Op) (k:Nat) (xs:List Int):(l.flatMap v7).set (k * 4+2) (.cD 1 8 (xs.map AV.int))=(Rj l k xs).flatMap v7:=AM l k 2 ak _ _ fun _=>rfl
@[go_sem] theorem UP (l:List Op) (k:Nat) (c:Int):(l.flatMap v7).set (k * 4+3) (.int c)=(NS l k c).flatMap v7:=AM l k 3 ak _ _ fun _=>rfl
end
section
theorem x5:∀ {a b:List Int},a.Pairwise (· < ·)→b.Pairwise (· < ·)→(∀ p,p∈a↔p∈b)→a=b
 |[],[],_,_,_=>rfl
 |[],y::b,_,_,h=>by have:=(h y).2 aC;simp at this
 |x::a,[],_,_,h=>by have:=(h x).1 aC;simp at this
 |x::a,y::b,ha,hb,h=>by
  have hxa:=qk5.1 ha;have hyb:=qk5.1 hb;have hxy:x=y:=by
   have h1:x∈y::b:=(h x).1 aC;have h2:y∈x::a:=(h y).2 aC;rw [qc2] at h1 h2;rcases h1 with h1|h1
   ·exact h1
   rcases h2 with h2|h2
   ·exact h2.symm
   have:=hyb.1 _ h1;have:=hxa.1 _ h2;omega
  subst hxy;rw [x5 hxa.2 hyb.2 fun p=>?_];have hp:=h p;rw [qc2,qc2] at hp;constructor
  ·intro h1
   rcases hp.1 (.inr h1) with h2|h2
   ·have:=hxa.1 _ h1;omega
   exact h2
  intro h1;rcases hp.2 (.inr h1) with h2|h2
  ·have:=hyb.1 _ h1;omega
  exact h2
variable {a b:List Int} {n:Int}
theorem NT (ha:isSet a n=true) (hb:isSet b n=true) (h:∀ p,p∈a↔p∈b):a=b:=x5 (ct.1 ha).2 (ct.1 hb).2 h
def sK (n:Nat):List Int:=(List.range n).map fun (k:Nat)=>(k:Int)
variable {p:Int}
theorem tT {n:Nat}:p∈sK n↔0≤p∧p < n:=by
 simp only [sK,qe7,qh2];constructor
 ·rintro ⟨k,hk,rfl⟩;omega
 rintro ⟨h1,h2⟩;exact ⟨p.toNat,by omega,by omega⟩
theorem u9 (n:Nat):sK (n+1)=sK n++[(n:Int)]:=by simp [sK,List.range_succ]
theorem v8:∀ n:Nat,(sK n).Pairwise (· < ·)
 |0=>by simp [sK]
 |n+1=>by
  rw [u9,List.pairwise_append];refine ⟨v8 n,by simp,fun a ha b hb=>?_⟩;have:=(tT.1 ha).2;simp only [qd7] at hb;omega
theorem x6 {n:Nat} (f:Int→Bool):isSet ((sK n).filter f) n=true:=by
 rw [ct];refine ⟨fun x hx=>?_,(v8 n).filter _⟩;have:=tT.1 (qh1.1 hx).1;omega
def CO (o:Op) (s:List Int) (p:Int):Bool:=hasB o.add p|| (hasB s p&&!hasB o.del p)
def rL (o:Op) (s:List Int) (k:Nat):List Int:=(sK k).filter (CO o s)
def bF (n:Int) (s:List Int) (o:Op):List Int:=rL o s n.toNat
theorem Ic (o:Op) (s:List Int):rL o s 0=[]:=by simp [rL,sK]
variable {o:Op} {s:List Int} {k:Nat}
theorem Kl (h:CO o s k=true):rL o s (k+1)=rL o s k++[(k:Int)]:=by
 rw [rL,u9,qh6,List.filter_cons_of_pos h];rfl
theorem NU (h:CO o s k=false):rL o s (k+1)=rL o s k:=by
 rw [rL,u9,qh6,List.filter_cons_of_neg (by simp [h])];simp [rL]
theorem pN:p∈bF n s o↔(0≤p∧p < n)∧(p∈o.add∨p∈s∧¬p∈o.del):=by
 unfold bF rL;rw [qh1,tT];simp only [CO,qe0,qa1,qb7,ev,ky];constructor
 ·rintro ⟨h1,h2⟩;exact ⟨by omega,h2⟩
 rintro ⟨h1,h2⟩;exact ⟨by omega,h2⟩
theorem rq (hn:0≤n) (s:List Int) (o:Op):isSet (bF n s o) n=true:=by
 have:=x6 (n:=n.toNat) (CO o s);rw [qg3 hn] at this;exact this
def dm:List Int→Nat
 |[]=>0
 |x::r=>2 ^ x.toNat+dm r
theorem tU {m:Nat}:∀ {l:List Int},(∀ x∈l,(m:Int)≤x)→2 ^ m∣ dm l
 |[],_=>⟨0,rfl⟩
 |x::r,h=>by
  refine Nat.dvd_add (Nat.pow_dvd_pow 2 ?_) (tU fun y hy=>h y (by simp [hy]));have:=h x aC;omega
variable {x:Int}
theorem CP {r:List Int}:0 < dm (x::r):=by
 have:0 < 2 ^ x.toNat:=Nat.pow_pos ak
 rw [dm];omega
theorem Gd (hx:0≤x) (ha:∀ y∈a,x < y) (hb:∀ y∈b,x < y):dm (x::a)≠dm b:=by
 intro h;obtain ⟨q,hq⟩:=tU (m:=x.toNat+1) (l:=a) fun y hy=>by have:=ha y hy;omega
 obtain ⟨q',hq'⟩:=tU (m:=x.toNat+1) (l:=b) fun y hy=>by have:=hb y hy;omega
 rw [dm,hq,hq',Nat.pow_succ] at h;have h2:2 ^ x.toNat * (1+2 * q)=2 ^ x.toNat * (2 * q'):=by rw [Nat.mul_add,Nat.mul_one,← Nat.mul_assoc,← Nat.mul_assoc];exact h
 have:=Nat.eq_of_mul_eq_mul_left (Nat.pow_pos ak) h2;omega
theorem CQ:∀ {a b:List Int},a.Pairwise (· < ·)→b.Pairwise (· < ·)→(∀ x∈a,0≤x)→(∀ x∈b,0≤x)→dm a=dm b→a=b
 |[],[],_,_,_,_,_=>rfl
 |[],y::b,_,_,_,_,h=>by have:=CP (x:=y) (r:=b);rw [← h] at this;simp [dm] at this
 |x::a,[],_,_,_,_,h=>by have:=CP (x:=x) (r:=a);rw [h] at this;simp [dm] at this
 |x::a,y::b,ha,hb,pa,pb,h=>by
  have hxa:=qk5.1 ha;have hyb:=qk5.1 hb;have hx:=pa x aC;have hy:=pb y aC;rcases Int.lt_trichotomy x y with hlt|rfl|hlt
  ·refine absurd h (Gd hx hxa.1 fun z hz=>?_)
   rw [qc2] at hz;rcases hz with rfl|hz
   ·exact hlt
   have:=hyb.1 z hz;omega
  ·rw [dm,dm] at h
   rw [CQ hxa.2 hyb.2 (fun z hz=>pa z (by simp [hz])) (fun z hz=>pb z (by simp [hz])) ak]
  refine absurd h.symm (Gd hy hyb.1 fun z hz=>?_);rw [qc2] at hz;rcases hz with rfl|hz
  ·exact hlt
  have:=hxa.1 z hz;omega
theorem Ge (ha:isSet a n=true) (hb:isSet b n=true) (h:dm a=dm b):a=b:=by
 have ha:=ct.1 ha;have hb:=ct.1 hb;exact CQ ha.2 hb.2 (fun x hx=>(ha.1 x hx).1) (fun x hx=>(hb.1 x hx).1) h
theorem tV:∀ (a b:List Int),dm (a++b)=dm a+dm b
 |[],b=>by simp [dm]
 |x::a,b=>by rw [qi8,dm,dm,tV a b];omega
theorem Gg {n:Nat}:∀ {l:List Int},l.Pairwise (· < ·)→(∀ x∈l,0≤x∧x < n)→dm l < 2 ^ n:=by
 induction n with
 |zero=>
  intro l _ h;cases l with
  |nil=>simp [dm]
  |cons x r=>have:=h x aC;omega
 |succ n ih=>
  intro l hs h;rcases List.eq_nil_or_concat l with rfl|⟨r,x,rfl⟩
  ·simp only [dm];exact Nat.pow_pos ak
  rw [List.concat_eq_append] at *;rw [List.pairwise_append] at hs;have hx:=h x aC;have h1:dm r < 2 ^ n:=ih hs.1 fun y hy=>by
   have h1:=hs.2.2 y hy x aC;have:=h y (by simp [hy]);omega
  have h2:2 ^ x.toNat≤2 ^ n:=qk7 ak ak;rw [tV,dm,dm,Nat.pow_succ];omega
def iz (t:Task):List Int→List Nat→Option (List Int)
 |s,[]=>some s
 |s,i::r=>match t.ops[i]? with
  |some o=>if dX o.pre s then iz t (bF t.facts s o) r else none
  |none=>none
def ft (t:Task):List Nat→Int
 |[]=>0
 |i::r=>(match t.ops[i]? with|some o=>o.cost|none=>0)+ft t r
variable {t:Task}
theorem oJ {e:List Int} {i:Nat} {r:List Nat}:iz t s (i::r)=some e↔∃ o,t.ops[i]?=some o∧dX o.pre s=true∧iz t (bF t.facts s o) r=some e:=by
 rw [iz];cases h:t.ops[i]? with
 |none=>simp
 |some o=>
  simp only [qd9,exists_eq_left'];split
  ·rename_i h2;simp [h2]
  rename_i h2;simp [h2]
theorem x7 {t:Task} {e:List Int} {b:List Nat}:∀ {a:List Nat} {s:List Int},iz t s (a++b)=some e↔∃ m,iz t s a=some m∧iz t m b=some e
 |[],s=>by simp [iz]
 |i::a,s=>by
  rw [qi8,oJ];constructor
  ·rintro ⟨o,h1,h2,h3⟩
   obtain ⟨m,h4,h5⟩:=x7.1 h3;exact ⟨m,oJ.2 ⟨o,h1,h2,h4⟩,h5⟩
  rintro ⟨m,h4,h5⟩;obtain ⟨o,h1,h2,h3⟩:=oJ.1 h4;exact ⟨o,h1,h2,x7.2 ⟨m,h3,h5⟩⟩
theorem CR {t:Task} {b:List Nat}:∀ {a:List Nat},ft t (a++b)=ft t a+ft t b
 |[]=>by simp [ft]
 |i::a=>by rw [qi8,ft,ft,CR];omega
def vc (t:Task) (s x:List Int):Prop:=∃ plan,iz t s plan=some x
theorem vc.step {x:List Int} (h:vc t s x) (ho:o∈t.ops) (hp:dX o.pre x=true):vc t s (bF t.facts x o):=by
 obtain ⟨plan,h⟩:=h;obtain ⟨i,hi,rfl⟩:=qa9 ho;exact ⟨plan++[i],x7.2 ⟨x,h,oJ.2 ⟨_,qa7 hi,hp,rfl⟩⟩⟩
structure Km (t:Task) (s:List Int) (l:List (List Int)):Prop where
 head:l[0]?=some s
 set:∀ x∈l,isSet x t.facts=true
 reach:∀ x∈l,vc t s x
 closed:∀ x∈l,∀ o∈t.ops,dX o.pre x=true→bF t.facts x o∈l
 len:l.length≤2000
theorem Km.all {l:List (List Int)} (h:Km t s l):∀ {plan:List Nat} {x e:List Int},x∈l→iz t x plan=some e→e∈l
 |[],x,e,hx,he=>by simp only [iz,qd9] at he;rw [← he];exact hx
 |i::r,x,e,hx,he=>by
  obtain ⟨o,h1,h2,h3⟩:=oJ.1 he;exact h.all (h.closed x hx o (qg0 h1) h2) h3
variable {xs:List Int}
theorem Ie:x∈nw xs↔x∈xs:=List.mem_mergeSort
theorem tW (xs:List Int):(nw xs).Pairwise (· ≤·):=by
 have:=List.pairwise_mergeSort (le:=fun x y:Int=>decide (x≤y)) (fun a b c h1 h2=>by simp only [decide_eq_true_eq] at *;omega) (fun a b=>by simp only [qe0,decide_eq_true_eq];omega) xs;exact this.imp fun h=>by simpa using h
theorem Rk {zs:List Int} {j:Nat} (h:j < zs.length):zs.toArray[j]! =zs[j]:=by
 rw [getElem!_pos _ j (by simpa using h)];simp
theorem Kn {zs:List Int} (hs:zs.Pairwise (· ≤·)):∀ m,m≤zs.length→
 (Lib.compactUpTo zs.toArray m).Pairwise (· < ·)∧(∀ x,x∈Lib.compactUpTo zs.toArray m↔∃ j,∃ h:j < zs.length,j < m∧zs[j]=x)
 |0,_=>by simp [Lib.compactUpTo]
 |m+1,hm=>by
  obtain ⟨h1,h2⟩:=Kn hs m ak;have hs':=qh9.1 hs;rw [Lib.compactUpTo_succ];have ge:zs.toArray[m]! =zs[m]:=Rk hm;by_cases hk:Lib.keeps zs.toArray m=true
  ·rw [if_pos hk,ge]
   have hgt:∀ j (hj:j < m),zs[j] < zs[m]:=fun j hj=>by
    have h3:zs[m - 1]≠zs[m]:=fun e=>by
     simp only [Lib.keeps,decide_eq_true_eq] at hk;rcases hk with hk|hk
     ·omega
     rw [ge,Rk (show m - 1 < zs.length by omega)] at hk;exact hk e.symm
    have h4:=hs' (m - 1) m ak ak ak;rcases qc4 j (m - 1) with h5|h5
    ·have:=hs' j (m - 1) ak ak h5;omega
    obtain rfl:j=m - 1:=by omega
    omega
   refine ⟨?_,fun x=>?_⟩
   ·rw [List.pairwise_append]
    refine ⟨h1,by simp,fun a ha b hb=>?_⟩;rw [qd7.1 hb];obtain ⟨j,hj,hjm,rfl⟩:=(h2 a).1 ha;exact hgt j hjm
   rw [qe4,h2,qd7];constructor
   ·rintro (⟨j,hj,hjm,rfl⟩|rfl)
    ·exact ⟨j,hj,by omega,rfl⟩
    exact ⟨m,hm,by omega,rfl⟩
   rintro ⟨j,hj,hjm,rfl⟩;rcases qc4 j m with h5|h5
   ·exact .inl ⟨j,hj,h5,rfl⟩
   obtain rfl:j=m:=by omega
   exact .inr rfl
  have hk':Lib.keeps zs.toArray m=false:=by simpa using hk
  rw [if_neg hk,qe5];refine ⟨h1,fun x=>?_⟩;rw [h2];simp only [Lib.keeps,decide_eq_false_iff_not,not_or,qg1] at hk';rw [ge,Rk (show m - 1 < zs.length by omega)] at hk';constructor
  ·rintro ⟨j,hj,hjm,rfl⟩
   exact ⟨j,hj,by omega,rfl⟩
  rintro ⟨j,hj,hjm,rfl⟩;rcases qc4 j m with h5|h5
  ·exact ⟨j,hj,h5,rfl⟩
  obtain rfl:j=m:=by omega
  exact ⟨j - 1,by omega,by omega,hk'.2.symm⟩
def Ko (xs:List Int):List Int:=Lib.compact (nw xs)
theorem CS (xs:List Int):(Ko xs).Pairwise (· < ·):=(Kn (tW xs) _ (qb3 _)).1
theorem Kp:x∈Ko xs↔x∈xs:=by
 unfold Ko Lib.compact;rw [(Kn (tW xs) _ (qb3 _)).2 x,← Ie,qj6];constructor
 ·rintro ⟨j,hj,_,rfl⟩;exact ⟨j,hj,rfl⟩
 rintro ⟨j,hj,rfl⟩;exact ⟨j,hj,hj,rfl⟩
def oK (s add del:List Int):List Int:=Ko ((s.filter fun x=>!hasB del x)++add)
variable {add del:List Int}
theorem il:x∈oK s add del↔(x∈s∧¬x∈del)∨x∈add:=by
 unfold oK;rw [Kp,qe4,qh1];simp [hasB]
theorem oL (hs:isSet s n=true) (ha:isSet add n=true):isSet (oK s add del) n=true:=by
 rw [ct] at hs ha ⊢;refine ⟨fun x hx=>?_,CS _⟩;rcases il.1 hx with h|h
 ·exact hs.1 x h.1
 exact ha.1 x h
theorem Kq (h0:0≤n) (hs:isSet s n=true) (ha:isSet o.add n=true):oK s o.add o.del=bF n s o:=by
 refine NT (oL hs ha) (rq h0 s o) fun p=>?_;rw [il,pN];constructor
 ·rintro (⟨h1,h2⟩|h1)
  ·exact ⟨(ct.1 hs).1 p h1,.inr ⟨h1,h2⟩⟩
  exact ⟨(ct.1 ha).1 p h1,.inl h1⟩
 rintro ⟨_,h1|⟨h1,h2⟩⟩
 ·exact .inr h1
 exact .inl ⟨h1,h2⟩
end
section
set_option maxRecDepth 10000
set_option maxHeartbeats 4000000
theorem nA {n:Nat} {xs:List Int} (h:isSet xs n=true):xs.length≤n:=by
 obtain ⟨h1,h2⟩:=ct.1 h;have key:∀ i (hi:i < xs.length),(i:Int)≤xs[i]:=fun i=>by
  induction i with
  |zero=>intro hi;have:=(h1 _ (qa4 hi)).1;omega
  |succ i ih=>
   intro hi;have:=ih ak;have:=(qh9.1 h2) i (i+1) ak hi ak;omega
 by_cases h0:xs.length=0
 ·omega
 have:=key (xs.length - 1) ak;have:=(h1 _ (qa4 (by omega:xs.length - 1 < xs.length))).2;omega
structure Gh (L:Int) (c:SSet):Prop where
 n:isSet c.eM L=true
 o:isSet c.no L=true
variable {L:Int} {c:SSet}
theorem Gh.T7 (h0L:0≤L) (hL:L≤24) (h:Gh L c):Sg L c:=by
 obtain ⟨m,rfl⟩:∃ m:Nat,L=m:=⟨L.toNat,by omega⟩
 exact ⟨(ct.1 h.n).1,(ct.1 h.o).1,by have:=nA h.n;omega,by have:=nA h.o;omega⟩
def kz (c:SSet) (o:Op):Option SSet:=if kx o.pre c.no=false then none else some ⟨oK (oK c.eM o.pre []) o.add o.del,oK c.no o.del o.add⟩
variable {o:Op}
theorem CT {nx:SSet} (h:Gh L c) (ho:mj o L=true) (he:kz c o=some nx):Gh L nx:=by
 unfold kz at he;unfold mj at ho;simp only [qa1] at ho;split at he
 ·cases he
 injection he with he
 subst he;exact ⟨oL (oL h.n ho.1.1.1) ho.1.1.2,oL h.o ho.1.2⟩
def vS (s:List Int):Int→Bool:=fun p=>hasB s p
theorem Kr {n:Int} {s:List Int} (hs:isSet s n=true) (ho:mj o n=true) (hc:kB c (vS s)) (hp:dX o.pre s=true):∃ nx,kz c o=some nx∧kB nx (vS (bF n s o)):=by
 unfold mj at ho;simp only [qa1] at ho;obtain ⟨⟨⟨o1,o2⟩,o3⟩,o4⟩:=ho;have hd:=im.1 o4;have iE:=lC.1 hp;obtain ⟨c1,c2⟩:=hc;have c1:∀ p∈c.eM,p∈s:=fun p hp=>(ev _ _).mp (c1 p hp);have c2:∀ p∈c.no,¬p∈s:=fun p hp=>(ky _ _).mp (c2 p hp);have rs:=(ct.1 hs).1;have ra:=(ct.1 o2).1;refine ⟨_,by rw [kz,if_neg];simp only [Bool.not_eq_false,im];exact fun x hx hn=>c2 x hn (iE x hx),fun p hp=>?_,fun p hp=>?_⟩
 ·unfold vS
  rw [ev,pN];rcases il.1 hp with ⟨h1,h2⟩|h1
  ·have h3:p∈s:=by
    rcases il.1 h1 with ⟨h4,_⟩|h4
    ·exact c1 p h4
    exact iE p h4
   exact ⟨rs p h3,.inr ⟨h3,h2⟩⟩
  exact ⟨ra p h1,.inl h1⟩
 unfold vS;rw [ky,pN];rintro ⟨_,h3⟩;rcases il.1 hp with ⟨h1,h2⟩|h1
 ·rcases h3 with h3|h3
  ·exact h2 h3
  exact c2 p h1 h3.1
 rcases h3 with h3|h3
 ·exact hd p h3 h1
 exact h3.2 h1
def ve (L all:Int) (c:SSet):List Op→fp→fp×Bool
 |[],S=>(S,true)
 |o::r,S=>match kz c o with
  |none=>ve L all c r S
  |some nx=>if (x8 L all nx S).2=true then ve L all c r (x8 L all nx S).1 else ((x8 L all nx S).1,false)
def r8 (L all:Int) (goal:List Int) (ops:List Op):List SSet→fp→fp×Bool
 |[],S=>(S,true)
 |c::r,S=>if kx goal c.no=true then (S,false) else
  if (ve L all c ops S).2=true then r8 L all goal ops r (ve L all c ops S).1 else ((ve L all c ops S).1,false)
def T8:Nat:=2 * CU+1200
structure Qa (S S':fp) (L:Int) (m:Nat) (b:Bool) (p:Prop):Prop where
 ok:nX L S'
 gr:Grow S S' m
 sm:b=true↔p
def Vu (ns:List I3) (all:Int) (ib:List SSet):Prop:=∀ v,gY ns all v=true↔∃ c∈ib,kB c v
theorem AN {L:Int} (h0L:0≤L) (hL:L≤24) {all:Int} {ib:List SSet} {c:SSet} (hc:Gh L c):∀ (ops:List Op) (S:fp),(∀ o∈ops,mj o L=true)→nX L S→Vd S.ns all→Vu S.ns all ib→
 Qa S (ve L all c ops S).1 L (ops.length * T8) (ve L all c ops S).2 (∀ o∈ops,∀ nx,kz c o=some nx→∀ v,kB nx v→∃ d∈ib,kB d v)
 |[],S,_,h,_,_=>⟨h,.refl _ _,fun _ o ho=>(by cases ho),fun _=>rfl⟩
 |o::r,S,hop,h,hv,ha=>by
  unfold ve;split
  ·rename_i hi
   have r1:=AN h0L hL hc r S (fun o ho=>hop o (by simp [ho])) h hv ha;refine ⟨r1.ok,r1.gr.le (by rw [qb8,qi9];omega),fun hb q hq nx hx=>?_,fun hp=>r1.sm.2 fun q hq=>hp q (qk8 _ hq)⟩;rcases qc2.1 hq with rfl|hq
   ·rw [hi] at hx;cases hx
   exact r1.sm.1 hb q hq nx hx
  rename_i nx hi;have hn:=CT hc (hop o aC) hi;have r2:=Gi h0L hL (hn.T7 h0L hL) h hv;generalize x8 L all nx S=x at *;split
  ·rename_i hb
   have r1:=AN h0L hL hc r x.1 (fun o ho=>hop o (by simp [ho])) r2.ok (r2.gr.vd hv) (fun v=>by rw [r2.gr.gY hv];exact ha v);refine ⟨r1.ok,(r2.gr.trans r1.gr).le (by rw [qb8,qi9 r.length];have hG:T8=2 * CU+1200:=rfl;omega),fun hb2 q hq nx' hx=>?_,fun hp=>r1.sm.2 fun q hq=>hp q (qk8 _ hq)⟩;rcases qc2.1 hq with rfl|hq
   ·rw [hi] at hx
    injection hx with hx
    subst hx;exact fun v hv'=>(ha v).1 (r2.sm.1 hb v hv')
   exact r1.sm.1 hb2 q hq nx' hx
  rename_i hb;exact ⟨r2.ok,r2.gr.le (by rw [qb8,qi9 r.length];have hG:T8=2 * CU+1200:=rfl;omega),fun hb=>(by cases hb),fun hp=>absurd (r2.sm.2 fun v hv'=>(ha v).2 (hp o aC nx hi v hv')) hb⟩
structure Closed (L:Int) (goal:List Int) (ops:List Op) (ib:List SSet) (c:SSet):Prop where
 goal:¬kx goal c.no=true
 step:∀ o∈ops,∀ nx,kz c o=some nx→∀ v,kB nx v→∃ d∈ib,kB d v
theorem CV {L:Int} (h0L:0≤L) (hL:L≤24) {all:Int} {ib:List SSet} {goal:List Int} {ops:List Op} (hop:∀ o∈ops,mj o L=true):∀ (l:List SSet) (S:fp),(∀ c∈l,Gh L c)→nX L S→Vd S.ns all→Vu S.ns all ib→
 Qa S (r8 L all goal ops l S).1 L (l.length * (ops.length * T8)) (r8 L all goal ops l S).2 (∀ c∈l,Closed L goal ops ib c)
 |[],S,_,h,_,_=>⟨h,.refl _ _,fun _ o ho=>(by cases ho),fun _=>rfl⟩
 |c::r,S,hl,h,hv,ha=>by
  unfold r8;split
  ·rename_i hg
   exact ⟨h,.refl _ _,fun hb=>(by cases hb),fun hp=>absurd hg (hp c aC).goal⟩
  rename_i hg;have r1:=AN h0L hL (hl c aC) ops S hop h hv ha;generalize ve L all c ops S=x at *;split
  ·rename_i hb
   have r2:=CV h0L hL (goal:=goal) hop r x.1 (fun o ho=>hl o (by simp [ho])) r1.ok (r1.gr.vd hv) (fun v=>by rw [r1.gr.gY hv];exact ha v);refine ⟨r2.ok,(r1.gr.trans r2.gr).le (by rw [qb8,qi9];omega),fun hb2 q hq=>?_,fun hp=>r2.sm.2 fun q hq=>hp q (by simp [hq])⟩;rcases qc2.1 hq with rfl|hq
   ·exact ⟨hg,r1.sm.1 hb⟩
   exact r2.sm.1 hb2 q hq
  rename_i hb;exact ⟨r1.ok,r1.gr.le (by rw [qb8,qi9];omega),fun hb=>(by cases hb),fun hp=>absurd (r1.sm.2 (hp c aC).step) hb⟩
def S0:fp:=⟨[],[],[]⟩
theorem Qb (L:Int):nX L S0:=⟨fun k h2 hk=>by simp [S0] at hk;omega,fun x k h=>by simp [S0,lk] at h,fun x k h=>by simp [S0,lk] at h⟩
def AO (t:Task) (S:fp) (all:Int):fp×Int:=
 let c:=lD (fun i=>hasB t.init i) t.facts.toNat S 1
 gK t.facts 0 c.1 c.2 all
def tX (t:Task) (ib:List SSet):Bool:=
 let x:=x9 t.facts ib S0 0;let z:=AO t x.1 x.2
 if z.2=0 then false else (r8 t.facts x.2 t.goal t.ops ib z.1).2
variable {ib:List SSet}
theorem NV (h0L:0≤L) (hL:L≤24) (hs:∀ c∈ib,Gh L c):
 zC L (ib.length * (CU+1200)) S0 (x9 L ib S0 0) (fun v=>∃ c∈ib,kB c v):=by
 have r:=Gj h0L hL ib S0 0 (fun c hc=>(hs c hc).T7 h0L hL) (Qb L) (v0 _);refine ⟨r.ok,r.gr,r.vd,fun v=>?_⟩;rw [r.sm,(jR _ v).1];simp
variable {t:Task}
theorem Rl (hw:xZ t) {S:fp} (h:nX t.facts S) {all:Int} (hv:Vd S.ns all):nX t.facts (AO t S all).1∧Grow S (AO t S all).1 (24+CU)∧
 ((AO t S all).2≠0↔∃ v,gY S.ns all v=true∧∀ p,0≤p→p < t.facts→v p=vS t.init p):=by
 have h0L:=hw.f0;have hL:=hw.f1;unfold AO;simp only;have r1:=yb (fun i=>hasB t.init i) t.facts.toNat S 1 ak h (v1 _) (by rw [jo _ _ ak];omega);generalize lD (fun i=>hasB t.init i) t.facts.toNat S 1=c at *;have r2:=gk h0L (.inl rfl) t.facts.toNat c.1 c.2 all r1.ok r1.vd (r1.gr.vd hv) (nY h0L r1.ok r1.vd (r1.gr.vd hv));have ez:dE t.facts 0 t.facts.toNat c.1 c.2 all=gK t.facts 0 c.1 c.2 all:=rfl;rw [ez] at r2;generalize gK t.facts 0 c.1 c.2 all=z at r2;have hp:=sL hL;refine ⟨r2.ok,(r1.gr.trans r2.gr).le ak,fun hz=>?_,fun ⟨v,ha,hb⟩ hz=>?_⟩
 ·obtain ⟨v,hv'⟩:=wS r2.ok.no _ z.2 (qb3 _) r2.vd hz
  rw [r2.sm,r1.gr.gY hv] at hv';simp only [zD,if_true,qa1] at hv';refine ⟨v,hv'.2,fun p p0 pL=>?_⟩;have:=((r1.sm v).1 hv'.1).2 p.toNat ak;rw [qg3 p0] at this;exact this
 have h1:=r2.sm v;rw [hz,(jR _ v).1,r1.gr.gY hv,ha,(r1.sm v).2 ⟨(jR _ v).2,fun i hi=>hb i ak ak⟩] at h1;simp [zD] at h1
theorem Gk {v w:Int→Bool} (hc:Gh L c) (he:∀ p,0≤p→p < L→v p=w p) (hi:kB c v):kB c w:=
 ⟨fun p hp=>by have:=(ct.1 hc.n).1 p hp;rw [← he p this.1 this.2];exact hi.1 p hp,fun p hp=>by have:=(ct.1 hc.o).1 p hp;rw [← he p this.1 this.2];exact hi.2 p hp⟩
theorem CW (hw:xZ t) (hs:∀ c∈ib,Gh t.facts c):tX t ib=true↔(∃ c∈ib,kB c (vS t.init))∧∀ c∈ib,Closed t.facts t.goal t.ops ib c:=by
 have h0L:=hw.f0;have hL:=hw.f1;unfold tX;simp only;have r1:=NV h0L hL hs;generalize x9 t.facts ib S0 0=x at *;obtain ⟨i1,i2,i3⟩:=Rl hw r1.ok r1.vd;generalize AO t x.1 x.2=z at *;have hi:z.2≠0↔∃ c∈ib,kB c (vS t.init):=by
  rw [i3];constructor
  ·rintro ⟨v,hv1,hv2⟩
   obtain ⟨c,hc,hcv⟩:=(r1.sm v).1 hv1;exact ⟨c,hc,Gk (hs c hc) hv2 hcv⟩
  exact fun h=>⟨vS t.init,(r1.sm _).2 h,fun _ _ _=>rfl⟩
 split
 ·rename_i hz
  exact ⟨fun h=>(by cases h),fun h=>absurd hz (hi.2 h.1)⟩
 rename_i hz;have r2:=CV h0L hL (goal:=t.goal) (fun o ho=>(hw.ops o ho).1) ib z.1 hs i1 (i2.vd r1.vd) (fun v=>by rw [i2.gY r1.vd];exact r1.sm v);rw [r2.sm];exact ⟨fun h=>⟨hi.1 hz,h⟩,fun h=>h.2⟩
end
end Go.Proofs.YtkbiagkbmodgdaaGreat
