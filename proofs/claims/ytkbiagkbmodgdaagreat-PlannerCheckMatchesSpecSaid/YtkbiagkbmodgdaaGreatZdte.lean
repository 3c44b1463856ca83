/- Part of a proof. No condition. -/
import Derived.Test.YtkbiagkbmodgdaaGreatZph
import Derived.Test.YtkbiagkbmodgdaaGreatZabn
import Derived.Test.YtkbiagkbmodgdaaGreatZabo
import Derived.Test.YtkbiagkbmodgdaaGreatZgg
import Derived.Test.YtkbiagkbmodgdaaGreatZtab
set_option linter.unusedSimpArgs false
set_option linter.unusedVariables false
namespace Go.Proofs.YtkbiagkbmodgdaaGreat
open Go.Ab
open Go Tryz
set_option maxRecDepth 10000
section
attribute [local irreducible] PV ff ew AW bm da en Ab.Fin fi gF RV kh Le eV fL ma iG kM dJ dt
set_option maxHeartbeats 1000000
abbrev ints (xs:List Int):AV:=.cD 1 8 (xs.map AV.int)
abbrev fault (c i:Int):AV:=.agg [.int c,.int i]
def KD (n a b:Int):Bool:=decide (a≤n)&&decide (n≤b)
theorem KE (n a b:Int):(KD n a b=true)=(a≤n∧n≤b):=by simp [KD]
theorem KF (n a b:Int):(KD n a b=false)=(n < a∨b < n):=by
 apply propext;unfold KD;simp only [qj2,decide_eq_false_iff_not];omega
attribute [go_sem] KE KF
theorem qb (n a b:Int):bm prog 82 [.int n,.int a,.int b] (fun x=>x= .bool (KD n a b)):=by
 refine bc func82 ntmps82 ?_;refine Go (fun hc=>?_) (fun hc=>?_) VX VX
 all_goals (refine VY ?_)
 all_goals (simp [KD];omega)
theorem j3 (c i:Int):bm prog 12 [.int c,.int i] (fun x=>x=fault c i):=by
 refine bc func12 ntmps12 ?_;refine Go ?_ VX VX VX
 all_goals (refine V0 ?_)
 all_goals rfl
variable {α:Type} {k:Nat}
theorem bq [Inhabited α] {l:List α} (h:k < l.length):l[k]! =l[k]:=getElem!_pos l k h
theorem AY (a b:Int):(a == b)=decide (a=b):=by by_cases h:a=b<;>simp [h]
theorem cj {n k:Nat} {P:(i:Nat)→i < n→Prop} (h:∀ i (hi:i < n),i < k→P i hi) (hk:∀ hi,P k hi):∀ i (hi:i < n),i < k+1→P i hi:=by
 intro i hi hik;rcases qc4 i k with h1|h1
 ·exact h i hi h1
 obtain rfl:i=k:=by omega
 exact hk hi
theorem AZ {p:α→Bool} {xs:List α} (hn:∀ i (hi:i < xs.length),i < k→p xs[i]=true) (hk:xs.length≤k):xs.all p=true:=by
 rw [qc8];intro x hx;obtain ⟨i,hi,rfl⟩:=qa9 hx;exact hn i hi ak
theorem A0 {p:α→Bool} {xs:List α} (hk:k < xs.length) (h:p xs[k]=false):xs.all p=false:=by
 rw [List.all_eq_false];exact ⟨_,qa4 hk,by simp [h]⟩
def bx {α:Type} (g:Nat→Option α):Nat→Option α
 |0=>none
 |n+1=>(bx g n).or (g n)
theorem cJ {g:Nat→Option α} (h:bx g k=none) (hk:g k=none):bx g (k+1)=none:=by simp [bx,h,hk]
theorem cp {g:Nat→Option α} {n:Nat} {a:α} (h:bx g k=none) (hk:g k=some a) (hn:k < n):bx g n=some a:=by
 induction n with
 |zero=>omega
 |succ n ih=>
  rcases qc4 k n with h1|h1
  ·simp [bx,ih h1]
  obtain rfl:k=n:=by omega
  simp [bx,h,hk]
theorem ik {α:Type} {g:Nat→Option α}:∀ {n:Nat},bx g n=none↔∀ k,k < n→g k=none
 |0=>by simp [bx]
 |n+1=>by
  simp only [bx,Option.or_eq_none_iff,ik (n:=n)];constructor
  ·rintro ⟨h1,h2⟩ k hk
   rcases qc4 k n with h|h
   ·exact h1 k h
   obtain rfl:k=n:=by omega
   exact h2
  exact fun h=>⟨fun k hk=>h k ak,h n ak⟩
theorem dh {g:Nat→Option α} {n:Nat} {a:α} (h:bx g n=some a):∃ i,i < n∧g i=some a:=by
 induction n with
 |zero=>simp [bx] at h
 |succ n ih=>
  simp only [bx] at h;cases hq:bx g n with
  |none=>rw [hq] at h;exact ⟨n,by omega,by simpa using h⟩
  |some b=>rw [hq] at h;simp at h;subst h;obtain ⟨i,hi,hg⟩:=ih hq;exact ⟨i,by omega,hg⟩
def hasB (xs:List Int) (n:Int):Bool:=decide (n∈xs)
theorem ev (xs:List Int) (n:Int):(hasB xs n=true)=(n∈xs):=by simp [hasB]
theorem ky (xs:List Int) (n:Int):(hasB xs n=false)=(¬n∈xs):=by simp [hasB]
theorem Gn (a b:List Int):bm prog 35 [ints a,ints b] (fun r=>r= .bool (decide (a=b))):=by
 refine bc func35 ntmps35 ?_;(refine bU (i:=0) rfl (fun hb=>?_);(try simp only [qa2] at hb));(refine bU (i:=1) rfl (fun hb1=>?_);(try simp only [qa2] at hb1));refine Go (fun hc K hK=>?_) (fun hc K hK=>?_) VX VX
 ·refine VY ?_
  rw [decide_eq_false (by rintro rfl;omega)]
 refine ba [4,5,11,12,13,14,15,16,17,18,19,20,21,22,23,24,25] (fun k:Nat=>k≤a.length∧a.take k=b.take k) (fun k=>a.length - k) (fun k=>[(5,.int k)]) (fun _=>[]) 0 ⟨by omega,by simp⟩ ?_ ?_
 ·refine bA ?_
  exact aZ
 rintro k ⟨hk,hn⟩ K hK;refine bA ?_;by_cases hlt:k < a.length
 ·have hlb:k < b.length:=by omega
  (repeat' (first|refine gD 6 ?_;refine dK (.r 0 9 .nil) ?_|intro (K:St→Prop) hK|intro hc|(refine Gf 99 ?_ ?_ ?_ ?_<;>try exact VX)|fail))
  ·refine VY ?_
   rw [decide_eq_false];rintro rfl;exact hc rfl
  (refine ⟨k+1,⟨by omega,by rw [qa5 hlt,qa5 hlb,hn,hc]⟩,by omega,?_⟩;(refine bA ?_);(exact aZ))
 refine iy (fun hc K hK=>?_) VX VX VX;refine VY ?_;rw [qe8 ak,qe8 ak] at hn;rw [hn];simp
theorem vk (xs:List Int) (n:Int):bm prog 148 [ints xs,.int n] (fun r=>r= .bool (hasB xs n)):=by
 refine bc func148 ntmps148 ?_;(refine bU (i:=0) rfl (fun hb=>?_);(try simp only [qa2] at hb));refine Go (fun K hK=>?_) VX VX VX;refine ba [4,5,6,7,8,9,10,11,12,13,14,15,16,17] (fun k:Nat=>k≤xs.length∧¬n∈xs.take k) (fun k=>xs.length - k) (fun k=>[(5,.int k)]) (fun _=>[]) 0 ⟨by omega,by simp⟩ ?_ ?_
 ·refine bA ?_
  exact aZ
 rintro k ⟨hk,hn⟩ K hK;refine bA ?_;by_cases hlt:k < xs.length
 ·refine Go (fun _ hc hc K hK=>?_) (fun _ hc hc=>?_) VX VX
  ·refine VY ?_
   have:n∈xs:=by rw [← hc];exact qa4 hlt
   simp [hasB,this]
  have hs:¬n∈xs.take (k+1):=by
   rw [qa5 hlt,qe4,qd7];rintro (h|h)
   ·exact hn h
   exact hc h.symm
  (refine ⟨k+1,⟨by omega,hs⟩,by omega,?_⟩;(refine bA ?_);(exact aZ))
 refine iy (fun hc K hK=>?_) VX VX VX;refine VY ?_;rw [qe8 ak] at hn;simp [hasB,hn]
def dX (a b:List Int):Bool:=a.all (hasB b)
variable {a b:List Int}
theorem lC:dX a b=true↔∀ x∈a,x∈b:=by simp [dX,hasB]
def kx (a b:List Int):Bool:=a.all fun x=>!hasB b x
theorem im:kx a b=true↔∀ x∈a,¬x∈b:=by simp [kx,hasB]
theorem oO (a b:List Int):bm prog 77 [ints a,ints b] (fun r=>r= .bool (dX a b)):=by
 refine bc func77 ntmps77 ?_;(refine bU (i:=0) rfl (fun hb=>?_);(try simp only [qa2] at hb));refine Go (fun K hK=>?_) VX VX VX;refine ba [4,5,6,7,8,9,10,11,12,13,14,15,16,17,18] (fun k:Nat=>k≤a.length∧∀ i (hi:i < a.length),i < k→hasB b a[i]=true) (fun k=>a.length - k) (fun k=>[(5,.int k)]) (fun _=>[]) 0 ⟨by omega,by omega⟩ ?_ ?_
 ·refine bA ?_
  exact aZ
 rintro k ⟨hk,hn⟩ K hK;refine bA ?_;by_cases hlt:k < a.length
 ·(repeat' (first|refine gC 148 ?_;refine bg (vk _ _) ?_|intro (K:St→Prop) hK|intro hc|(refine Gf 99 ?_ ?_ ?_ ?_<;>try exact VX)|fail))
  ·refine VY ?_
   rw [show dX a b=false from A0 hlt hc]
  (refine ⟨k+1,⟨by omega,cj hn fun _=>hc⟩,by omega,?_⟩;(refine bA ?_);(exact aZ))
 refine iy (fun hc K hK=>?_) VX VX VX;refine VY ?_;rw [show dX a b=true from AZ hn ak]
theorem wa (a b:List Int):bm prog 75 [ints a,ints b] (fun r=>r= .bool (kx a b)):=by
 refine bc func75 ntmps75 ?_;(refine bU (i:=0) rfl (fun hb=>?_);(try simp only [qa2] at hb));refine Go (fun K hK=>?_) VX VX VX;refine ba [4,5,6,7,8,9,10,11,12,13,14,15,16,17] (fun k:Nat=>k≤a.length∧∀ i (hi:i < a.length),i < k→(!hasB b a[i])=true) (fun k=>a.length - k) (fun k=>[(5,.int k)]) (fun _=>[]) 0 ⟨by omega,by omega⟩ ?_ ?_
 ·refine bA ?_
  exact aZ
 rintro k ⟨hk,hn⟩ K hK;refine bA ?_;by_cases hlt:k < a.length
 ·(repeat' (first|refine gC 148 ?_;refine bg (vk _ _) ?_|intro (K:St→Prop) hK|intro hc|(refine Gf 99 ?_ ?_ ?_ ?_<;>try exact VX)|fail))
  ·refine VY ?_
   rw [show kx a b=false from A0 (p:=fun x=>!hasB b x) hlt (by simp [hc])]
  (refine ⟨k+1,⟨by omega,cj hn fun _=>by simp [hc]⟩,by omega,?_⟩;(refine bA ?_);(exact aZ))
 refine iy (fun hc K hK=>?_) VX VX VX;refine VY ?_;rw [show kx a b=true from AZ hn ak]
def Ik (xs:List Int) (n:Int) (i:Nat) (hi:i < xs.length):Prop:=0≤xs[i]∧xs[i] < n∧∀ h:0 < i,xs[i-1] < xs[i]
instance (xs:List Int) (n:Int) (i:Nat) (hi:i < xs.length):Decidable (Ik xs n i hi):=inferInstanceAs (Decidable (_∧_∧_))
def isSet (xs:List Int) (n:Int):Bool:=decide (∀ i (hi:i < xs.length),Ik xs n i hi)
variable {xs:List Int} {n:Int}
theorem ct:isSet xs n=true↔(∀ x∈xs,0≤x∧x < n)∧xs.Pairwise (· < ·):=by
 simp only [isSet,decide_eq_true_eq];constructor
 ·intro h
  refine ⟨fun x hx=>?_,?_⟩
  ·obtain ⟨i,hi,rfl⟩:=qa9 hx
   exact ⟨(h i hi).1,(h i hi).2.1⟩
  rw [qh9];intro i j hi hj hij
  induction j with
  |zero=>omega
  |succ j ih=>
   have h1:=(h (j+1) hj).2.2 ak;simp only [Nat.add_sub_cancel] at h1;rcases qc4 i j with h2|h2
   ·have:=ih ak h2;omega
   obtain rfl:i=j:=by omega
   exact h1
 rintro ⟨h1,h2⟩ i hi;have:=h1 _ (qa4 hi);refine ⟨this.1,this.2,fun h=>?_⟩;exact qh9.1 h2 (i - 1) i ak hi ak
theorem zH (hn:∀ i (hi:i < xs.length),i < k→Ik xs n i hi) (hk:xs.length≤k):isSet xs n=true:=by
 simp only [isSet,decide_eq_true_eq];exact fun i hi=>hn i hi ak
theorem uf (hk:k < xs.length) (h:¬Ik xs n k hk):isSet xs n=false:=by
 simp only [isSet,decide_eq_false_iff_not];exact fun h2=>h (h2 k hk)
theorem mQ (xs:List Int) (n:Int):bm prog 129 [ints xs,.int n] (fun r=>r= .bool (isSet xs n)):=by
 refine bc func129 ntmps129 ?_;(refine bU (i:=0) rfl (fun hb=>?_);(try simp only [qa2] at hb));refine Go (fun K hK=>?_) VX VX VX;refine ba [4,5,6,9,10,11,12,13,14,15,16,17,18,19,20,21,22,23,24,25,26,27,28,29,30,31,32,33,34] (fun k:Nat=>k≤xs.length∧∀ i (hi:i < xs.length),i < k→Ik xs n i hi) (fun k=>xs.length - k) (fun k=>[(9,.int k)]) (fun _=>[]) 0 ⟨by omega,by omega⟩ ?_ ?_
 ·refine bA ?_
  exact aZ
 rintro k ⟨hk,hn⟩ K hK;refine bA ?_;by_cases hlt:k < xs.length
 ·have hp1:k - 1 < xs.length:=by omega
  (repeat' (first|refine hK _ ?_;clear hK K|refine bH (fun K hK=>?_)|refine gR ?_;refine bY ?_|refine gE ?_;(first|refine iv ?_|refine nc (fun _=>?_))|refine gG ?_;refine hZ (fun hc=>?_) (fun hc=>?_)<;>(try (first|contradiction|omega))|refine gQ ?_;(first|refine fc ?_|refine ed ?_|refine cZ (fun hc=>?_) (fun hc=>?_)<;>(try (first|contradiction|omega)))|refine bE ?_|refine gT ?_;refine eY ?_|refine gS ?_;refine cS ?_))
  all_goals first
   |((refine VY ?_);rw [uf hlt (fun h=>by have h1:=h.1;have h2:=h.2.1;omega)];done)
   |((refine VY ?_);rw [uf hlt (fun h=>by have h1:=h.2.2 ak;omega)];done)
   |(refine ⟨k+1,⟨by omega,cj hn fun hi=>⟨by omega,by omega,fun h=>by omega⟩⟩,by omega,?_⟩;(refine bA ?_);(exact aZ);done)
 refine iy (fun hc K hK=>?_) VX VX VX;refine VY ?_;rw [zH hn ak]
theorem wb (xs:List Int) (n:Int) (h0:0≤n∧n≤1000):bm prog 74 [ints xs,.int n] (fun r=>r= .bool (isSet xs n)):=by
 refine bc func74 ntmps74 ?_;(refine bU (i:=0) rfl (fun hb=>?_);(try simp only [qa2] at hb));refine Go (fun K hK=>?_) VX VX VX;refine ba [4,5,6,7,8,9,10,11,12,13,14,15,16,17,18,19,20,21,22,23,24,25,26,27,28,29,30,31,32,33,34,35] (fun k:Nat=>k≤xs.length∧∀ i (hi:i < xs.length),i < k→Ik xs n i hi) (fun k=>xs.length - k) (fun k=>[(5,.int k)]) (fun _=>[]) 0 ⟨by omega,by omega⟩ ?_ ?_
 ·refine bA ?_
  exact aZ
 rintro k ⟨hk,hn⟩ K hK;refine bA ?_;by_cases hlt:k < xs.length
 ·have hp1:k - 1 < xs.length:=by omega
  (repeat' (first|refine gD 4 ?_;refine dK (.r 0 6 (.it 6 1 (.r 7 17 .nil))) ?_|refine dH 82 ?_;refine bB (qb _ _ _) ?_|intro (K:St→Prop) hK|intro hc|(refine rh 99 ?_ ?_ ?_ ?_<;>try exact VX)|fail))
  all_goals first
   |((refine VY ?_);rw [uf hlt (fun h=>by have h1:=h.1;have h2:=h.2.1;omega)];done)
   |((refine VY ?_);rw [uf hlt (fun h=>by have h1:=h.2.2 ak;omega)];done)
   |(refine ⟨k+1,⟨by omega,cj hn fun hi=>⟨by omega,by omega,fun h=>by omega⟩⟩,by omega,?_⟩;(refine bA ?_);(exact aZ);done)
 refine iy (fun hc K hK=>?_) VX VX VX;refine VY ?_;rw [zH hn ak]
end
section
attribute [local irreducible] PV ff ew AW bm da en Ab.Fin fi gF RV kh Le eV fL ma iG kM dJ dt
set_option maxHeartbeats 1000000
theorem KG (n:Int):bm prog 214 [.int n] (fun r=>r= .bool false):=by
 refine bc func214 ntmps214 ?_;refine Go ?_ VX VX VX;refine VY ?_;simp
theorem N1 (n:Int):bm prog 185 [.int n] (fun r=>r= .bool false):=by
 refine bc func185 ntmps185 ?_;refine Go ?_ VX VX VX;refine VY ?_;simp
theorem N2 (n m:Int):bm prog 184 [.int n,.int m] (fun r=>r= .bool (decide (n < m))):=by
 refine bc func184 ntmps184 ?_;(repeat' (first|refine gC 214 ?_;refine bg (KG _) ?_|intro (K:St→Prop) hK|intro hc|(refine Gf 99 ?_ ?_ ?_ ?_<;>try exact VX)|fail));refine VY ?_;rfl
def UU (xs:List Int) (x:Int):Nat:=(xs.takeWhile fun y=>decide (y < x)).length
variable {k:Nat}
theorem Ro {xs:List Int} {x:Int} (hk:k≤xs.length) (h1:∀ i (hi:i < xs.length),i < k→xs[i] < x) (h2:∀ i (hi:i < xs.length),k≤i→x≤xs[i]):UU xs x=k:=by
 unfold UU
 induction xs generalizing k with
 |nil=>simp at hk;simp [hk]
 |cons y ys ih=>
  cases k with
  |zero=>
   have:=h2 0 aC ak;simp at this;rw [List.takeWhile_cons_of_neg (by simpa using this)];rfl
  |succ k=>
   have:=h1 0 aC ak;simp at this;rw [List.takeWhile_cons_of_pos (by simpa using this),qb8];congr 1;exact ih (by simpa using hk) (fun i hi hik=>h1 (i+1) (by simpa using hi) ak) (fun i hi hik=>h2 (i+1) (by simpa using hi) ak)
@[local go_sem] theorem Tj (i j:Nat):((i:Int)+(j:Int)) / 2=(((i+j) / 2:Nat):Int):=by omega
theorem zI (xs:List Int) (x:Int) (hs:xs.Pairwise (· < ·)):bm prog 136 [ints xs,.int x] (fun r=>r= .dC [.int (UU xs x),.bool (hasB xs x)]):=by
 have hs':=qh9.1 hs;refine bc func136 ntmps136 ?_;(refine bU (i:=0) rfl (fun hb=>?_);(try simp only [qa2] at hb));refine Go (fun K hK=>?_) VX VX VX;refine ba [7,8,9,13,14,15,16,17,18,19,20,21,22,23,24,25,26,27,28,29,30] (fun (p:Nat×Nat)=>p.1≤p.2∧p.2≤xs.length∧(∀ i (hi:i < xs.length),i < p.1→xs[i] < x)∧(∀ i (hi:i < xs.length),p.2≤i→x≤xs[i])) (fun p=>p.2 - p.1) (fun p=>[(7,.int p.1),(8,.int p.2)]) (fun _=>[]) (0,xs.length) ⟨by simp,by simp,by simp,by simp;omega⟩ ?_ ?_
 ·refine bA ?_
  exact aZ
 rintro ⟨i,j⟩ ⟨hij,hj,h1,h2⟩ K hK;simp only at hij hj h1 h2;refine bA ?_;by_cases hlt:i < j
 ·have hm:(i+j) / 2 < xs.length:=by omega
  (repeat' (first|refine gC 184 ?_;refine bg (N2 _ _) ?_|intro (K:St→Prop) hK|intro hc|(refine Gf 99 ?_ ?_ ?_ ?_<;>try exact VX)|fail))
  ·refine ⟨((i+j) / 2+1,j),⟨by simp only;omega,hj,fun k hk hk2=>?_,h2⟩,by simp only;omega,?_⟩
   ·rcases qc4 k ((i+j) / 2) with h|h
    ·have:=hs' k ((i+j) / 2) hk hm h;omega
    obtain rfl:k=(i+j) / 2:=by simp only at hk2;omega
    exact hc
   refine bA ?_;exact aZ
  refine ⟨(i,(i+j) / 2),⟨by simp only;omega,by simp only;omega,h1,fun k hk hk2=>?_⟩,by simp only;omega,?_⟩
  ·rcases qc4 ((i+j) / 2) k with h|h
   ·have:=hs' ((i+j) / 2) k hm hk h;omega
   obtain rfl:k=(i+j) / 2:=by simp only at hk2;omega
   omega
  refine bA ?_;exact aZ
 obtain rfl:i=j:=by omega
 have e:=Ro hj h1 h2;have hx:x∈xs↔∃ h:i < xs.length,xs[i]=x:=by
  constructor
  ·intro hm
   obtain ⟨k,hk,rfl⟩:=qa9 hm;have hk2:¬k < i:=fun h=>by have:=h1 k hk h;omega
   rcases qc4 i k with h|h
   ·have:=hs' i k ak hk h
    have:=h2 i ak ak;omega
   obtain rfl:i=k:=by omega
   exact ⟨hk,rfl⟩
  rintro ⟨h,rfl⟩;exact qa4 h
 (repeat' (first|refine gC 185 ?_;refine bg (N1 _) ?_|intro (K:St→Prop) hK|intro hc|(refine yJ 99 ?_ ?_ ?_ ?_<;>try exact VX)|fail))
 all_goals (refine V8 ?_)
 all_goals rw [e]
 ·rw [show hasB xs x=true by rw [ev];exact hx.2 ⟨by omega,hc⟩]
 ·rw [show hasB xs x=false by rw [ky];exact fun h=>hc (hx.1 h).2]
 rw [show hasB xs x=false by rw [ky];exact fun h=>by have:=(hx.1 h).1;omega]
variable {α:Type}
def mR (p:α→Bool) (xs:List α):Int:=match xs.findIdx? p with|some i=>(i:Int)|none=>-1
theorem iP {p:α→Bool} {xs:List α} (hk:k < xs.length) (h:p xs[k]=true) (hn:∀ i (hi:i < xs.length),i < k→p xs[i]=false):mR p xs=k:=by
 have:xs.findIdx? p=some k:=by rw [List.findIdx?_eq_some_iff_getElem];exact ⟨hk,h,fun j hj=>by simp [hn j ak hj]⟩
 simp [mR,this]
theorem gv {p:α→Bool} {xs:List α} (hn:∀ i (hi:i < xs.length),p xs[i]=false):mR p xs= -1:=by
 have:xs.findIdx? p=none:=by rw [List.findIdx?_eq_none_iff];intro x hx;obtain ⟨i,hi,rfl⟩:=qa9 hx;exact hn i hi
 simp [mR,this]
theorem jJ (p:α→Bool) (xs:List α):decide (0≤mR p xs)=xs.any p:=by
 unfold mR;cases h:xs.findIdx? p with
 |none=>
  rw [List.findIdx?_eq_none_iff] at h
  have:xs.any p=false:=by rw [qi6];intro x hx;simp [h x hx]
  simp [this]
 |some k=>
  rw [List.findIdx?_eq_some_iff_getElem] at h;obtain ⟨hk,hp,_⟩:=h
  have:xs.any p=true:=qi0.2 ⟨_,qa4 hk,hp⟩
  simp [this]
def dR (f:FuncId) (caps:List AV) (e:α→AV) (p:α→Bool) (xs:List α):Prop:=∀ x∈xs,bm prog f ([e x]++caps) (fun r=>r= .bool (p x))
theorem A3 (xs:List Int) (f:FuncId) [cI prog f] (caps:List AV) (hcap:AV.cu caps=true) (p:Int→Bool) (h:dR f caps AV.int p xs):bm prog 117 [ints xs,.fn f caps] (fun r=>r= .int (mR p xs)):=by
 refine bc func117 ntmps117 ?_;(refine bU (i:=0) rfl (fun hb=>?_);(try simp only [qa2] at hb));refine Go (fun K hK=>?_) VX VX VX;refine ba [4,5,8,9,10,11,12,13,14,15,16,17,18] (fun k:Nat=>k≤xs.length∧∀ i (hi:i < xs.length),i < k→p xs[i]=false) (fun k=>xs.length - k) (fun k=>[(8,.int k)]) (fun _=>[]) 0 ⟨by omega,by omega⟩ ?_ ?_
 ·refine bA ?_
  exact aZ
 rintro k ⟨hk,hn⟩ K hK;refine bA ?_;by_cases hlt:k < xs.length
 ·cases hp:p xs[k]
  ·(repeat' (first|refine bu (fun K hK=>?_);refine iS aR (h xs[k] (qa4 hlt)) (by simp [cv,St.eval,AV.cu,AV.gq,hcap]) (fun x hx=>?_);rw [hp] at hx;subst hx|intro (K:St→Prop) hK|intro hc|(refine Gf 99 ?_ ?_ ?_ ?_<;>try exact VX)|fail))
   refine ⟨k+1,⟨by omega,fun i hi hik=>?_⟩,by omega,?_⟩
   ·rcases qc4 i k with h'|h'
    ·exact hn i hi h'
    obtain rfl:i=k:=by omega
    exact hp
   refine bA ?_;exact aZ
  (repeat' (first|refine bu (fun K hK=>?_);refine iS aR (h xs[k] (qa4 hlt)) (by simp [cv,St.eval,AV.cu,AV.gq,hcap]) (fun x hx=>?_);rw [hp] at hx;subst hx|intro (K:St→Prop) hK|intro hc|(refine Gf 99 ?_ ?_ ?_ ?_<;>try exact VX)|fail));refine VY ?_;rw [iP hlt hp hn]
 refine iy (fun hc K hK=>?_) VX VX VX;refine VY ?_;rw [gv fun i hi=>hn i hi ak]
theorem qc (xs:List Int) (f:FuncId) [cI prog f] (caps:List AV) (hcap:AV.cu caps=true) (p:Int→Bool) (h:dR f caps AV.int p xs):bm prog 55 [ints xs,.fn f caps] (fun r=>r= .bool (xs.any p)):=by
 refine bc func55 ntmps55 ?_;(repeat' (first|refine bu (fun K hK=>?_);refine cM (A3 xs f caps hcap p h) (by simp [cv,St.eval,AV.cu,AV.gq,hcap]) (fun x hx=>?_);subst hx|intro (K:St→Prop) hK|intro hc|(refine Gf 99 ?_ ?_ ?_ ?_<;>try exact VX)|fail));refine VY ?_;rw [jJ]
theorem Il (b:List Int) (hs:b.Pairwise (· < ·)) (a:List Int):dR 135 [.bC [ints b]] AV.int (hasB b) a:=by
 intro x hx;refine bc func135 ntmps135 ?_;(repeat' (first|refine gC 136 ?_;refine bg (zI _ _ aE) ?_|intro (K:St→Prop) hK|intro hc|(refine Gf 99 ?_ ?_ ?_ ?_<;>try exact VX)|fail));refine VY ?_;rfl
theorem N3 (a b:List Int):a.any (hasB b)= !kx a b:=by
 rw [qf7];simp [kx]
theorem KH (a b:List Int) (hs:b.Pairwise (· < ·)):bm prog 66 [ints a,ints b] (fun r=>r= .bool (!kx a b)):=by
 refine bc func66 ntmps66 ?_;(repeat' (first|refine gC 55 ?_;refine bg (qc _ 135 [.bC [ints _]] rfl _ (Il _ aE _)) ?_|refine bu (fun K hK=>?_);refine fy (bR 3 rfl rfl rfl) ?_;simp only [go_sem,seval];refine bt cL ?_|intro (K:St→Prop) hK|intro hc|(refine Gf 99 ?_ ?_ ?_ ?_<;>try exact VX)|fail));refine VY ?_;rw [N3]
theorem E2 (xs:List Int):da prog 147 [ints xs] [5] (fun x hp=>x= .sl 1 8 5 0 xs.length∧hp=[(5,⟨3,xs.map AV.int,false⟩)]):=by
 refine xr func147 ntmps147 ?_;(refine bU (i:=0) rfl (fun hb=>?_);(try simp only [qa2] at hb));(repeat' (first|refine bu (fun K hK=>?_);(first|(refine zh aR (fun b hnil=>?_);cases b)|refine ck ?_)|intro (K:St→Prop) hK|intro hc|(refine Gf 99 ?_ ?_ ?_ ?_<;>try exact VX)|fail))
 ·simp only [lq (f:=AV.int) (fun _=>rfl)]
  refine qW rfl aR aR (dO AV.int xs fun _=>rfl) ⟨by simp,rfl⟩
 have h0:xs=[]:=by simpa using hnil rfl
 subst h0;refine MQ (wI 2 5 1 8 3 rfl rfl) (qW rfl aR aR rfl ⟨rfl,rfl⟩)
theorem rv (m:Nat) (xs:List Int):da prog 147 [ints xs] [5+m] (fun x hp=>x= .sl 1 8 (5+m) 0 xs.length∧hp=[(5+m,⟨3,xs.map AV.int,false⟩)]):=
 (E2 xs).pW m fun x hp ⟨h1,h2⟩=>by subst h1;subst h2;exact ⟨rfl,by simp only [lT,w7 (dO AV.int xs fun _=>rfl)]⟩
theorem dk (xs:List Int):bm prog 147 [ints xs] (fun r=>r=ints xs):=by
 refine bc func147 ntmps147 ?_;(refine bU (i:=0) rfl (fun hb=>?_);(try simp only [qa2] at hb));(repeat' (first|refine bu (fun K hK=>?_);(first|(refine zh aR (fun b hnil=>?_);cases b)|refine ck ?_)|intro (K:St→Prop) hK|intro hc|(refine Gf 99 ?_ ?_ ?_ ?_<;>try exact VX)|fail))
 ·simp only [lq (f:=AV.int) (fun _=>rfl)]
  refine kj xs rfl aR aR aC (fun _=>rfl) (fun _=>rfl) rfl
 have h0:xs=[]:=by simpa using hnil rfl
 subst h0;refine aY (MR 2 1 8 rfl) (aX (aW aR)) aR rfl
theorem Im (xs:List Int):da prog 93 [ints xs] [6] (fun x hp=>x= .sl 1 8 6 0 xs.length∧hp=[(6,⟨3,xs.map AV.int,false⟩)]):=by
 refine xr func93 ntmps93 ?_;(refine bU (i:=0) rfl (fun hb=>?_);(try simp only [qa2] at hb));(repeat' (first|refine bu (fun K hK=>?_);refine xw 4 6 1 8 3 ?_;refine ck ?_|intro (K:St→Prop) hK|intro hc|(refine Gf 99 ?_ ?_ ?_ ?_<;>try exact VX)|fail));simp only [lq (f:=AV.int) (fun _=>rfl)];refine qW rfl aR aR (dO AV.int xs fun _=>rfl) ⟨by simp,rfl⟩
theorem yg (m:Nat) (xs:List Int):da prog 93 [ints xs] [6+m] (fun x hp=>x= .sl 1 8 (6+m) 0 xs.length∧hp=[(6+m,⟨3,xs.map AV.int,false⟩)]):=
 (Im xs).pW m fun x hp ⟨h1,h2⟩=>by subst h1;subst h2;exact ⟨rfl,by simp only [lT,w7 (dO AV.int xs fun _=>rfl)]⟩
end
section
attribute [local irreducible] dP fv mu lV dj PV ff ew AW bm da en dQ Ab.Fin fi er gF RV kh Le eV fL ma iG kM dJ dt
set_option maxHeartbeats 4000000
structure j7 where
 b:ByteArray
 h:b.size≤140737488355328
abbrev str (s:j7):AV:=.v (.string s.b)
structure br where
 p:Int
 a:List Int
structure bG where
 neg:Bool
 x:br
structure lB where
 name:j7
 ts:List Int
structure eg where
 name:j7
 ts:List Int
 diff:List (Int×Int)
 pre:List bG
 add:List br
 del:List br
 cost:Int
structure cR where
 types:List (j7×Int)
 dg:List (j7×Int)
 bV:List lB
 cU:List eg
 init:List br
 goal:List bG
abbrev MI (x:j7×Int):AV:=.agg [str x.1,.int x.2]
abbrev br.av (x:br):AV:=.agg [.int x.p,ints x.a]
abbrev bG.av (x:bG):AV:=.agg [.bool x.neg,.int x.x.p,ints x.x.a]
abbrev lB.av (x:lB):AV:=.agg [str x.name,ints x.ts]
abbrev Rh (x:Int×Int):AV:=.agg [.int x.1,.int x.2]
abbrev cW (l:List (j7×Int)):AV:=.cD 2 24 (l.map MI)
abbrev bQ (l:List br):AV:=.cD 2 32 (l.map br.av)
abbrev b9 (l:List bG):AV:=.cD 3 40 (l.map bG.av)
abbrev cY (l:List lB):AV:=.cD 2 40 (l.map lB.av)
abbrev qg (l:List (Int×Int)):AV:=.cD 2 16 (l.map Rh)
abbrev eg.av (s:eg):AV:=.agg [str s.name,ints s.ts,qg s.diff,b9 s.pre,bQ s.add,bQ s.del,.int s.cost]
abbrev dV (l:List eg):AV:=.cD 7 144 (l.map eg.av)
abbrev cR.cs (d:cR):List AV:=[cW d.types,cW d.dg,cY d.bV,dV d.cU,bQ d.init,b9 d.goal]
abbrev cR.av (d:cR):AV:=.agg d.cs
def E3 (i c:Nat):Bool:=(decide (97≤c)&&decide (c≤122))|| (decide (0 < i)&&((decide (48≤c)&&decide (c≤57))|| decide (c=45)))
def E4 (b:ByteArray) (i:Nat):Nat:=if h:i < b.size then b[i].toNat else 0
theorem KI {b:ByteArray} {i:Nat} (h:i < b.size):b[i].toNat=E4 b i:=by simp [E4,h]
def lF (s:j7):Bool:=((List.range s.b.size).all fun i=>E3 i (E4 s.b i))&&decide (1≤s.b.size)&&decide (s.b.size≤12)
theorem Qd (i c:Nat):(E3 i c=true)=((97≤c∧c≤122)∨(0 < i∧((48≤c∧c≤57)∨c=45))):=by simp [E3]
theorem ry (s:j7):bm prog 226 [str s] (fun r=>r= .bool (lF s)):=by
 obtain ⟨b,hb⟩:=s;refine bc func226 ntmps226 ?_;refine Go (fun K hK=>?_) VX VX VX;refine ba [2,3,4,7,8,9,10,11,12,13,14,15,16,17,18,19,20,21,22,23,24,25,26,27,28,29,30,31,32,33,34,35,36] (fun k:Nat=>k≤b.size∧∀ i,i < k→E3 i (E4 b i)=true) (fun k=>b.size - k) (fun k=>[(7,.int k)]) (fun _=>[]) 0 ⟨by omega,by omega⟩ ?_ ?_
 ·refine bA ?_
  exact aZ
 rintro k ⟨hk,hn⟩ K hK;refine bA ?_;by_cases hlt:k < b.size
 ·have hs:E3 k (E4 b k)=true→∀ i,i < k+1→E3 i (E4 b i)=true:=fun h i hi=>by
   rcases qc4 i k with h1|h1
   ·exact hn i h1
   obtain rfl:i=k:=by omega
   exact h
  have hno:¬E3 k (E4 b k)=true→lF ⟨b,hb⟩=false:=fun h=>by
   have:((List.range b.size).all fun i=>E3 i (E4 b i))=false:=by rw [List.all_eq_false];exact ⟨k,qh2.2 hlt,h⟩
   simp [lF,this]
  rw [Qd,← KI hlt] at hs hno;(repeat' (first|refine hK _ ?_;clear hK K|refine bH (fun K hK=>?_)|refine gR ?_;refine bY ?_|refine gE ?_;(first|refine iv ?_|refine nc (fun _=>?_))|refine gG ?_;refine hZ (fun hc=>?_) (fun hc=>?_)<;>(try (first|contradiction|omega))|refine gQ ?_;(first|refine fc ?_|refine ed ?_|refine cZ (fun hc=>?_) (fun hc=>?_)<;>(try (first|contradiction|omega)))|refine bE ?_|refine gT ?_;refine eY ?_|refine gS ?_;refine cS ?_))
  all_goals first
   |(refine ⟨k+1,⟨by omega,hs ak⟩,by omega,?_⟩;(refine bA ?_);(exact aZ))
   |((refine VY ?_);rw [hno ak])
 have hall:((List.range b.size).all fun i=>E3 i (E4 b i))=true:=by rw [qc8];exact fun i hi=>hn i (by have:=qh2.1 hi;omega)
 refine iy (fun hc hc K hK=>?_) (fun hc hc K hK=>?_) VX VX
 all_goals (refine VY ?_)
 all_goals (simp only [lF,hall,qf4])
 ·have h1:1≤b.size:=by omega
  by_cases h2:b.size≤12
  ·have h3:(b.size:Int)≤12:=by omega
   simp [h1,h2,h3]
  have h3:¬(b.size:Int)≤12:=by omega
  simp [h1,h2,h3]
 have h1:¬1≤b.size:=by omega
 simp [h1]
theorem N4 (xs:List (j7×Int)) (f:FuncId) [cI prog f] (caps:List AV) (hcap:AV.cu caps=true) (p:(j7×Int)→Bool) (h:dR f caps MI p xs):bm prog 262 [cW xs,.fn f caps] (fun r=>r= .int (mR p xs)):=by
 refine bc func262 ntmps262 ?_;(refine bU (i:=0) rfl (fun hb=>?_);(try simp only [qa2] at hb));refine Go (fun K hK=>?_) VX VX VX;refine ba [4,5,8,9,10,11,12,13,14,15,16,17,18] (fun k:Nat=>k≤xs.length∧∀ i (hi:i < xs.length),i < k→p xs[i]=false) (fun k=>xs.length - k) (fun k=>[(8,.int k)]) (fun _=>[]) 0 ⟨by omega,by omega⟩ ?_ ?_
 ·refine bA ?_
  exact aZ
 rintro k ⟨hk,hn⟩ K hK;refine bA ?_;by_cases hlt:k < xs.length
 ·(repeat' (first|refine bu (fun K hK=>?_);refine iS aR (h xs[k] (qa4 hlt)) (by simp [cv,St.eval,AV.cu,AV.gq,hcap]) (fun x hx=>?_);subst hx|intro (K:St→Prop) hK|intro hc|(refine Gf 99 ?_ ?_ ?_ ?_<;>try exact VX)|fail))
  ·refine VY ?_
   rw [iP hlt hc hn]
  refine ⟨k+1,⟨by omega,cj hn fun _=>hc⟩,by omega,?_⟩;refine bA ?_;exact aZ
 refine iy (fun hc K hK=>?_) VX VX VX;refine VY ?_;rw [gv fun i hi=>hn i hi ak]
theorem KJ (xs:List (j7×Int)) (f:FuncId) [cI prog f] (caps:List AV) (hcap:AV.cu caps=true) (p:(j7×Int)→Bool) (h:dR f caps MI p xs):bm prog 227 [cW xs,.fn f caps] (fun r=>r= .bool (xs.any p)):=by
 refine bc func227 ntmps227 ?_;(repeat' (first|refine bu (fun K hK=>?_);refine cM (N4 xs f caps hcap p h) (by simp [cv,St.eval,AV.cu,AV.gq,hcap]) (fun x hx=>?_);subst hx|intro (K:St→Prop) hK|intro hc|(refine Gf 99 ?_ ?_ ?_ ?_<;>try exact VX)|fail));refine VY ?_;rw [jJ]
theorem N5 (xs:List (j7×Int)) (f:FuncId) [cI prog f] (caps:List AV) (hcap:AV.cu caps=true) (p:(j7×Int)→Bool) (h:dR f caps MI p xs):bm prog 263 [cW xs,.fn f caps] (fun r=>r= .int (mR p xs)):=by
 refine bc func263 ntmps263 ?_;(refine bU (i:=0) rfl (fun hb=>?_);(try simp only [qa2] at hb));refine Go (fun K hK=>?_) VX VX VX;refine ba [4,5,8,9,10,11,12,13,14,15,16,17,18] (fun k:Nat=>k≤xs.length∧∀ i (hi:i < xs.length),i < k→p xs[i]=false) (fun k=>xs.length - k) (fun k=>[(8,.int k)]) (fun _=>[]) 0 ⟨by omega,by omega⟩ ?_ ?_
 ·refine bA ?_
  exact aZ
 rintro k ⟨hk,hn⟩ K hK;refine bA ?_;by_cases hlt:k < xs.length
 ·(repeat' (first|refine bu (fun K hK=>?_);refine iS aR (h xs[k] (qa4 hlt)) (by simp [cv,St.eval,AV.cu,AV.gq,hcap]) (fun x hx=>?_);subst hx|intro (K:St→Prop) hK|intro hc|(refine Gf 99 ?_ ?_ ?_ ?_<;>try exact VX)|fail))
  ·refine VY ?_
   rw [iP hlt hc hn]
  refine ⟨k+1,⟨by omega,cj hn fun _=>hc⟩,by omega,?_⟩;refine bA ?_;exact aZ
 refine iy (fun hc K hK=>?_) VX VX VX;refine VY ?_;rw [gv fun i hi=>hn i hi ak]
theorem KK (xs:List (j7×Int)) (f:FuncId) [cI prog f] (caps:List AV) (hcap:AV.cu caps=true) (p:(j7×Int)→Bool) (h:dR f caps MI p xs):bm prog 229 [cW xs,.fn f caps] (fun r=>r= .bool (xs.any p)):=by
 refine bc func229 ntmps229 ?_;(repeat' (first|refine bu (fun K hK=>?_);refine cM (N5 xs f caps hcap p h) (by simp [cv,St.eval,AV.cu,AV.gq,hcap]) (fun x hx=>?_);subst hx|intro (K:St→Prop) hK|intro hc|(refine Gf 99 ?_ ?_ ?_ ?_<;>try exact VX)|fail));refine VY ?_;rw [jJ]
theorem N6 (xs:List lB) (f:FuncId) [cI prog f] (caps:List AV) (hcap:AV.cu caps=true) (p:lB→Bool) (h:dR f caps lB.av p xs):bm prog 264 [cY xs,.fn f caps] (fun r=>r= .int (mR p xs)):=by
 refine bc func264 ntmps264 ?_;(refine bU (i:=0) rfl (fun hb=>?_);(try simp only [qa2] at hb));refine Go (fun K hK=>?_) VX VX VX;refine ba [4,5,8,9,10,11,12,13,14,15,16,17,18] (fun k:Nat=>k≤xs.length∧∀ i (hi:i < xs.length),i < k→p xs[i]=false) (fun k=>xs.length - k) (fun k=>[(8,.int k)]) (fun _=>[]) 0 ⟨by omega,by omega⟩ ?_ ?_
 ·refine bA ?_
  exact aZ
 rintro k ⟨hk,hn⟩ K hK;refine bA ?_;by_cases hlt:k < xs.length
 ·(repeat' (first|refine bu (fun K hK=>?_);refine iS aR (h xs[k] (qa4 hlt)) (by simp [cv,St.eval,AV.cu,AV.gq,hcap]) (fun x hx=>?_);subst hx|intro (K:St→Prop) hK|intro hc|(refine Gf 99 ?_ ?_ ?_ ?_<;>try exact VX)|fail))
  ·refine VY ?_
   rw [iP hlt hc hn]
  refine ⟨k+1,⟨by omega,cj hn fun _=>hc⟩,by omega,?_⟩;refine bA ?_;exact aZ
 refine iy (fun hc K hK=>?_) VX VX VX;refine VY ?_;rw [gv fun i hi=>hn i hi ak]
theorem KL (xs:List lB) (f:FuncId) [cI prog f] (caps:List AV) (hcap:AV.cu caps=true) (p:lB→Bool) (h:dR f caps lB.av p xs):bm prog 231 [cY xs,.fn f caps] (fun r=>r= .bool (xs.any p)):=by
 refine bc func231 ntmps231 ?_;(repeat' (first|refine bu (fun K hK=>?_);refine cM (N6 xs f caps hcap p h) (by simp [cv,St.eval,AV.cu,AV.gq,hcap]) (fun x hx=>?_);subst hx|intro (K:St→Prop) hK|intro hc|(refine Gf 99 ?_ ?_ ?_ ?_<;>try exact VX)|fail));refine VY ?_;rw [jJ]
theorem N7 (xs:List eg) (f:FuncId) [cI prog f] (caps:List AV) (hcap:AV.cu caps=true) (p:eg→Bool) (h:dR f caps eg.av p xs):bm prog 266 [dV xs,.fn f caps] (fun r=>r= .int (mR p xs)):=by
 refine bc func266 ntmps266 ?_;(refine bU (i:=0) rfl (fun hb=>?_);(try simp only [qa2] at hb));refine Go (fun K hK=>?_) VX VX VX;refine ba [4,5,8,9,10,11,12,13,14,15,16,17,18] (fun k:Nat=>k≤xs.length∧∀ i (hi:i < xs.length),i < k→p xs[i]=false) (fun k=>xs.length - k) (fun k=>[(8,.int k)]) (fun _=>[]) 0 ⟨by omega,by omega⟩ ?_ ?_
 ·refine bA ?_
  exact aZ
 rintro k ⟨hk,hn⟩ K hK;refine bA ?_;by_cases hlt:k < xs.length
 ·(repeat' (first|refine bu (fun K hK=>?_);refine iS aR (h xs[k] (qa4 hlt)) (by simp [cv,St.eval,AV.cu,AV.gq,hcap]) (fun x hx=>?_);subst hx|intro (K:St→Prop) hK|intro hc|(refine Gf 99 ?_ ?_ ?_ ?_<;>try exact VX)|fail))
  ·refine VY ?_
   rw [iP hlt hc hn]
  refine ⟨k+1,⟨by omega,cj hn fun _=>hc⟩,by omega,?_⟩;refine bA ?_;exact aZ
 refine iy (fun hc K hK=>?_) VX VX VX;refine VY ?_;rw [gv fun i hi=>hn i hi ak]
theorem KM (xs:List eg) (f:FuncId) [cI prog f] (caps:List AV) (hcap:AV.cu caps=true) (p:eg→Bool) (h:dR f caps eg.av p xs):bm prog 234 [dV xs,.fn f caps] (fun r=>r= .bool (xs.any p)):=by
 refine bc func234 ntmps234 ?_;(repeat' (first|refine bu (fun K hK=>?_);refine cM (N7 xs f caps hcap p h) (by simp [cv,St.eval,AV.cu,AV.gq,hcap]) (fun x hx=>?_);subst hx|intro (K:St→Prop) hK|intro hc|(refine Gf 99 ?_ ?_ ?_ ?_<;>try exact VX)|fail));refine VY ?_;rw [jJ]
theorem N8 (xs:List br) (f:FuncId) [cI prog f] (caps:List AV) (hcap:AV.cu caps=true) (p:br→Bool) (h:dR f caps br.av p xs):bm prog 213 [bQ xs,.fn f caps] (fun r=>r= .int (mR p xs)):=by
 refine bc func213 ntmps213 ?_;(refine bU (i:=0) rfl (fun hb=>?_);(try simp only [qa2] at hb));refine Go (fun K hK=>?_) VX VX VX;refine ba [4,5,8,9,10,11,12,13,14,15,16,17,18] (fun k:Nat=>k≤xs.length∧∀ i (hi:i < xs.length),i < k→p xs[i]=false) (fun k=>xs.length - k) (fun k=>[(8,.int k)]) (fun _=>[]) 0 ⟨by omega,by omega⟩ ?_ ?_
 ·refine bA ?_
  exact aZ
 rintro k ⟨hk,hn⟩ K hK;refine bA ?_;by_cases hlt:k < xs.length
 ·(repeat' (first|refine bu (fun K hK=>?_);refine iS aR (h xs[k] (qa4 hlt)) (by simp [cv,St.eval,AV.cu,AV.gq,hcap]) (fun x hx=>?_);subst hx|intro (K:St→Prop) hK|intro hc|(refine Gf 99 ?_ ?_ ?_ ?_<;>try exact VX)|fail))
  ·refine VY ?_
   rw [iP hlt hc hn]
  refine ⟨k+1,⟨by omega,cj hn fun _=>hc⟩,by omega,?_⟩;refine bA ?_;exact aZ
 refine iy (fun hc K hK=>?_) VX VX VX;refine VY ?_;rw [gv fun i hi=>hn i hi ak]
theorem C1 (xs:List br) (f:FuncId) [cI prog f] (caps:List AV) (hcap:AV.cu caps=true) (p:br→Bool) (h:dR f caps br.av p xs):bm prog 165 [bQ xs,.fn f caps] (fun r=>r= .bool (xs.any p)):=by
 refine bc func165 ntmps165 ?_;(repeat' (first|refine bu (fun K hK=>?_);refine cM (N8 xs f caps hcap p h) (by simp [cv,St.eval,AV.cu,AV.gq,hcap]) (fun x hx=>?_);subst hx|intro (K:St→Prop) hK|intro hc|(refine Gf 99 ?_ ?_ ?_ ?_<;>try exact VX)|fail));refine VY ?_;rw [jJ]
theorem N9 (xs:List bG) (f:FuncId) [cI prog f] (caps:List AV) (hcap:AV.cu caps=true) (p:bG→Bool) (h:dR f caps bG.av p xs):bm prog 168 [b9 xs,.fn f caps] (fun r=>r= .int (mR p xs)):=by
 refine bc func168 ntmps168 ?_;(refine bU (i:=0) rfl (fun hb=>?_);(try simp only [qa2] at hb));refine Go (fun K hK=>?_) VX VX VX;refine ba [4,5,8,9,10,11,12,13,14,15,16,17,18] (fun k:Nat=>k≤xs.length∧∀ i (hi:i < xs.length),i < k→p xs[i]=false) (fun k=>xs.length - k) (fun k=>[(8,.int k)]) (fun _=>[]) 0 ⟨by omega,by omega⟩ ?_ ?_
 ·refine bA ?_
  exact aZ
 rintro k ⟨hk,hn⟩ K hK;refine bA ?_;by_cases hlt:k < xs.length
 ·(repeat' (first|refine bu (fun K hK=>?_);refine iS aR (h xs[k] (qa4 hlt)) (by simp [cv,St.eval,AV.cu,AV.gq,hcap]) (fun x hx=>?_);subst hx|intro (K:St→Prop) hK|intro hc|(refine Gf 99 ?_ ?_ ?_ ?_<;>try exact VX)|fail))
  ·refine VY ?_
   rw [iP hlt hc hn]
  refine ⟨k+1,⟨by omega,cj hn fun _=>hc⟩,by omega,?_⟩;refine bA ?_;exact aZ
 refine iy (fun hc K hK=>?_) VX VX VX;refine VY ?_;rw [gv fun i hi=>hn i hi ak]
theorem KO (xs:List bG) (f:FuncId) [cI prog f] (caps:List AV) (hcap:AV.cu caps=true) (p:bG→Bool) (h:dR f caps bG.av p xs):bm prog 118 [b9 xs,.fn f caps] (fun r=>r= .bool (xs.any p)):=by
 refine bc func118 ntmps118 ?_;(repeat' (first|refine bu (fun K hK=>?_);refine cM (N9 xs f caps hcap p h) (by simp [cv,St.eval,AV.cu,AV.gq,hcap]) (fun x hx=>?_);subst hx|intro (K:St→Prop) hK|intro hc|(refine Gf 99 ?_ ?_ ?_ ?_<;>try exact VX)|fail));refine VY ?_;rw [jJ]
theorem Oa (xs:List (Int×Int)) (f:FuncId) [cI prog f] (caps:List AV) (hcap:AV.cu caps=true) (p:(Int×Int)→Bool) (h:dR f caps Rh p xs):bm prog 161 [qg xs,.fn f caps] (fun r=>r= .int (mR p xs)):=by
 refine bc func161 ntmps161 ?_;(refine bU (i:=0) rfl (fun hb=>?_);(try simp only [qa2] at hb));refine Go (fun K hK=>?_) VX VX VX;refine ba [4,5,8,9,10,11,12,13,14,15,16,17,18] (fun k:Nat=>k≤xs.length∧∀ i (hi:i < xs.length),i < k→p xs[i]=false) (fun k=>xs.length - k) (fun k=>[(8,.int k)]) (fun _=>[]) 0 ⟨by omega,by omega⟩ ?_ ?_
 ·refine bA ?_
  exact aZ
 rintro k ⟨hk,hn⟩ K hK;refine bA ?_;by_cases hlt:k < xs.length
 ·(repeat' (first|refine bu (fun K hK=>?_);refine iS aR (h xs[k] (qa4 hlt)) (by simp [cv,St.eval,AV.cu,AV.gq,hcap]) (fun x hx=>?_);subst hx|intro (K:St→Prop) hK|intro hc|(refine Gf 99 ?_ ?_ ?_ ?_<;>try exact VX)|fail))
  ·refine VY ?_
   rw [iP hlt hc hn]
  refine ⟨k+1,⟨by omega,cj hn fun _=>hc⟩,by omega,?_⟩;refine bA ?_;exact aZ
 refine iy (fun hc K hK=>?_) VX VX VX;refine VY ?_;rw [gv fun i hi=>hn i hi ak]
theorem C2 (xs:List (Int×Int)) (f:FuncId) [cI prog f] (caps:List AV) (hcap:AV.cu caps=true) (p:(Int×Int)→Bool) (h:dR f caps Rh p xs):bm prog 113 [qg xs,.fn f caps] (fun r=>r= .bool (xs.any p)):=by
 refine bc func113 ntmps113 ?_;(repeat' (first|refine bu (fun K hK=>?_);refine cM (Oa xs f caps hcap p h) (by simp [cv,St.eval,AV.cu,AV.gq,hcap]) (fun x hx=>?_);subst hx|intro (K:St→Prop) hK|intro hc|(refine Gf 99 ?_ ?_ ?_ ?_<;>try exact VX)|fail));refine VY ?_;rw [jJ]
def iQ (a b:j7):Bool:=a.b.toList == b.b.toList
instance:Inhabited j7:=⟨⟨⟨#[]⟩,by decide⟩⟩
instance:Inhabited br:=⟨⟨0,[]⟩⟩
instance:Inhabited bG:=⟨⟨false,default⟩⟩
instance:Inhabited lB:=⟨⟨default,[]⟩⟩
instance:Inhabited eg:=⟨⟨default,[],[],[],[],[],0⟩⟩
def KP:ByteArray:=⟨#[111,98,106,101,99,116]⟩
def KQ:ByteArray:=⟨#[110,111,116]⟩
theorem KR (t:j7×Int) (l:List (j7×Int)):dR 228 [.bC [str t.1,.int t.2]] MI (fun u=>iQ u.1 t.1) l:=by
 intro u hu;refine bc func228 ntmps228 ?_;refine Go ?_ VX VX VX;refine VY ?_;rfl
theorem KS (t:j7×Int) (l:List (j7×Int)):dR 230 [.bC [str t.1,.int t.2]] MI (fun u=>iQ u.1 t.1) l:=by
 intro u hu;refine bc func230 ntmps230 ?_;refine Go ?_ VX VX VX;refine VY ?_;rfl
theorem KT (t:lB) (l:List lB):dR 232 [.bC [str t.name,ints t.ts]] lB.av (fun u=>iQ u.name t.name) l:=by
 intro u hu;refine bc func232 ntmps232 ?_;refine Go ?_ VX VX VX;refine VY ?_;rfl
@[local go_sem] theorem ec {α:Type} (f:α→AV) (l:List α) (k:Nat):(l.map f).take k=(l.take k).map f:=List.map_take.symm
def C3 (l:List (j7×Int)) (i:Nat):Option (Int×Int):=
 if lF l[i]!.1=false∨l[i]!.1.b.toList=KP.toList then some (12,i)
 else if (l.take i).any (fun u=>iQ u.1 l[i]!.1) then some (7,i)
 else if l[i]!.2 < -1∨(i:Int)≤l[i]!.2 then some (3,i) else none
def gP (l:List (j7×Int)):Int×Int:=if 8 < l.length then (2,-1) else (bx (C3 l) l.length).getD (0,0)
theorem KU (l:List (j7×Int)):bm prog 202 [cW l] (fun r=>r=fault (gP l).1 (gP l).2):=by
 refine bc func202 ntmps202 ?_;(refine bU (i:=0) rfl (fun hb=>?_);(try simp only [qa2] at hb));refine Go (fun hc K hK=>?_) (fun hc K hK=>?_) VX VX
 ·refine V0 ?_
  rw [gP,if_pos ak];rfl
 have hF:∀ {k:Nat} {q:Int×Int},k < l.length→bx (C3 l) k=none→C3 l k=some q→gP l=q:=fun hk h1 h2=>by
  rw [gP,if_neg ak,cp h1 h2 hk];rfl
 refine ba [3,4,11,12,13,14,15,16,17,18,19,20,21,22,23,24,25,26,27,28,29,30,31,32,33,34,35,36,37,38,39,40,41,42,43,44,45,46,47,48] (fun k:Nat=>k≤l.length∧bx (C3 l) k=none) (fun k=>l.length - k) (fun k=>[(11,.int k)]) (fun _=>[(2,⟨42,[.v (.int .i64 0),.v (.int .i64 0)],true⟩)]) 0 ⟨by omega,rfl⟩ ?_ ?_
 ·refine bA ?_
  exact aZ
 rintro k ⟨hk,hn⟩ K hK;refine bA ?_;by_cases hlt:k < l.length
 ·have hg:=bq (l:=l) hlt
  have hF2:=fun q=>hF (q:=q) hlt hn;have hS:=fun h=>cJ (g:=C3 l) hn h;rw [C3,hg] at hF2 hS;(repeat' (first|refine gC 226 ?_;refine bg (ry _) ?_|refine gC 227 ?_;refine bg (KJ _ 228 [.bC [str _,.int _]] rfl _ (KR (_,_) _)) ?_|refine bu (fun K hK=>?_);refine fy (bR 4 rfl rfl rfl) ?_;simp only [go_sem,seval];refine bt cL ?_|intro (K:St→Prop) hK|intro hc|(refine Gf 99 ?_ ?_ ?_ ?_<;>try exact VX)|fail))
  all_goals first
   |(refine ⟨k+1,⟨by omega,hS ?_⟩,by omega,?_⟩;rotate_left;((refine bA ?_);(exact aZ)))
   |((refine V0 ?_);refine congrArg (fun q:Int×Int=>fault q.1 q.2) (hF2 (_,_) ?_).symm)
  all_goals clear hS hF2 hF
  all_goals (simp only [qj0] at *;(try simp only [*,KP,KQ,or_self,or_true,true_or,false_or,or_false,if_false,if_true,qa8,qk4]);first|done|refine (if_pos ?_).trans rfl;omega|refine (if_neg ?_).trans rfl;omega)
 refine iy (fun hc K hK=>?_) VX VX VX;refine V0 ?_;obtain rfl:k=l.length:=by omega
 rw [gP,if_neg ak,hn];rfl
def C4 (n:Nat) (l:List (j7×Int)) (i:Nat):Option (Int×Int):=
 if lF l[i]!.1=false then some (12,-10 - i)
 else if (l.take i).any (fun u=>iQ u.1 l[i]!.1) then some (7,-10 - i)
 else if l[i]!.2 < -1∨(n:Int)≤l[i]!.2 then some (3,-10 - i) else none
def jK (n:Nat) (l:List (j7×Int)):Int×Int:=if 8 < l.length then (2,-3) else (bx (C4 n l) l.length).getD (0,0)
theorem Ob (ts l:List (j7×Int)):bm prog 203 [cW ts,cW l] (fun r=>r=fault (jK ts.length l).1 (jK ts.length l).2):=by
 refine bc func203 ntmps203 ?_;(refine bU (i:=0) rfl (fun hb0=>?_);(try simp only [qa2] at hb0));(refine bU (i:=1) rfl (fun hb=>?_);(try simp only [qa2] at hb));refine Go (fun hc K hK=>?_) (fun hc K hK=>?_) VX VX
 ·refine V0 ?_
  rw [jK,if_pos ak];rfl
 have hF:∀ {k:Nat} {q:Int×Int},k < l.length→bx (C4 ts.length l) k=none→C4 ts.length l k=some q→jK ts.length l=q:=fun hk h1 h2=>by
  rw [jK,if_neg ak,cp h1 h2 hk];rfl
 refine ba [5,6,7,14,15,16,17,18,19,20,21,22,23,24,25,26,27,28,29,30,31,32,33,34,35,36,37,38,39,40,41,42,43,44,45,46,47] (fun k:Nat=>k≤l.length∧bx (C4 ts.length l) k=none) (fun k=>l.length - k) (fun k=>[(14,.int k)]) (fun _=>[(4,⟨42,[.v (.int .i64 0),.v (.int .i64 0)],true⟩)]) 0 ⟨by omega,rfl⟩ ?_ ?_
 ·refine bA ?_
  exact aZ
 rintro k ⟨hk,hn⟩ K hK;refine bA ?_;by_cases hlt:k < l.length
 ·have hg:=bq (l:=l) hlt
  have hF2:=fun q=>hF (q:=q) hlt hn;have hS:=fun h=>cJ (g:=C4 ts.length l) hn h;rw [C4,hg] at hF2 hS;(repeat' (first|refine gC 226 ?_;refine bg (ry _) ?_|refine gC 229 ?_;refine bg (KK _ 230 [.bC [str _,.int _]] rfl _ (KS (_,_) _)) ?_|refine bu (fun K hK=>?_);refine fy (bR 6 rfl rfl rfl) ?_;simp only [go_sem,seval];refine bt cL ?_|intro (K:St→Prop) hK|intro hc|(refine Gf 99 ?_ ?_ ?_ ?_<;>try exact VX)|fail))
  all_goals first
   |(refine ⟨k+1,⟨by omega,hS ?_⟩,by omega,?_⟩;rotate_left;((refine bA ?_);(exact aZ)))
   |((refine V0 ?_);refine congrArg (fun q:Int×Int=>fault q.1 q.2) (hF2 (_,_) ?_).symm)
  all_goals clear hS hF2 hF
  all_goals (simp only [qj0] at *;(try simp only [*,KP,KQ,or_self,or_true,true_or,false_or,or_false,if_false,if_true,qa8,qk4]);first|done|refine (if_pos ?_).trans rfl;omega|refine (if_neg ?_).trans rfl;omega)
 refine iy (fun hc K hK=>?_) VX VX VX;refine V0 ?_;obtain rfl:k=l.length:=by omega
 rw [jK,if_neg ak,hn];rfl
end
section
attribute [local irreducible] dP fv mu lV dj PV ff ew AW bm da en dQ cX Ab.Fin fi er gF iN RV kh Le eV fL ma iG kM dJ dt
set_option maxHeartbeats 4000000
def nZ (l:List (j7×Int)):Prop:=∀ i (h:i < l.length),-1≤l[i].2∧l[i].2 < i
def E5 (l:List (j7×Int)):Nat→Int→Int→Bool
 |0,_,b=>decide (b= -1)
 |f+1,t,b=>if t < 0 then decide (b= -1) else decide (t=b)|| E5 l f l[t.toNat]!.2 b
def yc (l:List (j7×Int)) (t b:Int):Bool:=E5 l (t+1).toNat t b
theorem C5 {l:List (j7×Int)} (hl:nZ l) (b:Int):∀ (f g:Nat) (t:Int),t < l.length→(t+1).toNat≤f→(t+1).toNat≤g→E5 l f t b=E5 l g t b
 |0,0,t,_,_,_=>rfl
 |0,g+1,t,_,h,_=>by rw [E5,E5,if_pos ak]
 |f+1,0,t,_,_,h=>by rw [E5,E5,if_pos ak]
 |f+1,g+1,t,ht,h1,h2=>by
  rw [E5,E5];split
  ·rfl
  have hlt:t.toNat < l.length:=by omega
  have:=hl t.toNat hlt;rw [bq hlt,C5 hl b f g _ ak ak ak]
variable {l:List (j7×Int)} {t b:Int}
theorem nG (h:t < 0):yc l t b=decide (b= -1):=by
 rw [yc,show (t+1).toNat=0 by omega,E5]
theorem ug (hl:nZ l) (h:0≤t) (hlt:t.toNat < l.length):yc l t b=(decide (t=b)|| yc l l[t.toNat].2 b):=by
 have:=hl t.toNat hlt;rw [yc,show (t+1).toNat=t.toNat+1 by omega,E5,if_neg ak,bq hlt,yc,C5 hl b t.toNat (l[t.toNat].2+1).toNat _ ak ak ak]
@[local go_sem] theorem Ni (i g:Nat) (y:cF):AV.cq i (.yl g y)=(g == i):=rfl
theorem Qe (l:List (j7×Int)) (hl:nZ l) (a b:Int) (ha0:-1≤a) (ha:a < l.length):bm prog 208 [cW l,.int a,.int b] (fun r=>r= .bool (yc l a b)):=by
 refine bc func208 ntmps208 ?_;refine Go (fun K hK K hK=>?_) VX VX VX;(refine bu (fun K hK=>?_);refine pA 1000000001 func239 ntmps239 aB aB ah ah ah ?_);refine Gx 1 (fun K hK=>?_) VX VX VX;(refine cE (bR 2 rfl rfl rfl) ?_;simp only [go_sem,seval]);refine gR ?_;refine bY ?_;refine bu (fun K hK=>?_);refine bt cL ?_;simp only [go_sem,seval];refine hK _ ?_;clear hK;(repeat' (first|refine hK _ ?_;clear hK K|refine gW ?_;refine eo ?_|refine gT ?_;refine eY ?_));(refine ⟨_,_,_,Le.refl _,(aX (aW aR)),by rfl,?_⟩;simp only [go_sem,seval]);refine hK _ ?_;clear hK K;(repeat' (first|refine hK _ ?_;clear hK K|refine gW ?_;refine eo ?_|refine bE ?_));have hK9:=hK;refine Ep 1000000001 (news:=[]) aR aB (by first|rfl|(simp [AV.bz,AV.cq];done)) (by first|rfl|(simp [cz,AV.bz,AV.cq];done)) (by first|rfl|(simp [AV.bz,AV.cq];done)) aR (fun id h=>by cases h) (fun y hyp hya hyb=>?_) (fun _ _ h=>h);refine cA func268 ntmps268 ?_;refine Go (fun K hK=>?_) VX VX VX;refine bP [4,5,6,7,8,9,10,11,12,13,14] (fun t:Int=>-1≤t∧t < l.length∧yc l a b=yc l t b) (fun t=>(t+1).toNat) (fun t=>[]) (fun t=>[(3,⟨3,[.int t],true⟩)]) a ⟨by omega,ha,rfl⟩ ?_ ?_
 ·refine bA ?_
  exact aZ
 rintro t ⟨ht1,ht2,hq⟩ K hK;refine bA ?_;by_cases hneg:t < 0
 ·refine HA 3 (fun hc K hK=>?_) VX VX VX
  refine fU ?_;iterate 1 ((refine bD rfl rfl (fun K1 hK1=>?_));(first|refine bt jh ?_|refine bt (tc aR aR aR aR) ?_|refine bt (sk aR) ?_);(try simp only [go_sem]);refine hK1 _ ?_;clear hK1 K1)
  refine b8 1000000002 hyp hya hyb aR aR aR aR aR aB aB aB aR ah aR aR ?_;simp only [go_sem,seval];refine gR ?_;refine bY ?_;refine ⟨_,_,Le.refl _,by rfl,by rfl,?_⟩;simp only [go_sem,seval];refine Go (fun hc=>?_) (fun hc=>?_) VX VX
  ·
   refine ⟨_,_,_,1000000003,Le.refl _,by rfl,by rfl,by rfl,rfl,?_⟩;simp only [go_sem,seval];refine cH ?_;(repeat' fail);refine xG iI (by first|exact .inl rfl|exact .inr rfl) aR ah aR ⟨.ret,1000000003,_,rfl,by rfl,by rfl,?_⟩;simp only [go_sem,seval];refine V0 ?_;rw [hq,nG hneg,decide_eq_true ak]
  
  refine ⟨_,_,_,1000000001,Le.refl _,by rfl,by rfl,by rfl,rfl,?_⟩;simp only [go_sem,seval];refine cH ?_;(repeat' fail);refine xG iI (by first|exact .inl rfl|exact .inr rfl) aR ah aR ⟨.normal,1000000001,_,rfl,by rfl,by rfl,?_⟩;simp only [go_sem,seval];refine hK9 _ ?_;refine Go ?_ VX VX VX;refine V0 ?_;rw [hq,nG hneg,decide_eq_false ak]
 
 refine Gx 2 (fun hc K hK K hK=>?_) VX VX VX;refine fU ?_;iterate 2 ((refine bD rfl rfl (fun K1 hK1=>?_));(first|refine bt jh ?_|refine bt (tc aR aR aR aR) ?_|refine bt (sk aR) ?_);(try simp only [go_sem]);refine hK1 _ ?_;clear hK1 K1)
 refine b8 1000000002 hyp hya hyb aR aR aR aR aR aB aB aB aR ah aR aR ?_;simp only [go_sem,seval];refine gR ?_;refine bY ?_;refine ⟨_,_,Le.refl _,by rfl,by rfl,?_⟩;simp only [go_sem,seval];refine Go (fun hc=>?_) (fun hc=>?_) VX VX
 ·
  refine ⟨_,_,_,1000000003,Le.refl _,by rfl,by rfl,by rfl,rfl,?_⟩;simp only [go_sem,seval];refine bD rfl rfl (fun K1 hK1=>?_);refine bt (sk aR) ?_;(try simp only [go_sem]);refine hK1 _ ?_;clear hK1 K1;refine cH ?_;refine Go ?_ VX VX VX;refine xG iI (by first|exact .inl rfl|exact .inr rfl) aR ah aR ⟨.ret,1000000003,_,rfl,by rfl,by rfl,?_⟩;simp only [go_sem,seval];refine V0 ?_;rw [hq,ug hl ak ak,decide_eq_true ak,qi7]
 
 refine ⟨_,_,_,1000000001,Le.refl _,by rfl,by rfl,by rfl,rfl,?_⟩;simp only [go_sem,seval];refine bD rfl rfl (fun K1 hK1=>?_);refine bt (sk aR) ?_;(try simp only [go_sem]);refine hK1 _ ?_;clear hK1 K1;refine cH ?_;have hlt:t.toNat < l.length:=by omega
 have hpar:=hl t.toNat hlt;refine Go (fun _=>?_) VX VX VX;refine ⟨l[t.toNat].2,⟨by omega,by omega,?_⟩,by omega,?_⟩
 ·rw [hq,ug hl ak hlt,decide_eq_false ak,qc1]
 refine bA ?_;exact aZ
def wB (ts dg:List (j7×Int)) (t:Int):Nat→List Int
 |0=>[]
 |k+1=>wB ts dg t k++if yc ts dg[k]!.2 t=true then [(k:Int)] else []
theorem nH (ts dg:List (j7×Int)) (t:Int):∀ k,(wB ts dg t k).length≤k
 |0=>qb3 _
 |k+1=>by
  have:=nH ts dg t k;rw [wB,qa3];split<;>simp<;>omega
def nB (ts dg:List (j7×Int)):Prop:=∀ i (h:i < dg.length),-1≤dg[i].2∧dg[i].2 < ts.length
theorem KV (ts dg:List (j7×Int)) (t:Int) (hl:nZ ts) (ho:nB ts dg) (h8:dg.length≤8):bm prog 160 [cW ts,cW dg,.int t] (fun r=>r=ints (wB ts dg t dg.length)):=by
 refine bc func160 ntmps160 ?_;refine Go (fun K hK=>?_) VX VX VX;refine fD 7 100 1 8 3 ?_;refine ba [7,8,9,12,13,14,15,16,17,18,19,20,21,22,23,24,25,26] (fun k:Nat=>k≤dg.length) (fun k=>dg.length - k) (fun k=>[(12,.int k),(7,.sl 1 8 100 0 (wB ts dg t k).length)]) (fun k=>[(100,⟨3,(wB ts dg t k).map AV.int,false⟩)]) 0 ak ?_ ?_
 ·refine bA ?_
  exact aZ
 rintro k hk K hK;refine bA ?_;have hrl:=nH ts dg t k;by_cases hlt:k < dg.length
 ·have hob:=ho k hlt
  have hst:wB ts dg t (k+1)=wB ts dg t k++if yc ts dg[k].2 t=true then [(k:Int)] else []:=by rw [wB,bq hlt]
  (repeat' (first|refine gC 208 ?_;refine bg (Qe _ aE _ _ ak ak) ?_|refine bu (fun K hK=>?_);(refine ck ?_;simp only [go_sem,seval,dy,bl])|intro (K:St→Prop) hK|intro hc|(refine Gf 99 ?_ ?_ ?_ ?_<;>try exact VX)|fail))
  ·refine ⟨k+1,by omega,by omega,?_⟩
   rw [hst,if_pos aE];refine bA ?_;refine ea (by (repeat (first|exact .nil|refine .drop ?_|refine dG ?_ aS))) aI
  refine ⟨k+1,by omega,by omega,?_⟩;rw [hst,if_neg (by simp_all),qe5];refine bA ?_;exact aZ
 obtain rfl:k=dg.length:=by omega
 refine iy (fun hc K hK=>?_) VX VX VX;refine kj (wB ts dg t dg.length) rfl aR aR rfl (fun _=>rfl) (fun _=>rfl) rfl
end
section
set_option maxHeartbeats 8000000
def qh (l:List (j7×Int)):Nat→Int→List Int
 |0,_=>[-1]
 |f+1,t=>if t < 0 then [-1] else t::qh l f l[t.toNat]!.2
def wC (l:List (j7×Int)) (t:Int):List Int:=qh l (t+1).toNat t
theorem C6 (l:List (j7×Int)) (b:Int):∀ (f:Nat) (t:Int),hasB (qh l f t) b=E5 l f t b
 |0,t=>by rw [qh,E5,hasB];simp
 |f+1,t=>by
  rw [qh,E5];split
  ·rw [hasB];simp
  rw [← C6 l b f,qf7,qe0,ev,ev,qc2,decide_eq_true_eq,@eq_comm _ b]
theorem KW (l:List (j7×Int)) (t b:Int):hasB (wC l t) b=yc l t b:=C6 l b _ t
theorem zJ {l:List (j7×Int)} (hl:nZ l):∀ (f g:Nat) (t:Int),t < l.length→(t+1).toNat≤f→(t+1).toNat≤g→qh l f t=qh l g t
 |0,0,t,_,_,_=>rfl
 |0,g+1,t,_,h,_=>by rw [qh,qh,if_pos ak]
 |f+1,0,t,_,_,h=>by rw [qh,qh,if_pos ak]
 |f+1,g+1,t,ht,h1,h2=>by
  rw [qh,qh];split
  ·rfl
  have hlt:t.toNat < l.length:=by omega
  have:=hl t.toNat hlt;rw [bq hlt,zJ hl f g _ ak ak ak]
variable {l:List (j7×Int)} {t:Int}
theorem C7 (h:t < 0):wC l t=[-1]:=by rw [wC,show (t+1).toNat=0 by omega,qh]
theorem Io (hl:nZ l) (h:0≤t) (hlt:t.toNat < l.length):wC l t=t::wC l l[t.toNat].2:=by
 have:=hl t.toNat hlt;rw [wC,show (t+1).toNat=t.toNat+1 by omega,qh,if_neg ak,bq hlt,wC,zJ hl t.toNat (l[t.toNat].2+1).toNat _ ak ak ak]
theorem C8 (l:List (j7×Int)):∀ (f:Nat) (t:Int),(qh l f t).length≤f+1
 |0,t=>by simp [qh]
 |f+1,t=>by
  have:=C8 l f l[t.toNat]!.2;rw [qh];split
  ·simp
  rw [qb8];omega
theorem zK {l:List (j7×Int)} (hl:nZ l) {b c:Int}:∀ (n:Nat) (t:Int),(t+1).toNat≤n→t < l.length→yc l t b=true→yc l b c=true→yc l t c=true
 |0,t,hn,ht,h1,h2=>by
  rw [nG ak,decide_eq_true_eq] at h1;rw [h1,nG ak] at h2;rw [nG ak];exact h2
 |n+1,t,hn,ht,h1,h2=>by
  by_cases h:t < 0
  ·rw [nG ak,decide_eq_true_eq] at h1
   rw [h1,nG ak] at h2;rw [nG ak];exact h2
  have hlt:t.toNat < l.length:=by omega
  have hp:=hl t.toNat hlt;rw [ug hl ak hlt,qe0,decide_eq_true_eq] at h1;rcases h1 with rfl|h1
  ·exact h2
  rw [ug hl ak hlt,zK hl n _ ak ak h1 h2,ql9]
end
section
attribute [local irreducible] dP fv mu lV dj PV ff ew AW bm da en dQ cX Ab.Fin fi er gF iN RV kh Le eV fL ma iG kM dJ dt
set_option maxHeartbeats 4000000
def lG (a b:Int):Int:=if a < b then -1 else if b < a then 1 else 0
theorem A4 (a b:Int):bm prog 171 [.int a,.int b] (fun r=>r= .int (lG a b)):=by
 refine bc func171 ntmps171 ?_;(repeat' (first|refine gC 214 ?_;refine bg (KG _) ?_|intro (K:St→Prop) hK|intro hc|(refine Gf 99 ?_ ?_ ?_ ?_<;>try exact VX)|fail))
 all_goals (refine VY ?_)
 all_goals (unfold lG;(repeat' split)<;>first|rfl|omega)
theorem n5 (a b:Int):lG a b=0↔a=b:=by unfold lG;(repeat' split)<;>omega
def fh:List Int→List Int→Int
 |[],[]=>0
 |[],_::_=>-1
 |_::_,[]=>1
 |x::a,y::b=>if lG x y=0 then fh a b else lG x y
theorem A5:∀ (a b:List Int),fh a b=0↔a=b
 |[],[]=>by simp [fh]
 |[],_::_=>by simp [fh]
 |_::_,[]=>by simp [fh]
 |x::a,y::b=>by
  rw [fh];split
  ·rename_i h;rw [n5] at h;rw [A5 a b,h];simp
  rename_i h;constructor
  ·exact fun e=>absurd e h
  intro e;injection e with e1 e2;exact absurd ((n5 x y).2 e1) h
theorem yh (a b:List Int):bm prog 172 [ints a,ints b] (fun r=>r= .int (fh a b)):=by
 refine bc func172 ntmps172 ?_;(refine bU (i:=0) rfl (fun hb0=>?_);(try simp only [qa2] at hb0));(refine bU (i:=1) rfl (fun hb1=>?_);(try simp only [qa2] at hb1));refine Go (fun K hK=>?_) VX VX VX;refine ba [4,5,6,7,8,11,12,13,14,15,16,17,18,19,20,21,22,23,24,25,26,27,28,29,30] (fun k:Nat=>k≤a.length∧k≤b.length∧fh a b=fh (a.drop k) (b.drop k)) (fun k=>a.length - k) (fun k=>[(11,.int k)]) (fun _=>[]) 0 aC ?_ ?_
 ·refine bA ?_
  exact aZ
 rintro k ⟨hk1,hk2,he⟩ K hK;refine bA ?_;by_cases hl1:k < a.length
 ·by_cases hl2:k < b.length
  ·rw [qe2 hl1,qe2 hl2,fh] at he
   (repeat' (first|refine gC 171 ?_;refine bg (A4 _ _) ?_|intro (K:St→Prop) hK|intro hc|(refine Gf 99 ?_ ?_ ?_ ?_<;>try exact VX)|fail))
   ·refine VY ?_
    rw [he,if_neg aE]
   (refine ⟨k+1,⟨by omega,by omega,by rw [he,if_pos aE]⟩,by omega,?_⟩;(refine bA ?_);(exact aZ))
  obtain rfl:k=b.length:=by omega
  rw [qe2 hl1,qi3,fh] at he;refine Go (fun _ hc hc K hK K hK=>?_) VX VX VX;refine VY ?_;rw [he]
 obtain rfl:k=a.length:=by omega
 rw [qi3] at he;refine iy (fun hc hc K hK K hK=>?_) (fun hc hc K hK=>?_) VX VX
 ·refine VY ?_
  rw [he,qe2 ak,fh]
 refine VY ?_;rw [he,List.drop_of_length_le ak,fh]
theorem Qf (a b:Int):bm prog 170 [ints [a,b]] (fun r=>r= .int (if a=0 then b else a)):=by
 refine bc func170 ntmps170 ?_;refine Go (fun K hK=>?_) VX VX VX;refine ba [2,5,8,9,10,11,12,13,14,15,16] (fun k:Nat=>k≤2∧(0 < k→a=0)∧(1 < k→b=0)) (fun k=>2 - k) (fun k=>[(8,.int k)]) (fun _=>[]) 0 aC ?_ ?_
 ·refine bA ?_
  exact aZ
 rintro k ⟨hk,h0,h1⟩ K hK;refine bA ?_;obtain rfl|rfl|rfl:k=0∨k=1∨k=2:=by omega
 ·refine Go (fun hc K hK=>?_) (fun hc=>?_) VX VX
  ·refine VY ?_
   rw [if_neg aE]
  (refine ⟨1,⟨by omega,fun _=>by assumption,by omega⟩,by omega,?_⟩;(refine bA ?_);(exact aZ))
 ·refine Go (fun hc K hK=>?_) (fun hc=>?_) VX VX
  ·refine VY ?_
   rw [if_pos (h0 ak)]
  (refine ⟨2,⟨by omega,fun _=>h0 ak,fun _=>by assumption⟩,by omega,?_⟩;(refine bA ?_);(exact aZ))
 refine iy (fun K hK=>?_) VX VX VX;refine VY ?_;rw [if_pos (h0 ak),h1 ak]
def wD (x y:br):Int:=if lG x.p y.p=0 then fh x.a y.a else lG x.p y.p
theorem A6 (x y:br):wD x y=0↔x=y:=by
 obtain ⟨p,a⟩:=x;obtain ⟨q,b⟩:=y;unfold wD;simp only [br.mk.injEq];split
 ·rename_i h;rw [n5] at h;rw [A5];simp [h]
 rename_i h;constructor
 ·exact fun e=>absurd e h
 exact fun e=>absurd ((n5 _ _).2 e.1) h
theorem uh (x y:br):bm prog 167 [x.av,y.av] (fun r=>r= .int (wD x y)):=by
 refine bc func167 ntmps167 ?_;(repeat' (first|refine gD 1 ?_;refine dK (.r 0 4 (.r 5 4 (.it 4 1 (.it 9 1 (.it 10 1 (.it 11 1 (.it 12 0 .nil))))))) ?_|refine dH 171 ?_;refine bB (A4 _ _) ?_|refine dH 172 ?_;refine bB (yh _ _) ?_|refine dH 170 ?_;refine bB (Qf _ _) ?_|refine c8 (fun K hK=>?_);refine cN (d:=15) aJ aR aR aR aR ?_|intro (K:St→Prop) hK|intro hc|(refine rh 99 ?_ ?_ ?_ ?_<;>try exact VX)|fail));refine VY ?_;rfl
def tY (d:cR) (ps:List Int) (x:Int):Option Int:=
 if 0≤x∧x < d.dg.length then some d.dg[x.toNat]!.2
 else if x < 0∧-(ps.length:Int)≤x then some ps[(-1 - x).toNat]! else none
def UW:Option Int→AV
 |some t=>.dC [.int t,.bool true]
 |none=>.dC [.int 0,.bool false]
theorem Oc (d:cR) (ps:List Int) (x:Int):bm prog 285 [d.av,ints ps,.int x] (fun r=>r=UW (tY d ps x)):=by
 obtain ⟨ty,ob,pr,sc,cB,go⟩:=d;refine bc func285 ntmps285 ?_;(refine bU (i:=1) rfl (fun hb=>?_);(try simp only [qa2] at hb));refine Go (fun _ hc hc K hK=>?_) (fun hc hc hc=>?_) (fun _ hc hc hc K hK=>?_) (fun hc hc hc=>?_)
 all_goals (refine V8 ?_)
 all_goals simp only [tY]
 ·rw [if_pos ak,bq ak];rfl
 ·rw [if_neg ak,if_neg ak];rfl
 ·rw [if_neg ak,if_pos ak,bq ak];rfl
 rw [if_neg ak,if_neg ak];rfl
def qH (d:cR) (ps:List Int):Prop:=∀ i (h:i < ps.length),-1≤ps[i]∧ps[i] < d.types.length
theorem Od {d:cR} {ps:List Int} {x t:Int} (ho:nB d.types d.dg) (hp:qH d ps) (h:tY d ps x=some t):-1≤t∧t < d.types.length:=by
 unfold tY at h;split at h
 ·rename_i hx
  rw [bq ak] at h;injection h with h
  subst h;exact ho _ _
 split at h
 ·rename_i hx
  rw [bq ak] at h;injection h with h
  subst h;exact hp _ _
 cases h
def vf (d:cR) (ps:List Int) (x:br) (i:Nat):Option Int:=
 match tY d ps x.a[i]! with
 |none=>some 3
 |some t=>if yc d.types t d.bV[x.p.toNat]!.ts[i]! =true then none else some 8
def jH (d:cR) (ps:List Int) (x:br):Int:=
 if x.p < 0∨d.bV.length≤x.p then 6
 else if x.a.length≠d.bV[x.p.toNat]!.ts.length then 9
 else (bx (vf d ps x) x.a.length).getD 0
theorem KX (d:cR) (ps:List Int) (x:br) (hl:nZ d.types) (ho:nB d.types d.dg) (hp:qH d ps):bm prog 267 [d.av,ints ps,x.av] (fun r=>r= .int (jH d ps x)):=by
 obtain ⟨ty,ob,pr,sc,cB,go⟩:=d;obtain ⟨p,a⟩:=x;simp only at hl ho;refine bc func267 ntmps267 ?_;refine Go (fun hc K hK=>?_) (fun hc hc K hK=>?_) (fun _ hc hc hc K hK=>?_) (fun _ hc hc hc K hK=>?_)
 ·refine VY ?_
  rw [jH,if_pos aQ]
 ·refine VY ?_
  rw [jH,if_pos aQ]
 ·refine VY ?_
  rw [jH,if_neg aQ,if_pos (by simp only;rw [bq ak];omega)]
 (refine dZ (id:=5) (j:=1) rfl rfl (fun hba=>?_);(try simp only [qa2] at hba));have hpl:p.toNat < pr.length:=by omega
 have hpb:=bq hpl;have hF:jH ⟨ty,ob,pr,sc,cB,go⟩ ps ⟨p,a⟩=(bx (vf ⟨ty,ob,pr,sc,cB,go⟩ ps ⟨p,a⟩) a.length).getD 0:=by rw [jH,if_neg aQ,if_neg (by simp only;rw [hpb];omega)]
 refine ba [6,8,9,10,11,39,40,41,42,43,44,45,46,47,48,49,50,51,52,53,54,55,56,57,58,59,60,61,62] (fun k:Nat=>k≤a.length∧bx (vf ⟨ty,ob,pr,sc,cB,go⟩ ps ⟨p,a⟩) k=none) (fun k=>a.length - k) (fun k=>[(39,.int k)]) (fun _=>[(3,⟨29,[cW ty,cW ob,cY pr,dV sc,bQ cB,b9 go],true⟩),(5,⟨66,[.int p,ints a],true⟩)]) 0 ⟨by omega,rfl⟩ ?_ ?_
 ·refine bA ?_
  exact aZ
 rintro k ⟨hk,hn⟩ K hK;refine bA ?_;by_cases hlt:k < a.length
 ·have hto:=Oc ⟨ty,ob,pr,sc,cB,go⟩ ps a[k]
  have hg:vf ⟨ty,ob,pr,sc,cB,go⟩ ps ⟨p,a⟩ k=match tY ⟨ty,ob,pr,sc,cB,go⟩ ps a[k] with
   |none=>some 3
   |some t=>if yc ty t pr[p.toNat].ts[k]! =true then none else some 8:=by
   simp only [vf];rw [bq hlt,hpb]
  cases hty:tY ⟨ty,ob,pr,sc,cB,go⟩ ps a[k] with
  |none=>
   rw [hty] at hto hg;simp only [UW] at hto;(repeat' (first|refine gC 285 ?_;refine bg (hto) ?_|intro (K:St→Prop) hK|intro hc|(refine Gf 99 ?_ ?_ ?_ ?_<;>try exact VX)|fail));refine VY ?_;rw [hF,cp hn hg hlt];rfl
  |some t=>
   rw [hty] at hto hg;have htk:=Od (d:=⟨ty,ob,pr,sc,cB,go⟩) ho hp hty;simp only at htk;simp only [UW] at hto;have hkw:k < pr[p.toNat].ts.length:=by omega
   simp only [bq hkw] at hg;(repeat' (first|refine gD 12 ?_;refine dK (.r 0 7 (.it 7 1 (.it 8 0 .nil))) ?_|refine gC 285 ?_;refine bg (hto) ?_|refine dH 208 ?_;refine bB (Qe _ aE _ _ ak ak) ?_|intro (K:St→Prop) hK|intro hc|(refine Gf 99 ?_ ?_ ?_ ?_<;>try exact VX)|fail))
   ·refine VY ?_
    rw [if_neg (by simp_all)] at hg;rw [hF,cp hn hg hlt];rfl
   rw [if_pos aE] at hg;(refine ⟨k+1,⟨by omega,cJ hn hg⟩,by omega,?_⟩;(refine bA ?_);(exact aZ))
 refine iy (fun hc K hK=>?_) VX VX VX;refine VY ?_;obtain rfl:k=a.length:=by omega
 rw [hF,hn];rfl
def qa (d:cR) (ps:List Int) (l:List br) (i:Nat):Option Int:=if jH d ps l[i]! =0 then none else some (jH d ps l[i]!)
def dF (d:cR) (ps:List Int) (l:List br) (m:Int):Int:=if m < l.length then 2 else (bx (qa d ps l) l.length).getD 0
theorem rz (d:cR) (ps:List Int) (l:List br) (m:Int) (hl:nZ d.types) (ho:nB d.types d.dg) (hp:qH d ps):bm prog 237 [d.av,ints ps,bQ l,.int m] (fun r=>r= .int (dF d ps l m)):=by
 have hat:=fun x=>KX d ps x hl ho hp;obtain ⟨ty,ob,pr,sc,cB,go⟩:=d;refine bc func237 ntmps237 ?_;(refine bU (i:=2) rfl (fun hb=>?_);(try simp only [qa2] at hb));refine Go (fun hc K hK=>?_) (fun hc K hK=>?_) VX VX
 ·refine VY ?_
  rw [dF,if_pos ak]
 have hF:dF ⟨ty,ob,pr,sc,cB,go⟩ ps l m=(bx (qa ⟨ty,ob,pr,sc,cB,go⟩ ps l) l.length).getD 0:=by rw [dF,if_neg ak]
 refine ba [8,10,11,18,19,20,21,22,23,24,25,26,27,28,29] (fun k:Nat=>k≤l.length∧bx (qa ⟨ty,ob,pr,sc,cB,go⟩ ps l) k=none) (fun k=>l.length - k) (fun k=>[(18,.int k)]) (fun _=>[(4,⟨29,[cW ty,cW ob,cY pr,dV sc,bQ cB,b9 go],true⟩)]) 0 ⟨by omega,rfl⟩ ?_ ?_
 ·refine bA ?_
  exact aZ
 rintro k ⟨hk,hn⟩ K hK;refine bA ?_;by_cases hlt:k < l.length
 ·have hk2:=hat l[k]
  have hg:qa ⟨ty,ob,pr,sc,cB,go⟩ ps l k=if jH ⟨ty,ob,pr,sc,cB,go⟩ ps l[k]=0 then none else some (jH ⟨ty,ob,pr,sc,cB,go⟩ ps l[k]):=by rw [qa,bq hlt]
  generalize jH ⟨ty,ob,pr,sc,cB,go⟩ ps l[k]=e at *;(repeat' (first|refine gC 267 ?_;refine bg (hk2) ?_|intro (K:St→Prop) hK|intro hc|(refine Gf 99 ?_ ?_ ?_ ?_<;>try exact VX)|fail))
  ·refine VY ?_
   rw [if_neg aE] at hg;rw [hF,cp hn hg hlt];rfl
  rw [if_pos aE] at hg;(refine ⟨k+1,⟨by omega,cJ hn hg⟩,by omega,?_⟩;(refine bA ?_);(exact aZ))
 refine iy (fun hc K hK=>?_) VX VX VX;refine VY ?_;obtain rfl:k=l.length:=by omega
 rw [hF,hn];rfl
abbrev kG (x:br):List AV:=[.int x.p,ints x.a]
@[go_sem] theorem mS (l:List br):(l.map br.av).flatMap AV.cells=l.flatMap kG:=by rw [qg9];rfl
@[go_sem] theorem Ud (a b:List br):(a++b).flatMap kG=a.flatMap kG++b.flatMap kG:=qd8
@[go_sem] theorem Ue (l:List br):(l.flatMap kG).length=l.length * 2:=by
 induction l with
 |nil=>rfl
 |cons w l ih=>simp [qd5,ih];omega
@[go_sem] theorem Sl (id:Nat) (l:List br):AV.cG id (l.flatMap kG)=l.flatMap kG:=ir id kG l fun _=>rfl
@[go_sem] theorem Tk (id:Nat) (l:List br):AV.bz id (l.flatMap kG)=false:=ef id kG l fun _=>rfl
theorem ui (l:List br):AV.cu (l.flatMap kG)=true:=gu kG l fun _=>rfl
@[go_sem] theorem Sm (id sz bw n:Nat) (es:List AV) (l:List br):AV.dM id sz bw n es (l.flatMap kG)=l.flatMap kG:=e8 (ui l)
def r9 (d:cR) (ps:List Int) (l:List bG):Int:=dF d ps (l.map bG.x) 8
theorem C9 (d:cR) (ps:List Int) (l:List bG) (hl:nZ d.types) (ho:nB d.types d.dg) (hp:qH d ps):bm prog 207 [d.av,ints ps,b9 l] (fun r=>r= .int (r9 d ps l)):=by
 have hat:=rz d ps (l.map bG.x) 8 hl ho hp;obtain ⟨ty,ob,pr,sc,cB,go⟩:=d;refine bc func207 ntmps207 ?_;(refine bU (i:=2) rfl (fun hb=>?_);(try simp only [qa2] at hb));refine Go (fun K hK=>?_) VX VX VX;refine fD 7 100 2 32 66 ?_;refine ba [7,9,12,13,14,15,16,17,18,19,20,21] (fun k:Nat=>k≤l.length) (fun k=>l.length - k) (fun k=>[(12,.int k),(7,.sl 2 32 100 0 k)]) (fun k=>[(3,⟨29,[cW ty,cW ob,cY pr,dV sc,bQ cB,b9 go],true⟩),(100,⟨66,((l.take k).map bG.x).flatMap kG,false⟩)]) 0 ak ?_ ?_
 ·refine bA ?_
  exact aZ
 rintro k hk K hK;refine bA ?_;by_cases hlt:k < l.length
 ·(repeat' (first|refine bu (fun K hK=>?_);(refine ck ?_;simp only [go_sem,seval,dy,bl])|intro (K:St→Prop) hK|intro hc|(refine Gf 99 ?_ ?_ ?_ ?_<;>try exact VX)|fail))
  have hst:((l.take (k+1)).map bG.x).flatMap kG=((l.take k).map bG.x).flatMap kG++[.int l[k].x.p,ints l[k].x.a]:=by rw [qa5 hlt,qb5,qd8];rfl
  refine ⟨k+1,by omega,by omega,?_⟩;rw [hst];refine bA ?_;exact aZ
 obtain rfl:k=l.length:=by omega
 rw [qd2];refine HA 7 (fun hc K hK K hK=>?_) VX VX VX;(refine cE (cV (f:=br.av) 100 2 32 l.length (l.map bG.x) aR (mS _) aN (fun _=>rfl) (fun _=>rfl) ak) ?_;try simp only [go_sem,seval]);(repeat' (first|refine gC 237 ?_;refine bg (hat) ?_|intro (K:St→Prop) hK|intro hc|(refine Gf 99 ?_ ?_ ?_ ?_<;>try exact VX)|fail));refine VY ?_;rfl
end
section
attribute [local irreducible] dP fv mu lV dj PV ff ew AW bm da en dQ cX Ab.Fin fi er gF iN RV kh Le eV fL ma iG kM dJ dt
set_option maxHeartbeats 4000000
attribute [local go_sem] ec
def E6 (n:Nat) (t:Int):Bool:=decide (t < -1)|| decide ((n:Int)≤t)
theorem Oe (d:cR) (xs:List Int):dR 265 [.bC d.cs] AV.int (E6 d.types.length) xs:=by
 intro t ht;obtain ⟨ty,ob,pr,sc,cB,go⟩:=d;refine bc func265 ntmps265 ?_;refine Go (fun hc=>?_) (fun hc=>?_) VX VX
 all_goals (refine VY ?_)
 all_goals simp [E6]
 all_goals omega
def fG (d:cR) (ps:List Int):Int:=if 3 < ps.length then 2 else if ps.any (E6 d.types.length)=true then 3 else 0
theorem pO {d:cR} {ps:List Int} (h:fG d ps=0):ps.length≤3∧qH d ps:=by
 unfold fG at h;split at h
 ·omega
 split at h
 ·omega
 rename_i h1 h2;refine ⟨by omega,fun i hi=>?_⟩;simp only [qj7,qi6] at h2;have:=h2 _ (qa4 hi);simp [E6] at this;omega
theorem zL (d:cR) (ps:List Int):bm prog 233 [d.av,ints ps] (fun r=>r= .int (fG d ps)):=by
 refine bc func233 ntmps233 ?_;(repeat' (first|refine gC 55 ?_;refine bg (qc _ 265 [.bC d.cs] rfl _ (Oe d _)) ?_|refine bu (fun K hK=>?_);refine fy (bR 2 rfl rfl rfl) ?_;simp only [go_sem,seval];refine bt cL ?_|intro (K:St→Prop) hK|intro hc|(refine Gf 99 ?_ ?_ ?_ ?_<;>try exact VX)|fail))
 all_goals (refine VY ?_)
 all_goals simp only [fG]
 ·rw [if_pos ak]
 ·rw [if_neg ak,if_pos aE]
 rw [if_neg ak,if_neg (by simp_all)]
def ua (d:cR) (i:Nat):Int:=
 if lF d.bV[i]!.name=false∨d.bV[i]!.name.b.toList=KQ.toList then 12
 else if (d.bV.take i).any (fun u=>iQ u.name d.bV[i]!.name)=true then 7
 else fG d d.bV[i]!.ts
theorem KY (d:cR) (i:Nat) (h:i < d.bV.length):bm prog 204 [d.av,.int i] (fun r=>r= .int (ua d i)):=by
 have hpar:=fun ps=>zL d ps;have hg:=bq h;obtain ⟨ty,ob,pr,sc,cB,go⟩:=d;simp only at h hg;refine bc func204 ntmps204 ?_;(repeat' (first|refine gC 226 ?_;refine bg (ry _) ?_|refine gC 231 ?_;refine bg (KL _ 232 [.bC [str _,ints _]] rfl _ (KT ⟨_,_⟩ _)) ?_|refine gC 233 ?_;refine bg (hpar _) ?_|refine bu (fun K hK=>?_);refine fy (bR 5 rfl rfl rfl) ?_;simp only [go_sem,seval];refine bt cL ?_|intro (K:St→Prop) hK|intro hc|(refine Gf 99 ?_ ?_ ?_ ?_<;>try exact VX)|fail))
 all_goals (refine VY ?_)
 all_goals (simp only [ua,hg,qj0] at *)
 all_goals (simp only [*,KQ,or_self,or_true,true_or,false_or,or_false,if_false,if_true,qa8,qk4])
theorem KZ (t:eg) (l:List eg):dR 235 [.bC [str t.name,ints t.ts,qg t.diff,b9 t.pre,bQ t.add,bQ t.del,.int t.cost]] eg.av (fun u=>iQ u.name t.name) l:=by
 intro u hu;refine bc func235 ntmps235 ?_;refine Go ?_ VX VX VX;refine VY ?_;rfl
def tZ (n:Nat) (p:Int×Int):Bool:=decide (p.1 < 0)|| decide (p.2≤p.1)|| decide ((n:Int)≤p.2)
theorem Of (n:Nat) (xs:List (Int×Int)):dR 236 [.bC [.int n]] Rh (tZ n) xs:=by
 intro t ht;refine bc func236 ntmps236 ?_;refine Go (fun hc=>?_) (fun hc hc=>?_) (fun hc hc=>?_) VX
 all_goals (refine VY ?_)
 all_goals simp [tZ]
 all_goals omega
def CX (d:cR) (l:List eg) (s:eg):Int:=
 if lF s.name=false then 12
 else if l.any (fun u=>iQ u.name s.name)=true then 7
 else if fG d s.ts≠0 then fG d s.ts
 else if 8 < s.diff.length then 2
 else if s.diff.any (tZ s.ts.length)=true then 3
 else if r9 d s.ts s.pre≠0 then r9 d s.ts s.pre
 else if dF d s.ts s.add 8≠0 then dF d s.ts s.add 8
 else if dF d s.ts s.del 8≠0 then dF d s.ts s.del 8
 else if s.cost < 0∨100 < s.cost then 3 else 0
def yZ (d:cR) (i:Nat):Int:=CX d (d.cU.take i) d.cU[i]!
theorem Og (d:cR) (i:Nat) (h:i < d.cU.length) (hl:nZ d.types) (ho:nB d.types d.dg):bm prog 205 [d.av,.int i] (fun r=>r= .int (yZ d i)):=by
 have hpar:=fun ps=>zL d ps;have hlit:=fun (hp:qH d d.cU[i].ts)=>C9 d d.cU[i].ts d.cU[i].pre hl ho hp;have hadd:=fun (hp:qH d d.cU[i].ts)=>rz d d.cU[i].ts d.cU[i].add 8 hl ho hp;have fg:=fun (hp:qH d d.cU[i].ts)=>rz d d.cU[i].ts d.cU[i].del 8 hl ho hp;have hpok:=@pO d d.cU[i].ts;have hg:=bq h;obtain ⟨ty,ob,pr,sc,cB,go⟩:=d;simp only at h hg hlit hadd fg hpok;simp only [yZ,hg];refine bc func205 ntmps205 ?_;(repeat' (first|refine gC 226 ?_;refine bg (ry _) ?_|refine gC 234 ?_;refine bg (KM _ 235 [.bC [str _,ints _,qg _,b9 _,bQ _,bQ _,.int _]] rfl _ (KZ ⟨_,_,_,_,_,_,_⟩ _)) ?_|refine gC 233 ?_;refine bg (hpar _) ?_|refine bu (fun K hK=>?_);refine fy (bR 5 rfl rfl rfl) ?_;simp only [go_sem,seval];refine bt cL ?_|intro (K:St→Prop) hK|intro hc|(refine Gf 9 ?_ ?_ ?_ ?_<;>try exact VX)|fail))
 ·refine VY ?_
  simp only [CX,qj0] at *;simp only [*,if_true]
 ·refine VY ?_
  simp only [CX,qj0] at *;simp only [*,if_true,if_false,qk4]
 ·refine VY ?_
  simp only [CX,qj0] at *;simp only [*,if_true,if_false,qk4,qa8,ne_eq,not_false_eq_true]
 have hts:=(hpok aE).2;have h1:=hlit hts;have h2:=hadd hts;have h3:=fg hts;obtain ⟨eL,heL⟩:∃ e,r9 ⟨ty,ob,pr,sc,cB,go⟩ sc[i].ts sc[i].pre=e:=⟨_,rfl⟩
 obtain ⟨eA,heA⟩:∃ e,dF ⟨ty,ob,pr,sc,cB,go⟩ sc[i].ts sc[i].add 8=e:=⟨_,rfl⟩
 obtain ⟨eD,heD⟩:∃ e,dF ⟨ty,ob,pr,sc,cB,go⟩ sc[i].ts sc[i].del 8=e:=⟨_,rfl⟩
 rw [heL] at h1;rw [heA] at h2;rw [heD] at h3;have hQ:CX ⟨ty,ob,pr,sc,cB,go⟩ (sc.take i) sc[i]=if 8 < sc[i].diff.length then 2
  else if sc[i].diff.any (tZ sc[i].ts.length)=true then 3
  else if eL≠0 then eL else if eA≠0 then eA else if eD≠0 then eD
  else if sc[i].cost < 0∨100 < sc[i].cost then 3 else 0:=by
  simp only [CX,qj0] at *;simp only [*,if_true,if_false,qk4,qa8,ne_eq,not_true_eq_false]
 clear hlit hadd fg hpok;(repeat' (first|refine gC 113 ?_;refine bg (C2 _ 236 [.bC [.int _]] rfl _ (Of _ _)) ?_|refine gC 207 ?_;refine bg (h1) ?_|refine bu (fun K hK=>?_);refine fy (bR 7 rfl rfl rfl) ?_;simp only [go_sem,seval];refine bt cL ?_|intro (K:St→Prop) hK|intro hc|(refine Gf 99 ?_ ?_ ?_ ?_<;>try exact VX)|fail))
 ·refine VY ?_
  rw [hQ,if_pos ak]
 ·refine VY ?_
  rw [hQ,if_neg ak,if_pos aE]
 ·refine VY ?_
  rw [hQ,if_neg ak,if_neg (by simp only [*];exact ql7),if_pos aE]
 rw [if_neg ak,if_neg (by simp only [*];exact ql7),if_neg (by simp only [*,ne_eq,not_true_eq_false,not_false_eq_true])] at hQ;refine ba [4,11,12,64,65,66,67,68,69,70,71,72,73,74,75,76] (fun k:Nat=>k≤2∧(1≤k→eA=0)∧(2≤k→eD=0)) (fun k=>2 - k) (fun k=>[(64,.int k)]) (fun _=>[(2,⟨29,[cW ty,cW ob,cY pr,dV sc,bQ cB,b9 go],true⟩)]) 0 aC ?_ ?_
 ·refine bA ?_
  exact aZ
 rintro k ⟨hk,k1,k2⟩ K hK;refine bA ?_;obtain rfl|rfl|rfl:k=0∨k=1∨k=2:=by omega
 ·
  (repeat' (first|refine gC 237 ?_;refine bg (h2) ?_|intro (K:St→Prop) hK|intro hc|(refine Gf 99 ?_ ?_ ?_ ?_<;>try exact VX)|fail))
  ·refine VY ?_
   rw [hQ,if_pos aE]
  (refine ⟨1,⟨by omega,fun _=>by assumption,by omega⟩,by omega,?_⟩;(refine bA ?_);(exact aZ))
 ·
  (repeat' (first|refine gC 237 ?_;refine bg (h3) ?_|intro (K:St→Prop) hK|intro hc|(refine Gf 99 ?_ ?_ ?_ ?_<;>try exact VX)|fail))
  ·refine VY ?_
   rw [hQ,if_neg (by have:=k1 ak;omega),if_pos aE]
  (refine ⟨2,⟨by omega,fun _=>k1 ak,fun _=>by assumption⟩,by omega,?_⟩;(refine bA ?_);(exact aZ))
 refine iy (fun hc K hK K hK=>?_) (fun hc hc K hK K hK=>?_) (fun hc hc K hK=>?_) VX
 all_goals (refine VY ?_)
 all_goals rw [hQ,if_neg (by have:=k1 ak;omega),if_neg (by have:=k2 ak;omega)]
 all_goals first|(rw [if_pos ak];done)|(rw [if_neg ak];done)
theorem iU {α:Type} {g:Nat→Option α} {n k:Nat} (h:bx g n=none) (hk:k < n):g k=none:=ik.1 h k hk
theorem yd {l:List (j7×Int)} (h:gP l=(0,0)):nZ l∧l.length≤8:=by
 unfold gP at h;split at h
 ·cases h
 rename_i h8;cases hf:bx (C3 l) l.length with
 |some q=>
  rw [hf] at h;simp only [qf3] at h;subst h;obtain ⟨i,_,hg⟩:=dh hf;unfold C3 at hg;(repeat' split at hg)<;>simp at hg
 |none=>
  refine ⟨fun i hi=>?_,by omega⟩;have:=iU hf hi;unfold C3 at this;rw [bq hi] at this;(repeat' split at this)<;>first|(simp at this;done)|omega
theorem AT {ts l:List (j7×Int)} (h:jK ts.length l=(0,0)):nB ts l∧l.length≤8:=by
 unfold jK at h;split at h
 ·cases h
 rename_i h8;cases hf:bx (C4 ts.length l) l.length with
 |some q=>
  rw [hf] at h;simp only [qf3] at h;subst h;obtain ⟨i,_,hg⟩:=dh hf;unfold C4 at hg;(repeat' split at hg)<;>simp at hg
 |none=>
  refine ⟨fun i hi=>?_,by omega⟩;have:=iU hf hi;unfold C4 at this;rw [bq hi] at this;(repeat' split at this)<;>first|(simp at this;done)|omega
theorem A7 (d:cR):qH d []:=fun i h=>by simp at h
def Ip (x y:br):Bool:=wD x y == 0
theorem Rp (x:br) (l:List br):dR 238 [.bC [.int x.p,ints x.a]] br.av (Ip x) l:=by
 intro u hu;refine bc func238 ntmps238 ?_;(repeat' (first|refine gC 167 ?_;refine bg (uh _ _) ?_|intro (K:St→Prop) hK|intro hc|(refine Gf 99 ?_ ?_ ?_ ?_<;>try exact VX)|fail));refine VY ?_;rfl
def y4 (l:List br) (i:Nat):Option Int:=if (l.take i).any (Ip l[i]!)=true then some 7 else none
def pP (d:cR):Int:=if dF d [] d.init 40≠0 then dF d [] d.init 40 else (bx (y4 d.init) d.init.length).getD 0
theorem Iq (d:cR) (hl:nZ d.types) (ho:nB d.types d.dg):bm prog 206 [d.av] (fun r=>r= .int (pP d)):=by
 have hat:=ks (rz d [] d.init 40 hl ho (A7 d)) (args':=[d.av,.fO,bQ d.init,.int 40]) ⟨iO.ic _,iO.nil 1 8,iO.ic _,iO.ic _,trivial⟩;obtain ⟨ty,ob,pr,sc,cB,go⟩:=d;obtain ⟨e,he⟩:∃ e,dF ⟨ty,ob,pr,sc,cB,go⟩ [] cB 40=e:=⟨_,rfl⟩
 simp only at hat;rw [he] at hat;have hS:pP ⟨ty,ob,pr,sc,cB,go⟩=if e≠0 then e else (bx (y4 cB) cB.length).getD 0:=by rw [pP];simp only [he]
 refine bc func206 ntmps206 ?_;(repeat' (first|refine gC 237 ?_;refine bg (hat) ?_|intro (K:St→Prop) hK|intro hc|(refine Gf 99 ?_ ?_ ?_ ?_<;>try exact VX)|fail))
 ·refine VY ?_
  rw [hS,if_pos aE]
 rw [if_neg ak] at hS;(refine dZ (id:=1) (j:=4) rfl rfl (fun hb=>?_);(try simp only [qa2] at hb));refine ba [2,4,5,16,17,18,19,20,21,22,23,24,25,26,27] (fun k:Nat=>k≤cB.length∧bx (y4 cB) k=none) (fun k=>cB.length - k) (fun k=>[(16,.int k)]) (fun _=>[(1,⟨29,[cW ty,cW ob,cY pr,dV sc,bQ cB,b9 go],true⟩)]) 0 ⟨by omega,rfl⟩ ?_ ?_
 ·refine bA ?_
  exact aZ
 rintro k ⟨hk,hn⟩ K hK;refine bA ?_;by_cases hlt:k < cB.length
 ·have hg:y4 cB k=if (cB.take k).any (Ip cB[k])=true then some 7 else none:=by rw [y4,bq hlt]
  (repeat' (first|refine gC 165 ?_;refine bg (C1 _ 238 [.bC [.int _,ints _]] rfl _ (Rp ⟨_,_⟩ _)) ?_|refine bu (fun K hK=>?_);refine fy (bR 5 rfl rfl rfl) ?_;simp only [go_sem,seval];refine bt cL ?_|intro (K:St→Prop) hK|intro hc|(refine Gf 99 ?_ ?_ ?_ ?_<;>try exact VX)|fail))
  ·refine VY ?_
   rw [if_pos aE] at hg;rw [hS,cp hn hg hlt];rfl
  rw [if_neg (by simp only [qj0] at *;simp only [*];exact ql7)] at hg;(refine ⟨k+1,⟨by omega,cJ hn hg⟩,by omega,?_⟩;(refine bA ?_);(exact aZ))
 refine iy (fun hc K hK=>?_) VX VX VX;refine VY ?_;obtain rfl:k=cB.length:=by omega
 rw [hS,hn];rfl
def vg (d:cR) (i:Nat):Option (Int×Int):=if ua d i≠0 then some (ua d i,-3) else none
def vi (d:cR) (i:Nat):Option (Int×Int):=if yZ d i≠0 then some (yZ d i,(i:Int)) else none
def iZ (d:cR):Int×Int:=
 if gP d.types≠(0,0) then ((gP d.types).1,-1)
 else if jK d.types.length d.dg≠(0,0) then ((jK d.types.length d.dg).1,-2)
 else if 8 < d.bV.length then (2,-3)
 else ((bx (vg d) d.bV.length).or (if 8 < d.cU.length then some (2,-4) else
  (bx (vi d) d.cU.length).or (if pP d≠0 then some (pP d,-5) else if r9 d [] d.goal≠0 then some (r9 d [] d.goal,-6) else none))).getD (0,0)
theorem K2 (d:cR):bm prog 157 [d.av] (fun r=>r=fault (iZ d).1 (iZ d).2):=by
 have hty:=KU d.types;have hob:=Ob d.types d.dg;have hpr:=KY d;have hsc:=Og d;have hst:=Iq d;have hli:=fun a b=>ks (C9 d [] d.goal a b (A7 d)) (args':=[d.av,.fO,b9 d.goal]) ⟨iO.ic _,iO.nil 1 8,iO.ic _,trivial⟩;have htk:=@yd d.types;have hok:=@AT d.types d.dg;obtain ⟨D,hD⟩:∃ D,iZ d=D:=⟨_,rfl⟩
 rw [hD];rw [iZ] at hD;obtain ⟨ty,ob,pr,sc,cB,go⟩:=d;obtain ⟨D1,D2⟩:=D;simp only at hty hob hpr hsc hst hli htk hok hD ⊢;obtain ⟨f,hf⟩:∃ f,gP ty=f:=⟨_,rfl⟩
 obtain ⟨g,hg⟩:∃ g,jK ty.length ob=g:=⟨_,rfl⟩
 rw [hf] at hty htk hD;rw [hg] at hob hok hD;obtain ⟨f1,f2⟩:=f;obtain ⟨g1,g2⟩:=g;simp only at hty hob;refine bc func157 ntmps157 ?_;(repeat' (first|refine gC 202 ?_;refine bg (hty) ?_|refine gC 203 ?_;refine bg (hob) ?_|intro (K:St→Prop) hK|intro hc|(refine Gf 9 ?_ ?_ ?_ ?_<;>try exact VX)|fail))
 ·refine V0 ?_
  rw [if_pos (by simp only [ne_eq,qg8];omega)] at hD;cases hD;rfl
 ·refine V0 ?_
  rw [if_neg (by simp only [ne_eq,qg8];omega),if_pos (by simp only [ne_eq,qg8];omega)] at hD;cases hD;rfl
 ·refine V0 ?_
  rw [if_neg (by simp only [ne_eq,qg8];omega),if_neg (by simp only [ne_eq,qg8];omega),if_pos ak] at hD;cases hD;rfl
 rw [if_neg (by simp only [ne_eq,qg8];omega),if_neg (by simp only [ne_eq,qg8];omega),if_neg ak] at hD;have hH:=(htk (by simp only [qg8];omega)).1;have hO:=(hok (by simp only [qg8];omega)).1;have hst:=hst hH hO;have hli:=hli hH hO;have hsc:=fun i h=>hsc i h hH hO;clear hty hob htk hok;obtain ⟨eS,heS⟩:∃ e,pP ⟨ty,ob,pr,sc,cB,go⟩=e:=⟨_,rfl⟩
 obtain ⟨eL,heL⟩:∃ e,r9 ⟨ty,ob,pr,sc,cB,go⟩ [] go=e:=⟨_,rfl⟩
 rw [heS] at hst hD;rw [heL] at hli hD;refine Go ?_ VX VX VX;refine ba [5,6,39,40,41,42,43,44,45,46,47,48,49] (fun k:Nat=>k≤pr.length∧bx (vg ⟨ty,ob,pr,sc,cB,go⟩) k=none) (fun k=>pr.length - k) (fun k=>[(39,.int k)]) (fun _=>[(1,⟨29,[cW ty,cW ob,cY pr,dV sc,bQ cB,b9 go],true⟩),(2,⟨42,[.v (.int .i64 0),.v (.int .i64 0)],true⟩)]) 0 ⟨by omega,rfl⟩ ?_ ?_
 ·refine bA ?_
  exact aZ
 rintro k ⟨hk,hn⟩ K hK;refine bA ?_;by_cases hlt:k < pr.length
 ·have h1:=hpr k hlt
  have h2:vg ⟨ty,ob,pr,sc,cB,go⟩ k=if ua ⟨ty,ob,pr,sc,cB,go⟩ k≠0 then some (ua ⟨ty,ob,pr,sc,cB,go⟩ k,-3) else none:=rfl
  generalize ua ⟨ty,ob,pr,sc,cB,go⟩ k=e at *;(repeat' (first|refine gC 204 ?_;refine bg (h1) ?_|intro (K:St→Prop) hK|intro hc|(refine Gf 99 ?_ ?_ ?_ ?_<;>try exact VX)|fail))
  ·refine V0 ?_
   rw [if_pos aE] at h2;rw [cp hn h2 hlt] at hD;cases hD;rfl
  rw [if_neg (by simp only [*,ne_eq,not_true_eq_false,not_false_eq_true])] at h2;(refine ⟨k+1,⟨by omega,cJ hn h2⟩,by omega,?_⟩;(refine bA ?_);(exact aZ))
 obtain rfl:k=pr.length:=by omega
 rw [hn,qi1] at hD;refine iy (fun hc hc K hK K hK=>?_) (fun hc hc K hK K hK=>?_) VX VX
 ·refine V0 ?_
  rw [if_pos ak] at hD;cases hD;rfl
 rw [if_neg ak] at hD;refine ba [7,8,58,59,60,61,62,63,64,65,66,67,68,69] (fun k:Nat=>k≤sc.length∧bx (vi ⟨ty,ob,pr,sc,cB,go⟩) k=none) (fun k=>sc.length - k) (fun k=>[(58,.int k)]) (fun _=>[(1,⟨29,[cW ty,cW ob,cY pr,dV sc,bQ cB,b9 go],true⟩),(2,⟨42,[.v (.int .i64 0),.v (.int .i64 0)],true⟩)]) 0 ⟨by omega,rfl⟩ ?_ ?_
 ·refine bA ?_
  exact aZ
 rintro k ⟨hk,hm⟩ K hK;refine bA ?_;by_cases hlt:k < sc.length
 ·have h1:=hsc k hlt
  have h2:vi ⟨ty,ob,pr,sc,cB,go⟩ k=if yZ ⟨ty,ob,pr,sc,cB,go⟩ k≠0 then some (yZ ⟨ty,ob,pr,sc,cB,go⟩ k,(k:Int)) else none:=rfl
  generalize yZ ⟨ty,ob,pr,sc,cB,go⟩ k=e at *;(repeat' (first|refine gC 205 ?_;refine bg (h1) ?_|intro (K:St→Prop) hK|intro hc|(refine Gf 99 ?_ ?_ ?_ ?_<;>try exact VX)|fail))
  ·refine V0 ?_
   rw [if_pos aE] at h2;rw [cp hm h2 hlt] at hD;cases hD;rfl
  rw [if_neg (by simp only [*,ne_eq,not_true_eq_false,not_false_eq_true])] at h2;(refine ⟨k+1,⟨by omega,cJ hm h2⟩,by omega,?_⟩;(refine bA ?_);(exact aZ))
 obtain rfl:k=sc.length:=by omega
 rw [hm,qi1] at hD;(repeat' (first|refine gC 206 ?_;refine bg (hst) ?_|refine gC 207 ?_;refine bg (hli) ?_|intro (K:St→Prop) hK|intro hc|(refine yJ 99 ?_ ?_ ?_ ?_<;>try exact VX)|fail))
 ·refine V0 ?_
  rw [if_pos aE] at hD;cases hD;rfl
 ·refine V0 ?_
  rw [if_neg (by simp only [*,ne_eq,not_true_eq_false,not_false_eq_true]),if_pos aE] at hD;cases hD;rfl
 refine V0 ?_;rw [if_neg (by simp only [*,ne_eq,not_true_eq_false,not_false_eq_true]),if_neg (by simp only [*,ne_eq,not_true_eq_false,not_false_eq_true])] at hD;cases hD;rfl
end
end Go.Proofs.YtkbiagkbmodgdaaGreat
