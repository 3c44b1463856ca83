/- Part of a proof: of two right answers both have a plan, at one cost, or none. No condition. -/
import Derived.Test.YtkbiagkbmodgdaaGreatZabn
import Derived.Test.YtkbiagkbmodgdaaGreatZabo
import Derived.Test.YtkbiagkbmodgdaaGreatZtab
set_option linter.unusedSimpArgs false
set_option linter.unusedVariables false
namespace Go.Proofs.YtkbiagkbmodgdaaGreat
open Go.Ab
open Go
set_option maxRecDepth 10000
attribute [local irreducible] PV eR ef AW bg dn ec Ab.Fin ft gI RV jX Le eI fM mg gV kf dz dg
set_option maxHeartbeats 1000000
abbrev ints (xs:List Int):AV:=.cr 1 8 (xs.map AV.int)
abbrev fault (c i:Int):AV:=.agg [.int c,.int i]
def OM (n a b:Int):Bool:=decide (a≤n)&&decide (n≤b)
theorem N3 (n a b:Int):(OM n a b=true)=(a≤n∧n≤b):=by simp [OM]
theorem N4 (n a b:Int):(OM n a b=false)=(n < a∨b < n):=by
 apply propext;unfold OM;simp only [Bool.and_eq_false_iff,decide_eq_false_iff_not];omega
attribute [go_sem] N3 N4
theorem bY {α:Type} [Inhabited α] {l:List α} {k:Nat} (h:k < l.length):l[k]! =l[k]:=getElem!_pos l k h
theorem JN (a b:Int):(a == b)=decide (a=b):=by by_cases h:a=b<;>simp [h]
theorem fq {n k:Nat} {P:(i:Nat)→i < n→Prop} (h:∀ i (hi:i < n),i < k→P i hi) (hk:∀ hi,P k hi):∀ i (hi:i < n),i < k+1→P i hi:=by
 intro i hi hik
 rcases Nat.lt_or_ge i k with h1|h1
 ·exact h i hi h1
 ·obtain rfl:i=k:=by omega
  exact hk hi
theorem JO {α:Type} {p:α→Bool} {xs:List α} {k:Nat} (hn:∀ i (hi:i < xs.length),i < k→p xs[i]=true) (hk:xs.length≤k):xs.all p=true:=by
 rw [List.all_eq_true];intro x hx;obtain ⟨i,hi,rfl⟩:=List.getElem_of_mem hx;exact hn i hi aj
theorem Hd {α:Type} {p:α→Bool} {xs:List α} {k:Nat} (hk:k < xs.length) (h:p xs[k]=false):xs.all p=false:=by
 rw [List.all_eq_false];exact ⟨_,List.getElem_mem hk,by simp [h]⟩
def bD {α:Type} (g:Nat→Option α):Nat→Option α
 |0=>none
 |n+1=>(bD g n).or (g n)
theorem dy {α:Type} {g:Nat→Option α} {k:Nat} (h:bD g k=none) (hk:g k=none):bD g (k+1)=none:=by simp [bD,h,hk]
theorem cQ {α:Type} {g:Nat→Option α} {k n:Nat} {a:α} (h:bD g k=none) (hk:g k=some a) (hn:k < n):bD g n=some a:=by
 induction n with
 |zero=>omega
 |succ n ih=>
  rcases Nat.lt_or_ge k n with h1|h1
  ·simp [bD,ih h1]
  ·obtain rfl:k=n:=by omega
   simp [bD,h,hk]
theorem jm {α:Type} {g:Nat→Option α}:∀ {n:Nat},bD g n=none↔∀ k,k < n→g k=none
 |0=>by simp [bD]
 |n+1=>by
  simp only [bD,Option.or_eq_none_iff,jm (n:=n)]
  constructor
  ·rintro ⟨h1,h2⟩ k hk
   rcases Nat.lt_or_ge k n with h|h
   ·exact h1 k h
   ·obtain rfl:k=n:=by omega
    exact h2
  ·exact fun h=>⟨fun k hk=>h k aj,h n aj⟩
theorem dN {α:Type} {g:Nat→Option α} {n:Nat} {a:α} (h:bD g n=some a):∃ i,i < n∧g i=some a:=by
 induction n with
 |zero=>simp [bD] at h
 |succ n ih=>
  simp only [bD] at h
  cases hq:bD g n with
  |none=>rw [hq] at h;exact ⟨n,by omega,by simpa using h⟩
  |some b=>rw [hq] at h;simp at h;subst h;obtain ⟨i,hi,hg⟩:=ih hq;exact ⟨i,by omega,hg⟩
def hasB (xs:List Int) (n:Int):Bool:=decide (n∈xs)
theorem hZ (xs:List Int) (n:Int):(hasB xs n=true)=(n∈xs):=by simp [hasB]
theorem nK (xs:List Int) (n:Int):(hasB xs n=false)=(¬n∈xs):=by simp [hasB]
def iG (a b:List Int):Bool:=a.all (hasB b)
theorem u9 {a b:List Int}:iG a b=true↔∀ x∈a,x∈b:=by simp [iG,hasB]
def qk (a b:List Int):Bool:=a.all fun x=>!hasB b x
theorem u7 {a b:List Int}:qk a b=true↔∀ x∈a,¬x∈b:=by simp [qk,hasB]
def He (xs:List Int) (n:Int) (i:Nat) (hi:i < xs.length):Prop:=0≤xs[i]∧xs[i] < n∧∀ h:0 < i,xs[i-1] < xs[i]
instance (xs:List Int) (n:Int) (i:Nat) (hi:i < xs.length):Decidable (He xs n i hi):=inferInstanceAs (Decidable (_∧_∧_))
def isSet (xs:List Int) (n:Int):Bool:=decide (∀ i (hi:i < xs.length),He xs n i hi)
theorem cG {xs:List Int} {n:Int}:isSet xs n=true↔(∀ x∈xs,0≤x∧x < n)∧xs.Pairwise (· < ·):=by
 simp only [isSet,decide_eq_true_eq]
 constructor
 ·intro h
  refine ⟨fun x hx=>?_,?_⟩
  ·obtain ⟨i,hi,rfl⟩:=List.getElem_of_mem hx
   exact ⟨(h i hi).1,(h i hi).2.1⟩
  ·rw [List.pairwise_iff_getElem]
   intro i j hi hj hij
   induction j with
   |zero=>omega
   |succ j ih=>
    have h1:=(h (j+1) hj).2.2 aj
    simp only [Nat.add_sub_cancel] at h1
    rcases Nat.lt_or_ge i j with h2|h2
    ·have:=ih aj h2;omega
    ·obtain rfl:i=j:=by omega
     exact h1
 ·rintro ⟨h1,h2⟩ i hi
  have:=h1 _ (List.getElem_mem hi)
  refine ⟨this.1,this.2,fun h=>?_⟩
  exact List.pairwise_iff_getElem.1 h2 (i - 1) i aj hi aj
theorem EK {xs:List Int} {n:Int} {k:Nat} (hn:∀ i (hi:i < xs.length),i < k→He xs n i hi) (hk:xs.length≤k):isSet xs n=true:=by
 simp only [isSet,decide_eq_true_eq];exact fun i hi=>hn i hi aj
theorem Ad {xs:List Int} {n:Int} {k:Nat} (hk:k < xs.length) (h:¬He xs n k hk):isSet xs n=false:=by
 simp only [isSet,decide_eq_false_iff_not];exact fun h2=>h (h2 k hk)
theorem kU (xs:List Int) (n:Int):bg Tryz.prog 129 [ints xs,.int n] (fun r=>r= .bool (isSet xs n)):=by
 (refine bh Tryz.func129 Tryz.ntmps129 ?_)
 (refine cL (i:=0) rfl (fun hb=>?_);(try simp only [List.length_map] at hb))
 (repeat' (first|(refine hK _ ?_;clear hK K)|(refine aM (fun K hK=>?_))|(refine gR ?_;refine aP ?_)|(refine aN ?_)))
 refine bO [4,5,6,9,10,11,12,13,14,15,16,17,18,19,20,21,22,23,24,25,26,27,28,29,30,31,32,33,34] (fun k:Nat=>k≤xs.length∧∀ i (hi:i < xs.length),i < k→He xs n i hi) (fun k=>xs.length - k) (fun k=>[(9,.int k)]) (fun _=>[]) 0 ⟨by omega,by omega⟩ ?_ ?_
 ·(refine cm ?_)
  (exact bd)
 ·rintro k ⟨hk,hn⟩ K hK
  (refine cm ?_)
  by_cases hlt:k < xs.length
  ·have hp1:k - 1 < xs.length:=by omega
   (repeat' (first|(refine hK _ ?_;clear hK K)|(refine aM (fun K hK=>?_))|(refine gR ?_;refine aP ?_)|(refine gE ?_;(first|(refine cc ?_)|(refine dL (fun _=>?_))))|(refine gG ?_;refine cB (fun hc=>?_) (fun hc=>?_)<;>(try (first|contradiction|omega)))|(refine gQ ?_;(first|(refine cf ?_)|(refine bT ?_)|(refine aS (fun hc=>?_) (fun hc=>?_)<;>(try (first|contradiction|omega)))))|(refine aN ?_)|(refine gT ?_;refine aZ ?_)|(refine gS ?_;refine aX ?_)))
   all_goals first
    |((refine aT (Le.refl _) (aQ (aO ab)) af ?_);rw [Ad hlt (fun h=>by have h1:=h.1;have h2:=h.2.1;omega)];done)
    |((refine aT (Le.refl _) (aQ (aO ab)) af ?_);rw [Ad hlt (fun h=>by have h1:=h.2.2 aj;omega)];done)
    |(refine ⟨k+1,⟨by omega,fq hn fun hi=>⟨by omega,by omega,fun h=>by omega⟩⟩,by omega,?_⟩;(refine cm ?_);(exact bd);done)
  ·(repeat' (first|(refine hK _ ?_;clear hK K)|(refine aM (fun K hK=>?_))|(refine gR ?_;refine aP ?_)|(refine gQ ?_;refine aS (fun hc=>?_) (fun hc=>?_)<;>(try (first|contradiction|omega)))|(refine gX ?_;refine bV ?_)|(refine gT ?_;refine aZ ?_)|(apply_assumption (exfalso:=false) (symm:=false))))
   (refine aT (Le.refl _) (aQ (aO ab)) af ?_)
   rw [EK hn aj]
end Go.Proofs.YtkbiagkbmodgdaaGreat
namespace Go.Proofs.YtkbiagkbmodgdaaGreat
open Go.Ab
open Go
set_option maxRecDepth 10000
attribute [local irreducible] PV eR ef AW bg dn ec Ab.Fin ft gI RV jX Le eI fM mg gV kf dz dg
set_option maxHeartbeats 1000000
theorem Hf (n:Int):bg Tryz.prog 214 [.int n] (fun r=>r= .bool false):=by
 (refine bh Tryz.func214 Tryz.ntmps214 ?_)
 (repeat' (first|(refine hK _ ?_;clear hK K)|(refine aM (fun K hK=>?_))|(refine gR ?_;refine aP ?_)|(refine gT ?_;refine aZ ?_)))
 (refine aT (Le.refl _) (aQ (aO ab)) af ?_)
 simp
theorem JP (n:Int):bg Tryz.prog 185 [.int n] (fun r=>r= .bool false):=by
 (refine bh Tryz.func185 Tryz.ntmps185 ?_)
 (repeat' (first|(refine hK _ ?_;clear hK K)|(refine aM (fun K hK=>?_))|(refine gR ?_;refine aP ?_)|(refine gT ?_;refine aZ ?_)))
 (refine aT (Le.refl _) (aQ (aO ab)) af ?_)
 simp
theorem JQ (n m:Int):bg Tryz.prog 184 [.int n,.int m] (fun r=>r= .bool (decide (n < m))):=by
 (refine bh Tryz.func184 Tryz.ntmps184 ?_)
 (repeat' (first|(refine hK _ ?_;clear hK K)|(refine aM (fun K hK=>?_))|(refine gR ?_;refine aP ?_)|(refine gC 214 ?_;refine bp (Hf _) ?_)|(refine gT ?_;refine aZ ?_)))
 (refine aT (Le.refl _) (aQ (aO ab)) af ?_)
 rfl
def Pt (xs:List Int) (x:Int):Nat:=(xs.takeWhile fun y=>decide (y < x)).length
theorem Mg {xs:List Int} {x:Int} {k:Nat} (hk:k≤xs.length) (h1:∀ i (hi:i < xs.length),i < k→xs[i] < x) (h2:∀ i (hi:i < xs.length),k≤i→x≤xs[i]):Pt xs x=k:=by
 unfold Pt
 induction xs generalizing k with
 |nil=>simp at hk;simp [hk]
 |cons y ys ih=>
  cases k with
  |zero=>
   have:=h2 0 ax aj
   simp at this
   rw [List.takeWhile_cons_of_neg (by simpa using this)]
   rfl
  |succ k=>
   have:=h1 0 ax aj
   simp at this
   rw [List.takeWhile_cons_of_pos (by simpa using this),List.length_cons]
   congr 1
   exact ih (by simpa using hk) (fun i hi hik=>h1 (i+1) (by simpa using hi) aj) (fun i hi hik=>h2 (i+1) (by simpa using hi) aj)
@[local go_sem] theorem N5 (i j:Nat):((i:Int)+(j:Int)) / 2=(((i+j) / 2:Nat):Int):=by omega
theorem w4 (xs:List Int) (x:Int) (hs:xs.Pairwise (· < ·)):bg Tryz.prog 136 [ints xs,.int x] (fun r=>r= .dr [.int (Pt xs x),.bool (hasB xs x)]):=by
 have hs':=List.pairwise_iff_getElem.1 hs
 (refine bh Tryz.func136 Tryz.ntmps136 ?_)
 (refine cL (i:=0) rfl (fun hb=>?_);(try simp only [List.length_map] at hb))
 (repeat' (first|(refine hK _ ?_;clear hK K)|(refine aM (fun K hK=>?_))|(refine gR ?_;refine aP ?_)|(refine aN ?_)))
 refine bO [7,8,9,13,14,15,16,17,18,19,20,21,22,23,24,25,26,27,28,29,30] (fun (p:Nat×Nat)=>p.1≤p.2∧p.2≤xs.length∧(∀ i (hi:i < xs.length),i < p.1→xs[i] < x)∧(∀ i (hi:i < xs.length),p.2≤i→x≤xs[i])) (fun p=>p.2 - p.1) (fun p=>[(7,.int p.1),(8,.int p.2)]) (fun _=>[]) (0,xs.length) ⟨by simp,by simp,by simp,by simp;omega⟩ ?_ ?_
 ·(refine cm ?_)
  (exact bd)
 ·rintro ⟨i,j⟩ ⟨hij,hj,h1,h2⟩ K hK
  simp only at hij hj h1 h2
  (refine cm ?_)
  by_cases hlt:i < j
  ·have hm:(i+j) / 2 < xs.length:=by omega
   (repeat' (first|(refine hK _ ?_;clear hK K)|(refine aM (fun K hK=>?_))|(refine gR ?_;refine aP ?_)|(refine gC 184 ?_;refine bp (JQ _ _) ?_)|(refine gE ?_;(first|(refine cc ?_)|(refine dL (fun _=>?_))))|(refine gQ ?_;refine aS (fun hc=>?_) (fun hc=>?_)<;>(try (first|contradiction|omega)))|(refine aN ?_)|(refine gS ?_;refine aX ?_)))
   ·refine ⟨((i+j) / 2+1,j),⟨by simp only;omega,hj,fun k hk hk2=>?_,h2⟩,by simp only;omega,?_⟩
    ·rcases Nat.lt_or_ge k ((i+j) / 2) with h|h
     ·have:=hs' k ((i+j) / 2) hk hm h;omega
     ·obtain rfl:k=(i+j) / 2:=by simp only at hk2;omega
      exact hc
    ·(refine cm ?_)
     (exact bd)
   ·refine ⟨(i,(i+j) / 2),⟨by simp only;omega,by simp only;omega,h1,fun k hk hk2=>?_⟩,by simp only;omega,?_⟩
    ·rcases Nat.lt_or_ge ((i+j) / 2) k with h|h
     ·have:=hs' ((i+j) / 2) k hm hk h;omega
     ·obtain rfl:k=(i+j) / 2:=by simp only at hk2;omega
      omega
    ·(refine cm ?_)
     (exact bd)
  ·obtain rfl:i=j:=by omega
   have e:=Mg hj h1 h2
   have hx:x∈xs↔∃ h:i < xs.length,xs[i]=x:=by
    constructor
    ·intro hm
     obtain ⟨k,hk,rfl⟩:=List.getElem_of_mem hm
     have hk2:¬k < i:=fun h=>by have:=h1 k hk h;omega
     rcases Nat.lt_or_ge i k with h|h
     ·have:=hs' i k aj hk h
      have:=h2 i aj aj
      omega
     ·obtain rfl:i=k:=by omega
      exact ⟨hk,rfl⟩
    ·rintro ⟨h,rfl⟩
     exact List.getElem_mem h
   (repeat' (first|(refine hK _ ?_;clear hK K)|(refine aM (fun K hK=>?_))|(refine gR ?_;refine aP ?_)|(refine gC 185 ?_;refine bp (JP _) ?_)|(refine gE ?_;refine dL (fun _=>?_))|(refine gG ?_;refine cB (fun hc=>?_) (fun hc=>?_)<;>(try (first|contradiction|omega)))|(refine gQ ?_;refine aS (fun hc=>?_) (fun hc=>?_)<;>(try (first|contradiction|omega)))|(refine gX ?_;refine bV ?_)|(refine gT ?_;refine aZ ?_)|(apply_assumption (exfalso:=false) (symm:=false))))
   all_goals (refine aT (Le.refl _) (dx (aO ab) (aO ab)) af ?_)
   all_goals rw [e]
   ·rw [show hasB xs x=true by rw [hZ];exact hx.2 ⟨by omega,hc⟩]
   ·rw [show hasB xs x=false by rw [nK];exact fun h=>hc (hx.1 h).2]
   ·rw [show hasB xs x=false by rw [nK];exact fun h=>by have:=(hx.1 h).1;omega]
def mc {α:Type} (p:α→Bool) (xs:List α):Int:=match xs.findIdx? p with|some i=>(i:Int)|none=>-1
theorem ib {α:Type} {p:α→Bool} {xs:List α} {k:Nat} (hk:k < xs.length) (h:p xs[k]=true) (hn:∀ i (hi:i < xs.length),i < k→p xs[i]=false):mc p xs=k:=by
 have:xs.findIdx? p=some k:=by
  rw [List.findIdx?_eq_some_iff_getElem]
  exact ⟨hk,h,fun j hj=>by simp [hn j aj hj]⟩
 simp [mc,this]
theorem fR {α:Type} {p:α→Bool} {xs:List α} (hn:∀ i (hi:i < xs.length),p xs[i]=false):mc p xs= -1:=by
 have:xs.findIdx? p=none:=by
  rw [List.findIdx?_eq_none_iff]
  intro x hx
  obtain ⟨i,hi,rfl⟩:=List.getElem_of_mem hx
  exact hn i hi
 simp [mc,this]
theorem iI {α:Type} (p:α→Bool) (xs:List α):decide (0≤mc p xs)=xs.any p:=by
 unfold mc
 cases h:xs.findIdx? p with
 |none=>
  rw [List.findIdx?_eq_none_iff] at h
  have:xs.any p=false:=by rw [List.any_eq_false];intro x hx;simp [h x hx]
  simp [this]
 |some k=>
  rw [List.findIdx?_eq_some_iff_getElem] at h
  obtain ⟨hk,hp,_⟩:=h
  have:xs.any p=true:=List.any_eq_true.2 ⟨_,List.getElem_mem hk,hp⟩
  simp [this]
def dt (f:FuncId) (caps:List AV) {α:Type} (e:α→AV) (p:α→Bool) (xs:List α):Prop:=∀ x∈xs,bg Tryz.prog f ([e x]++caps) (fun r=>r= .bool (p x))
theorem yk (xs:List Int) (f:FuncId) [cS Tryz.prog f] (caps:List AV) (hcap:AV.cj caps=true) (p:Int→Bool) (h:dt f caps AV.int p xs):bg Tryz.prog 117 [ints xs,.fn f caps] (fun r=>r= .int (mc p xs)):=by
 (refine bh Tryz.func117 Tryz.ntmps117 ?_)
 (refine cL (i:=0) rfl (fun hb=>?_);(try simp only [List.length_map] at hb))
 (repeat' (first|(refine hK _ ?_;clear hK K)|(refine aM (fun K hK=>?_))|(refine gR ?_;refine aP ?_)|(refine aN ?_)))
 refine bO [4,5,8,9,10,11,12,13,14,15,16,17,18] (fun k:Nat=>k≤xs.length∧∀ i (hi:i < xs.length),i < k→p xs[i]=false) (fun k=>xs.length - k) (fun k=>[(8,.int k)]) (fun _=>[]) 0 ⟨by omega,by omega⟩ ?_ ?_
 ·(refine cm ?_)
  (exact bd)
 ·rintro k ⟨hk,hn⟩ K hK
  (refine cm ?_)
  by_cases hlt:k < xs.length
  ·cases hp:p xs[k]
   ·(repeat' (first|(refine hK _ ?_;clear hK K)|(refine aM (fun K hK=>?_))|(refine gR ?_;refine aP ?_)|(refine bn (fun K hK=>?_);refine gA ab (h xs[k] (List.getElem_mem hlt)) (by simp [cn,St.eval,AV.cj,AV.fm,hcap]) (fun x hx=>?_);rw [hp] at hx;subst hx)|(refine gE ?_;(first|(refine cc ?_)|(refine dL (fun _=>?_))))|(refine gQ ?_;(first|(refine bT ?_)|(refine aS (fun hc=>?_) (fun hc=>?_)<;>(try (first|contradiction|omega)))))|(refine aN ?_)|(refine gS ?_;refine aX ?_)))
    refine ⟨k+1,⟨by omega,fun i hi hik=>?_⟩,by omega,?_⟩
    ·rcases Nat.lt_or_ge i k with h'|h'
     ·exact hn i hi h'
     ·obtain rfl:i=k:=by omega
      exact hp
    ·(refine cm ?_)
     (exact bd)
   ·(repeat' (first|(refine hK _ ?_;clear hK K)|(refine aM (fun K hK=>?_))|(refine gR ?_;refine aP ?_)|(refine bn (fun K hK=>?_);refine gA ab (h xs[k] (List.getElem_mem hlt)) (by simp [cn,St.eval,AV.cj,AV.fm,hcap]) (fun x hx=>?_);rw [hp] at hx;subst hx)|(refine gE ?_;refine dL (fun _=>?_))|(refine gQ ?_;(first|(refine cf ?_)|(refine aS (fun hc=>?_) (fun hc=>?_)<;>(try (first|contradiction|omega)))))|(refine aN ?_)|(refine gT ?_;refine aZ ?_)|(refine gS ?_;refine aX ?_)))
    (refine aT (Le.refl _) (aQ (aO ab)) af ?_)
    rw [ib hlt hp hn]
  ·(repeat' (first|(refine hK _ ?_;clear hK K)|(refine aM (fun K hK=>?_))|(refine gR ?_;refine aP ?_)|(refine gQ ?_;refine aS (fun hc=>?_) (fun hc=>?_)<;>(try (first|contradiction|omega)))|(refine gX ?_;refine bV ?_)|(refine gT ?_;refine aZ ?_)|(apply_assumption (exfalso:=false) (symm:=false))))
   (refine aT (Le.refl _) (aQ (aO ab)) af ?_)
   rw [fR fun i hi=>hn i hi aj]
theorem nT (xs:List Int) (f:FuncId) [cS Tryz.prog f] (caps:List AV) (hcap:AV.cj caps=true) (p:Int→Bool) (h:dt f caps AV.int p xs):bg Tryz.prog 55 [ints xs,.fn f caps] (fun r=>r= .bool (xs.any p)):=by
 (refine bh Tryz.func55 Tryz.ntmps55 ?_)
 (repeat' (first|(refine hK _ ?_;clear hK K)|(refine aM (fun K hK=>?_))|(refine gR ?_;refine aP ?_)|(refine bn (fun K hK=>?_);refine cH (yk xs f caps hcap p h) (by simp [cn,St.eval,AV.cj,AV.fm,hcap]) (fun x hx=>?_);subst hx)|(refine gT ?_;refine aZ ?_)))
 (refine aT (Le.refl _) (aQ (aO ab)) af ?_)
 rw [iI]
theorem EL (b:List Int) (hs:b.Pairwise (· < ·)) (a:List Int):dt 135 [.bx [ints b]] AV.int (hasB b) a:=by
 intro x hx
 (refine bh Tryz.func135 Tryz.ntmps135 ?_)
 (repeat' (first|(refine hK _ ?_;clear hK K)|(refine aM (fun K hK=>?_))|(refine gR ?_;refine aP ?_)|(refine gC 136 ?_;refine bp (w4 _ _ az) ?_)|(refine gT ?_;refine aZ ?_)))
 (refine aT (Le.refl _) (aQ (aO ab)) af ?_)
 rfl
theorem JR (a b:List Int):a.any (hasB b)= !qk a b:=by
 rw [Bool.eq_iff_iff]
 simp [qk]
theorem Hc (a b:List Int) (hs:b.Pairwise (· < ·)):bg Tryz.prog 66 [ints a,ints b] (fun r=>r= .bool (!qk a b)):=by
 (refine bh Tryz.func66 Tryz.ntmps66 ?_)
 (repeat' (first|(refine hK _ ?_;clear hK K)|(refine aM (fun K hK=>?_))|(refine gR ?_;refine aP ?_)|(refine gC 55 ?_;refine bp (nT _ 135 [.bx [ints _]] rfl _ (EL _ az _)) ?_)|(refine bn (fun K hK=>?_);refine fD (bQ 3 rfl rfl rfl) ?_;simp only [go_sem,seval];refine bK cD ?_)|(refine gT ?_;refine aZ ?_)))
 (refine aT (Le.refl _) (aQ (aO ab)) af ?_)
 rw [JR]
theorem BS (xs:List Int):dn Tryz.prog 147 [ints xs] [5] (fun x hp=>x= .sl 1 8 5 0 xs.length∧hp=[(5,⟨3,xs.map AV.int,false⟩)]):=by
 (refine Ln Tryz.func147 Tryz.ntmps147 ?_)
 (refine cL (i:=0) rfl (fun hb=>?_);(try simp only [List.length_map] at hb))
 (repeat' (first|(refine hK _ ?_;clear hK K)|(refine aM (fun K hK=>?_))|(refine gR ?_;refine aP ?_)|(refine bn (fun K hK=>?_);(first|(refine wC ab (fun b hnil=>?_);cases b)|(refine cF ?_)))|(refine gQ ?_;(first|(refine cf ?_)|(refine bT ?_)))|(refine gT ?_;refine aZ ?_)|(refine gS ?_;refine aX ?_)))
 ·simp only [mw (f:=AV.int) (fun _=>rfl)]
  refine Cc rfl ab ab (dK AV.int xs fun _=>rfl) ⟨by simp,rfl⟩
 ·have h0:xs=[]:=by simpa using hnil rfl
  subst h0
  refine Ix (xC 2 5 1 8 3 rfl rfl) (Cc rfl ab ab rfl ⟨rfl,rfl⟩)
theorem pd (m:Nat) (xs:List Int):dn Tryz.prog 147 [ints xs] [5+m] (fun x hp=>x= .sl 1 8 (5+m) 0 xs.length∧hp=[(5+m,⟨3,xs.map AV.int,false⟩)]):=
 (BS xs).n9 m fun x hp ⟨h1,h2⟩=>by subst h1;subst h2;exact ⟨rfl,by simp only [lA,Fg (dK AV.int xs fun _=>rfl)]⟩
theorem cP (xs:List Int):bg Tryz.prog 147 [ints xs] (fun r=>r=ints xs):=by
 (refine bh Tryz.func147 Tryz.ntmps147 ?_)
 (refine cL (i:=0) rfl (fun hb=>?_);(try simp only [List.length_map] at hb))
 (repeat' (first|(refine hK _ ?_;clear hK K)|(refine aM (fun K hK=>?_))|(refine gR ?_;refine aP ?_)|(refine bn (fun K hK=>?_);(first|(refine wC ab (fun b hnil=>?_);cases b)|(refine cF ?_)))|(refine gQ ?_;(first|(refine cf ?_)|(refine bT ?_)))|(refine gT ?_;refine aZ ?_)|(refine gS ?_;refine aX ?_)))
 ·simp only [mw (f:=AV.int) (fun _=>rfl)]
  refine oT xs rfl ab ab ax (fun _=>rfl) (fun _=>rfl) rfl
 ·have h0:xs=[]:=by simpa using hnil rfl
  subst h0
  refine aT (Iy 2 1 8 rfl) (aQ (aO ab)) ab rfl
end Go.Proofs.YtkbiagkbmodgdaaGreat
namespace Go.Proofs.YtkbiagkbmodgdaaGreat
open Go.Ab
open Go
set_option maxRecDepth 10000
attribute [local irreducible] dE fh mC lW db PV eR ef AW bg dn ec dP Ab.Fin ft en gI RV jX Le eI fM mg gV kf dz dg
set_option maxHeartbeats 4000000
structure l8 where
 b:ByteArray
 h:b.size≤140737488355328
abbrev str (s:l8):AV:=.v (.string s.b)
structure bB where
 p:Int
 a:List Int
structure cz where
 neg:Bool
 x:bB
structure jT where
 name:l8
 ts:List Int
structure gJ where
 name:l8
 ts:List Int
 diff:List (Int×Int)
 pre:List cz
 add:List bB
 del:List bB
 cost:Int
structure dB where
 types:List (l8×Int)
 dT:List (l8×Int)
 cC:List jT
 eh:List gJ
 init:List bB
 goal:List cz
abbrev Iq (x:l8×Int):AV:=.agg [str x.1,.int x.2]
abbrev bB.av (x:bB):AV:=.agg [.int x.p,ints x.a]
abbrev cz.av (x:cz):AV:=.agg [.bool x.neg,.int x.x.p,ints x.x.a]
abbrev jT.av (x:jT):AV:=.agg [str x.name,ints x.ts]
abbrev L1 (x:Int×Int):AV:=.agg [.int x.1,.int x.2]
abbrev fT (l:List (l8×Int)):AV:=.cr 2 24 (l.map Iq)
abbrev cZ (l:List bB):AV:=.cr 2 32 (l.map bB.av)
abbrev dM (l:List cz):AV:=.cr 3 40 (l.map cz.av)
abbrev fi (l:List jT):AV:=.cr 2 40 (l.map jT.av)
abbrev vp (l:List (Int×Int)):AV:=.cr 2 16 (l.map L1)
abbrev gJ.av (s:gJ):AV:=.agg [str s.name,ints s.ts,vp s.diff,dM s.pre,cZ s.add,cZ s.del,.int s.cost]
abbrev jn (l:List gJ):AV:=.cr 7 144 (l.map gJ.av)
abbrev dB.cs (d:dB):List AV:=[fT d.types,fT d.dT,fi d.cC,jn d.eh,cZ d.init,dM d.goal]
abbrev dB.av (d:dB):AV:=.agg d.cs
def JS (i c:Nat):Bool:=(decide (97≤c)&&decide (c≤122))|| (decide (0 < i)&&((decide (48≤c)&&decide (c≤57))|| decide (c=45)))
def JT (b:ByteArray) (i:Nat):Nat:=if h:i < b.size then b[i].toNat else 0
theorem Mh {b:ByteArray} {i:Nat} (h:i < b.size):b[i].toNat=JT b i:=by simp [JT,h]
def tj (s:l8):Bool:=((List.range s.b.size).all fun i=>JS i (JT s.b i))&&decide (1≤s.b.size)&&decide (s.b.size≤12)
theorem N6 (i c:Nat):(JS i c=true)=((97≤c∧c≤122)∨(0 < i∧((48≤c∧c≤57)∨c=45))):=by simp [JS]
theorem pe (s:l8):bg Tryz.prog 226 [str s] (fun r=>r= .bool (tj s)):=by
 obtain ⟨b,hb⟩:=s
 (refine bh Tryz.func226 Tryz.ntmps226 ?_)
 (repeat' (first|(refine hK _ ?_;clear hK K)|(refine aM (fun K hK=>?_))|(refine gR ?_;refine aP ?_)|(refine aN ?_)))
 refine bO [2,3,4,7,8,9,10,11,12,13,14,15,16,17,18,19,20,21,22,23,24,25,26,27,28,29,30,31,32,33,34,35,36] (fun k:Nat=>k≤b.size∧∀ i,i < k→JS i (JT b i)=true) (fun k=>b.size - k) (fun k=>[(7,.int k)]) (fun _=>[]) 0 ⟨by omega,by omega⟩ ?_ ?_
 ·(refine cm ?_)
  (exact bd)
 ·rintro k ⟨hk,hn⟩ K hK
  (refine cm ?_)
  by_cases hlt:k < b.size
  ·have hs:JS k (JT b k)=true→∀ i,i < k+1→JS i (JT b i)=true:=fun h i hi=>by
    rcases Nat.lt_or_ge i k with h1|h1
    ·exact hn i h1
    ·obtain rfl:i=k:=by omega
     exact h
   have hno:¬JS k (JT b k)=true→tj ⟨b,hb⟩=false:=fun h=>by
    have:((List.range b.size).all fun i=>JS i (JT b i))=false:=by
     rw [List.all_eq_false];exact ⟨k,List.mem_range.2 hlt,h⟩
    simp [tj,this]
   rw [N6,← Mh hlt] at hs hno
   (repeat' (first|(refine hK _ ?_;clear hK K)|(refine aM (fun K hK=>?_))|(refine gR ?_;refine aP ?_)|(refine gE ?_;(first|(refine cc ?_)|(refine dL (fun _=>?_))))|(refine gG ?_;refine cB (fun hc=>?_) (fun hc=>?_)<;>(try (first|contradiction|omega)))|(refine gQ ?_;(first|(refine cf ?_)|(refine bT ?_)|(refine aS (fun hc=>?_) (fun hc=>?_)<;>(try (first|contradiction|omega)))))|(refine aN ?_)|(refine gT ?_;refine aZ ?_)|(refine gS ?_;refine aX ?_)))
   all_goals first
    |(refine ⟨k+1,⟨by omega,hs aj⟩,by omega,?_⟩;(refine cm ?_);(exact bd))
    |((refine aT (Le.refl _) (aQ (aO ab)) af ?_);rw [hno aj])
  ·have hall:((List.range b.size).all fun i=>JS i (JT b i))=true:=by
    rw [List.all_eq_true];exact fun i hi=>hn i (by have:=List.mem_range.1 hi;omega)
   (repeat' (first|(refine hK _ ?_;clear hK K)|(refine aM (fun K hK=>?_))|(refine gR ?_;refine aP ?_)|(refine gG ?_;refine cB (fun hc=>?_) (fun hc=>?_)<;>(try (first|contradiction|omega)))|(refine gQ ?_;refine aS (fun hc=>?_) (fun hc=>?_)<;>(try (first|contradiction|omega)))|(refine gX ?_;refine bV ?_)|(refine gT ?_;refine aZ ?_)|(apply_assumption (exfalso:=false) (symm:=false))))
   all_goals (refine aT (Le.refl _) (aQ (aO ab)) af ?_)
   all_goals (simp only [tj,hall,Bool.true_and])
   ·have h1:1≤b.size:=by omega
    by_cases h2:b.size≤12
    ·have h3:(b.size:Int)≤12:=by omega
     simp [h1,h2,h3]
    ·have h3:¬(b.size:Int)≤12:=by omega
     simp [h1,h2,h3]
   ·have h1:¬1≤b.size:=by omega
    simp [h1]
theorem JU (xs:List (l8×Int)) (f:FuncId) [cS Tryz.prog f] (caps:List AV) (hcap:AV.cj caps=true) (p:(l8×Int)→Bool) (h:dt f caps Iq p xs):bg Tryz.prog 262 [fT xs,.fn f caps] (fun r=>r= .int (mc p xs)):=by
 (refine bh Tryz.func262 Tryz.ntmps262 ?_)
 (refine cL (i:=0) rfl (fun hb=>?_);(try simp only [List.length_map] at hb))
 (repeat' (first|(refine hK _ ?_;clear hK K)|(refine aM (fun K hK=>?_))|(refine gR ?_;refine aP ?_)|(refine aN ?_)))
 refine bO [4,5,8,9,10,11,12,13,14,15,16,17,18] (fun k:Nat=>k≤xs.length∧∀ i (hi:i < xs.length),i < k→p xs[i]=false) (fun k=>xs.length - k) (fun k=>[(8,.int k)]) (fun _=>[]) 0 ⟨by omega,by omega⟩ ?_ ?_
 ·(refine cm ?_)
  (exact bd)
 ·rintro k ⟨hk,hn⟩ K hK
  (refine cm ?_)
  by_cases hlt:k < xs.length
  ·(repeat' (first|(refine hK _ ?_;clear hK K)|(refine aM (fun K hK=>?_))|(refine gR ?_;refine aP ?_)|(refine bn (fun K hK=>?_);refine gA ab (h xs[k] (List.getElem_mem hlt)) (by simp [cn,St.eval,AV.cj,AV.fm,hcap]) (fun x hx=>?_);subst hx)|(refine gE ?_;(first|(refine cc ?_)|(refine dL (fun _=>?_))))|(refine gQ ?_;refine aS (fun hc=>?_) (fun hc=>?_)<;>(try (first|contradiction|omega)))|(refine gW ?_;refine bN ?_)|(refine aN ?_)|(refine gT ?_;refine aZ ?_)|(refine gS ?_;refine aX ?_)))
   ·(refine aT (Le.refl _) (aQ (aO ab)) af ?_)
    rw [ib hlt hc hn]
   ·refine ⟨k+1,⟨by omega,fq hn fun _=>hc⟩,by omega,?_⟩
    (refine cm ?_)
    (exact bd)
  ·(repeat' (first|(refine hK _ ?_;clear hK K)|(refine aM (fun K hK=>?_))|(refine gR ?_;refine aP ?_)|(refine gQ ?_;refine aS (fun hc=>?_) (fun hc=>?_)<;>(try (first|contradiction|omega)))|(refine gX ?_;refine bV ?_)|(refine gT ?_;refine aZ ?_)|(apply_assumption (exfalso:=false) (symm:=false))))
   (refine aT (Le.refl _) (aQ (aO ab)) af ?_)
   rw [fR fun i hi=>hn i hi aj]
theorem Hg (xs:List (l8×Int)) (f:FuncId) [cS Tryz.prog f] (caps:List AV) (hcap:AV.cj caps=true) (p:(l8×Int)→Bool) (h:dt f caps Iq p xs):bg Tryz.prog 227 [fT xs,.fn f caps] (fun r=>r= .bool (xs.any p)):=by
 (refine bh Tryz.func227 Tryz.ntmps227 ?_)
 (repeat' (first|(refine hK _ ?_;clear hK K)|(refine aM (fun K hK=>?_))|(refine gR ?_;refine aP ?_)|(refine bn (fun K hK=>?_);refine cH (JU xs f caps hcap p h) (by simp [cn,St.eval,AV.cj,AV.fm,hcap]) (fun x hx=>?_);subst hx)|(refine gW ?_;refine bN ?_)|(refine gT ?_;refine aZ ?_)))
 (refine aT (Le.refl _) (aQ (aO ab)) af ?_)
 rw [iI]
theorem JV (xs:List (l8×Int)) (f:FuncId) [cS Tryz.prog f] (caps:List AV) (hcap:AV.cj caps=true) (p:(l8×Int)→Bool) (h:dt f caps Iq p xs):bg Tryz.prog 263 [fT xs,.fn f caps] (fun r=>r= .int (mc p xs)):=by
 (refine bh Tryz.func263 Tryz.ntmps263 ?_)
 (refine cL (i:=0) rfl (fun hb=>?_);(try simp only [List.length_map] at hb))
 (repeat' (first|(refine hK _ ?_;clear hK K)|(refine aM (fun K hK=>?_))|(refine gR ?_;refine aP ?_)|(refine aN ?_)))
 refine bO [4,5,8,9,10,11,12,13,14,15,16,17,18] (fun k:Nat=>k≤xs.length∧∀ i (hi:i < xs.length),i < k→p xs[i]=false) (fun k=>xs.length - k) (fun k=>[(8,.int k)]) (fun _=>[]) 0 ⟨by omega,by omega⟩ ?_ ?_
 ·(refine cm ?_)
  (exact bd)
 ·rintro k ⟨hk,hn⟩ K hK
  (refine cm ?_)
  by_cases hlt:k < xs.length
  ·(repeat' (first|(refine hK _ ?_;clear hK K)|(refine aM (fun K hK=>?_))|(refine gR ?_;refine aP ?_)|(refine bn (fun K hK=>?_);refine gA ab (h xs[k] (List.getElem_mem hlt)) (by simp [cn,St.eval,AV.cj,AV.fm,hcap]) (fun x hx=>?_);subst hx)|(refine gE ?_;(first|(refine cc ?_)|(refine dL (fun _=>?_))))|(refine gQ ?_;refine aS (fun hc=>?_) (fun hc=>?_)<;>(try (first|contradiction|omega)))|(refine gW ?_;refine bN ?_)|(refine aN ?_)|(refine gT ?_;refine aZ ?_)|(refine gS ?_;refine aX ?_)))
   ·(refine aT (Le.refl _) (aQ (aO ab)) af ?_)
    rw [ib hlt hc hn]
   ·refine ⟨k+1,⟨by omega,fq hn fun _=>hc⟩,by omega,?_⟩
    (refine cm ?_)
    (exact bd)
  ·(repeat' (first|(refine hK _ ?_;clear hK K)|(refine aM (fun K hK=>?_))|(refine gR ?_;refine aP ?_)|(refine gQ ?_;refine aS (fun hc=>?_) (fun hc=>?_)<;>(try (first|contradiction|omega)))|(refine gX ?_;refine bV ?_)|(refine gT ?_;refine aZ ?_)|(apply_assumption (exfalso:=false) (symm:=false))))
   (refine aT (Le.refl _) (aQ (aO ab)) af ?_)
   rw [fR fun i hi=>hn i hi aj]
theorem Hh (xs:List (l8×Int)) (f:FuncId) [cS Tryz.prog f] (caps:List AV) (hcap:AV.cj caps=true) (p:(l8×Int)→Bool) (h:dt f caps Iq p xs):bg Tryz.prog 229 [fT xs,.fn f caps] (fun r=>r= .bool (xs.any p)):=by
 (refine bh Tryz.func229 Tryz.ntmps229 ?_)
 (repeat' (first|(refine hK _ ?_;clear hK K)|(refine aM (fun K hK=>?_))|(refine gR ?_;refine aP ?_)|(refine bn (fun K hK=>?_);refine cH (JV xs f caps hcap p h) (by simp [cn,St.eval,AV.cj,AV.fm,hcap]) (fun x hx=>?_);subst hx)|(refine gW ?_;refine bN ?_)|(refine gT ?_;refine aZ ?_)))
 (refine aT (Le.refl _) (aQ (aO ab)) af ?_)
 rw [iI]
theorem JW (xs:List jT) (f:FuncId) [cS Tryz.prog f] (caps:List AV) (hcap:AV.cj caps=true) (p:jT→Bool) (h:dt f caps jT.av p xs):bg Tryz.prog 264 [fi xs,.fn f caps] (fun r=>r= .int (mc p xs)):=by
 (refine bh Tryz.func264 Tryz.ntmps264 ?_)
 (refine cL (i:=0) rfl (fun hb=>?_);(try simp only [List.length_map] at hb))
 (repeat' (first|(refine hK _ ?_;clear hK K)|(refine aM (fun K hK=>?_))|(refine gR ?_;refine aP ?_)|(refine aN ?_)))
 refine bO [4,5,8,9,10,11,12,13,14,15,16,17,18] (fun k:Nat=>k≤xs.length∧∀ i (hi:i < xs.length),i < k→p xs[i]=false) (fun k=>xs.length - k) (fun k=>[(8,.int k)]) (fun _=>[]) 0 ⟨by omega,by omega⟩ ?_ ?_
 ·(refine cm ?_)
  (exact bd)
 ·rintro k ⟨hk,hn⟩ K hK
  (refine cm ?_)
  by_cases hlt:k < xs.length
  ·(repeat' (first|(refine hK _ ?_;clear hK K)|(refine aM (fun K hK=>?_))|(refine gR ?_;refine aP ?_)|(refine bn (fun K hK=>?_);refine gA ab (h xs[k] (List.getElem_mem hlt)) (by simp [cn,St.eval,AV.cj,AV.fm,hcap]) (fun x hx=>?_);subst hx)|(refine gE ?_;(first|(refine cc ?_)|(refine dL (fun _=>?_))))|(refine gQ ?_;refine aS (fun hc=>?_) (fun hc=>?_)<;>(try (first|contradiction|omega)))|(refine gW ?_;refine bN ?_)|(refine aN ?_)|(refine gT ?_;refine aZ ?_)|(refine gS ?_;refine aX ?_)))
   ·(refine aT (Le.refl _) (aQ (aO ab)) af ?_)
    rw [ib hlt hc hn]
   ·refine ⟨k+1,⟨by omega,fq hn fun _=>hc⟩,by omega,?_⟩
    (refine cm ?_)
    (exact bd)
  ·(repeat' (first|(refine hK _ ?_;clear hK K)|(refine aM (fun K hK=>?_))|(refine gR ?_;refine aP ?_)|(refine gQ ?_;refine aS (fun hc=>?_) (fun hc=>?_)<;>(try (first|contradiction|omega)))|(refine gX ?_;refine bV ?_)|(refine gT ?_;refine aZ ?_)|(apply_assumption (exfalso:=false) (symm:=false))))
   (refine aT (Le.refl _) (aQ (aO ab)) af ?_)
   rw [fR fun i hi=>hn i hi aj]
theorem Hi (xs:List jT) (f:FuncId) [cS Tryz.prog f] (caps:List AV) (hcap:AV.cj caps=true) (p:jT→Bool) (h:dt f caps jT.av p xs):bg Tryz.prog 231 [fi xs,.fn f caps] (fun r=>r= .bool (xs.any p)):=by
 (refine bh Tryz.func231 Tryz.ntmps231 ?_)
 (repeat' (first|(refine hK _ ?_;clear hK K)|(refine aM (fun K hK=>?_))|(refine gR ?_;refine aP ?_)|(refine bn (fun K hK=>?_);refine cH (JW xs f caps hcap p h) (by simp [cn,St.eval,AV.cj,AV.fm,hcap]) (fun x hx=>?_);subst hx)|(refine gW ?_;refine bN ?_)|(refine gT ?_;refine aZ ?_)))
 (refine aT (Le.refl _) (aQ (aO ab)) af ?_)
 rw [iI]
theorem JX (xs:List gJ) (f:FuncId) [cS Tryz.prog f] (caps:List AV) (hcap:AV.cj caps=true) (p:gJ→Bool) (h:dt f caps gJ.av p xs):bg Tryz.prog 266 [jn xs,.fn f caps] (fun r=>r= .int (mc p xs)):=by
 (refine bh Tryz.func266 Tryz.ntmps266 ?_)
 (refine cL (i:=0) rfl (fun hb=>?_);(try simp only [List.length_map] at hb))
 (repeat' (first|(refine hK _ ?_;clear hK K)|(refine aM (fun K hK=>?_))|(refine gR ?_;refine aP ?_)|(refine aN ?_)))
 refine bO [4,5,8,9,10,11,12,13,14,15,16,17,18] (fun k:Nat=>k≤xs.length∧∀ i (hi:i < xs.length),i < k→p xs[i]=false) (fun k=>xs.length - k) (fun k=>[(8,.int k)]) (fun _=>[]) 0 ⟨by omega,by omega⟩ ?_ ?_
 ·(refine cm ?_)
  (exact bd)
 ·rintro k ⟨hk,hn⟩ K hK
  (refine cm ?_)
  by_cases hlt:k < xs.length
  ·(repeat' (first|(refine hK _ ?_;clear hK K)|(refine aM (fun K hK=>?_))|(refine gR ?_;refine aP ?_)|(refine bn (fun K hK=>?_);refine gA ab (h xs[k] (List.getElem_mem hlt)) (by simp [cn,St.eval,AV.cj,AV.fm,hcap]) (fun x hx=>?_);subst hx)|(refine gE ?_;(first|(refine cc ?_)|(refine dL (fun _=>?_))))|(refine gQ ?_;refine aS (fun hc=>?_) (fun hc=>?_)<;>(try (first|contradiction|omega)))|(refine gW ?_;refine bN ?_)|(refine aN ?_)|(refine gT ?_;refine aZ ?_)|(refine gS ?_;refine aX ?_)))
   ·(refine aT (Le.refl _) (aQ (aO ab)) af ?_)
    rw [ib hlt hc hn]
   ·refine ⟨k+1,⟨by omega,fq hn fun _=>hc⟩,by omega,?_⟩
    (refine cm ?_)
    (exact bd)
  ·(repeat' (first|(refine hK _ ?_;clear hK K)|(refine aM (fun K hK=>?_))|(refine gR ?_;refine aP ?_)|(refine gQ ?_;refine aS (fun hc=>?_) (fun hc=>?_)<;>(try (first|contradiction|omega)))|(refine gX ?_;refine bV ?_)|(refine gT ?_;refine aZ ?_)|(apply_assumption (exfalso:=false) (symm:=false))))
   (refine aT (Le.refl _) (aQ (aO ab)) af ?_)
   rw [fR fun i hi=>hn i hi aj]
theorem Hj (xs:List gJ) (f:FuncId) [cS Tryz.prog f] (caps:List AV) (hcap:AV.cj caps=true) (p:gJ→Bool) (h:dt f caps gJ.av p xs):bg Tryz.prog 234 [jn xs,.fn f caps] (fun r=>r= .bool (xs.any p)):=by
 (refine bh Tryz.func234 Tryz.ntmps234 ?_)
 (repeat' (first|(refine hK _ ?_;clear hK K)|(refine aM (fun K hK=>?_))|(refine gR ?_;refine aP ?_)|(refine bn (fun K hK=>?_);refine cH (JX xs f caps hcap p h) (by simp [cn,St.eval,AV.cj,AV.fm,hcap]) (fun x hx=>?_);subst hx)|(refine gW ?_;refine bN ?_)|(refine gT ?_;refine aZ ?_)))
 (refine aT (Le.refl _) (aQ (aO ab)) af ?_)
 rw [iI]
theorem JY (xs:List bB) (f:FuncId) [cS Tryz.prog f] (caps:List AV) (hcap:AV.cj caps=true) (p:bB→Bool) (h:dt f caps bB.av p xs):bg Tryz.prog 213 [cZ xs,.fn f caps] (fun r=>r= .int (mc p xs)):=by
 (refine bh Tryz.func213 Tryz.ntmps213 ?_)
 (refine cL (i:=0) rfl (fun hb=>?_);(try simp only [List.length_map] at hb))
 (repeat' (first|(refine hK _ ?_;clear hK K)|(refine aM (fun K hK=>?_))|(refine gR ?_;refine aP ?_)|(refine aN ?_)))
 refine bO [4,5,8,9,10,11,12,13,14,15,16,17,18] (fun k:Nat=>k≤xs.length∧∀ i (hi:i < xs.length),i < k→p xs[i]=false) (fun k=>xs.length - k) (fun k=>[(8,.int k)]) (fun _=>[]) 0 ⟨by omega,by omega⟩ ?_ ?_
 ·(refine cm ?_)
  (exact bd)
 ·rintro k ⟨hk,hn⟩ K hK
  (refine cm ?_)
  by_cases hlt:k < xs.length
  ·(repeat' (first|(refine hK _ ?_;clear hK K)|(refine aM (fun K hK=>?_))|(refine gR ?_;refine aP ?_)|(refine bn (fun K hK=>?_);refine gA ab (h xs[k] (List.getElem_mem hlt)) (by simp [cn,St.eval,AV.cj,AV.fm,hcap]) (fun x hx=>?_);subst hx)|(refine gE ?_;(first|(refine cc ?_)|(refine dL (fun _=>?_))))|(refine gQ ?_;refine aS (fun hc=>?_) (fun hc=>?_)<;>(try (first|contradiction|omega)))|(refine gW ?_;refine bN ?_)|(refine aN ?_)|(refine gT ?_;refine aZ ?_)|(refine gS ?_;refine aX ?_)))
   ·(refine aT (Le.refl _) (aQ (aO ab)) af ?_)
    rw [ib hlt hc hn]
   ·refine ⟨k+1,⟨by omega,fq hn fun _=>hc⟩,by omega,?_⟩
    (refine cm ?_)
    (exact bd)
  ·(repeat' (first|(refine hK _ ?_;clear hK K)|(refine aM (fun K hK=>?_))|(refine gR ?_;refine aP ?_)|(refine gQ ?_;refine aS (fun hc=>?_) (fun hc=>?_)<;>(try (first|contradiction|omega)))|(refine gX ?_;refine bV ?_)|(refine gT ?_;refine aZ ?_)|(apply_assumption (exfalso:=false) (symm:=false))))
   (refine aT (Le.refl _) (aQ (aO ab)) af ?_)
   rw [fR fun i hi=>hn i hi aj]
theorem zV (xs:List bB) (f:FuncId) [cS Tryz.prog f] (caps:List AV) (hcap:AV.cj caps=true) (p:bB→Bool) (h:dt f caps bB.av p xs):bg Tryz.prog 165 [cZ xs,.fn f caps] (fun r=>r= .bool (xs.any p)):=by
 (refine bh Tryz.func165 Tryz.ntmps165 ?_)
 (repeat' (first|(refine hK _ ?_;clear hK K)|(refine aM (fun K hK=>?_))|(refine gR ?_;refine aP ?_)|(refine bn (fun K hK=>?_);refine cH (JY xs f caps hcap p h) (by simp [cn,St.eval,AV.cj,AV.fm,hcap]) (fun x hx=>?_);subst hx)|(refine gW ?_;refine bN ?_)|(refine gT ?_;refine aZ ?_)))
 (refine aT (Le.refl _) (aQ (aO ab)) af ?_)
 rw [iI]
theorem JZ (xs:List cz) (f:FuncId) [cS Tryz.prog f] (caps:List AV) (hcap:AV.cj caps=true) (p:cz→Bool) (h:dt f caps cz.av p xs):bg Tryz.prog 168 [dM xs,.fn f caps] (fun r=>r= .int (mc p xs)):=by
 (refine bh Tryz.func168 Tryz.ntmps168 ?_)
 (refine cL (i:=0) rfl (fun hb=>?_);(try simp only [List.length_map] at hb))
 (repeat' (first|(refine hK _ ?_;clear hK K)|(refine aM (fun K hK=>?_))|(refine gR ?_;refine aP ?_)|(refine aN ?_)))
 refine bO [4,5,8,9,10,11,12,13,14,15,16,17,18] (fun k:Nat=>k≤xs.length∧∀ i (hi:i < xs.length),i < k→p xs[i]=false) (fun k=>xs.length - k) (fun k=>[(8,.int k)]) (fun _=>[]) 0 ⟨by omega,by omega⟩ ?_ ?_
 ·(refine cm ?_)
  (exact bd)
 ·rintro k ⟨hk,hn⟩ K hK
  (refine cm ?_)
  by_cases hlt:k < xs.length
  ·(repeat' (first|(refine hK _ ?_;clear hK K)|(refine aM (fun K hK=>?_))|(refine gR ?_;refine aP ?_)|(refine bn (fun K hK=>?_);refine gA ab (h xs[k] (List.getElem_mem hlt)) (by simp [cn,St.eval,AV.cj,AV.fm,hcap]) (fun x hx=>?_);subst hx)|(refine gE ?_;(first|(refine cc ?_)|(refine dL (fun _=>?_))))|(refine gQ ?_;refine aS (fun hc=>?_) (fun hc=>?_)<;>(try (first|contradiction|omega)))|(refine gW ?_;refine bN ?_)|(refine aN ?_)|(refine gT ?_;refine aZ ?_)|(refine gS ?_;refine aX ?_)))
   ·(refine aT (Le.refl _) (aQ (aO ab)) af ?_)
    rw [ib hlt hc hn]
   ·refine ⟨k+1,⟨by omega,fq hn fun _=>hc⟩,by omega,?_⟩
    (refine cm ?_)
    (exact bd)
  ·(repeat' (first|(refine hK _ ?_;clear hK K)|(refine aM (fun K hK=>?_))|(refine gR ?_;refine aP ?_)|(refine gQ ?_;refine aS (fun hc=>?_) (fun hc=>?_)<;>(try (first|contradiction|omega)))|(refine gX ?_;refine bV ?_)|(refine gT ?_;refine aZ ?_)|(apply_assumption (exfalso:=false) (symm:=false))))
   (refine aT (Le.refl _) (aQ (aO ab)) af ?_)
   rw [fR fun i hi=>hn i hi aj]
theorem GP (xs:List cz) (f:FuncId) [cS Tryz.prog f] (caps:List AV) (hcap:AV.cj caps=true) (p:cz→Bool) (h:dt f caps cz.av p xs):bg Tryz.prog 118 [dM xs,.fn f caps] (fun r=>r= .bool (xs.any p)):=by
 (refine bh Tryz.func118 Tryz.ntmps118 ?_)
 (repeat' (first|(refine hK _ ?_;clear hK K)|(refine aM (fun K hK=>?_))|(refine gR ?_;refine aP ?_)|(refine bn (fun K hK=>?_);refine cH (JZ xs f caps hcap p h) (by simp [cn,St.eval,AV.cj,AV.fm,hcap]) (fun x hx=>?_);subst hx)|(refine gW ?_;refine bN ?_)|(refine gT ?_;refine aZ ?_)))
 (refine aT (Le.refl _) (aQ (aO ab)) af ?_)
 rw [iI]
theorem J0 (xs:List (Int×Int)) (f:FuncId) [cS Tryz.prog f] (caps:List AV) (hcap:AV.cj caps=true) (p:(Int×Int)→Bool) (h:dt f caps L1 p xs):bg Tryz.prog 161 [vp xs,.fn f caps] (fun r=>r= .int (mc p xs)):=by
 (refine bh Tryz.func161 Tryz.ntmps161 ?_)
 (refine cL (i:=0) rfl (fun hb=>?_);(try simp only [List.length_map] at hb))
 (repeat' (first|(refine hK _ ?_;clear hK K)|(refine aM (fun K hK=>?_))|(refine gR ?_;refine aP ?_)|(refine aN ?_)))
 refine bO [4,5,8,9,10,11,12,13,14,15,16,17,18] (fun k:Nat=>k≤xs.length∧∀ i (hi:i < xs.length),i < k→p xs[i]=false) (fun k=>xs.length - k) (fun k=>[(8,.int k)]) (fun _=>[]) 0 ⟨by omega,by omega⟩ ?_ ?_
 ·(refine cm ?_)
  (exact bd)
 ·rintro k ⟨hk,hn⟩ K hK
  (refine cm ?_)
  by_cases hlt:k < xs.length
  ·(repeat' (first|(refine hK _ ?_;clear hK K)|(refine aM (fun K hK=>?_))|(refine gR ?_;refine aP ?_)|(refine bn (fun K hK=>?_);refine gA ab (h xs[k] (List.getElem_mem hlt)) (by simp [cn,St.eval,AV.cj,AV.fm,hcap]) (fun x hx=>?_);subst hx)|(refine gE ?_;(first|(refine cc ?_)|(refine dL (fun _=>?_))))|(refine gQ ?_;refine aS (fun hc=>?_) (fun hc=>?_)<;>(try (first|contradiction|omega)))|(refine gW ?_;refine bN ?_)|(refine aN ?_)|(refine gT ?_;refine aZ ?_)|(refine gS ?_;refine aX ?_)))
   ·(refine aT (Le.refl _) (aQ (aO ab)) af ?_)
    rw [ib hlt hc hn]
   ·refine ⟨k+1,⟨by omega,fq hn fun _=>hc⟩,by omega,?_⟩
    (refine cm ?_)
    (exact bd)
  ·(repeat' (first|(refine hK _ ?_;clear hK K)|(refine aM (fun K hK=>?_))|(refine gR ?_;refine aP ?_)|(refine gQ ?_;refine aS (fun hc=>?_) (fun hc=>?_)<;>(try (first|contradiction|omega)))|(refine gX ?_;refine bV ?_)|(refine gT ?_;refine aZ ?_)|(apply_assumption (exfalso:=false) (symm:=false))))
   (refine aT (Le.refl _) (aQ (aO ab)) af ?_)
   rw [fR fun i hi=>hn i hi aj]
theorem Ae (xs:List (Int×Int)) (f:FuncId) [cS Tryz.prog f] (caps:List AV) (hcap:AV.cj caps=true) (p:(Int×Int)→Bool) (h:dt f caps L1 p xs):bg Tryz.prog 113 [vp xs,.fn f caps] (fun r=>r= .bool (xs.any p)):=by
 (refine bh Tryz.func113 Tryz.ntmps113 ?_)
 (repeat' (first|(refine hK _ ?_;clear hK K)|(refine aM (fun K hK=>?_))|(refine gR ?_;refine aP ?_)|(refine bn (fun K hK=>?_);refine cH (J0 xs f caps hcap p h) (by simp [cn,St.eval,AV.cj,AV.fm,hcap]) (fun x hx=>?_);subst hx)|(refine gW ?_;refine bN ?_)|(refine gT ?_;refine aZ ?_)))
 (refine aT (Le.refl _) (aQ (aO ab)) af ?_)
 rw [iI]
def tk (a b:l8):Bool:=a.b.toList == b.b.toList
instance:Inhabited l8:=⟨⟨⟨#[]⟩,by decide⟩⟩
instance:Inhabited bB:=⟨⟨0,[]⟩⟩
instance:Inhabited cz:=⟨⟨false,default⟩⟩
instance:Inhabited jT:=⟨⟨default,[]⟩⟩
instance:Inhabited gJ:=⟨⟨default,[],[],[],[],[],0⟩⟩
def Mi:ByteArray:=⟨#[111,98,106,101,99,116]⟩
def J1:ByteArray:=⟨#[110,111,116]⟩
theorem Hk (t:l8×Int) (l:List (l8×Int)):dt 228 [.bx [str t.1,.int t.2]] Iq (fun u=>tk u.1 t.1) l:=by
 intro u hu
 (refine bh Tryz.func228 Tryz.ntmps228 ?_)
 (repeat' (first|(refine hK _ ?_;clear hK K)|(refine aM (fun K hK=>?_))|(refine gR ?_;refine aP ?_)|(refine gT ?_;refine aZ ?_)))
 (refine aT (Le.refl _) (aQ (aO ab)) af ?_)
 rfl
theorem Hl (t:l8×Int) (l:List (l8×Int)):dt 230 [.bx [str t.1,.int t.2]] Iq (fun u=>tk u.1 t.1) l:=by
 intro u hu
 (refine bh Tryz.func230 Tryz.ntmps230 ?_)
 (repeat' (first|(refine hK _ ?_;clear hK K)|(refine aM (fun K hK=>?_))|(refine gR ?_;refine aP ?_)|(refine gT ?_;refine aZ ?_)))
 (refine aT (Le.refl _) (aQ (aO ab)) af ?_)
 rfl
theorem Hm (t:jT) (l:List jT):dt 232 [.bx [str t.name,ints t.ts]] jT.av (fun u=>tk u.name t.name) l:=by
 intro u hu
 (refine bh Tryz.func232 Tryz.ntmps232 ?_)
 (repeat' (first|(refine hK _ ?_;clear hK K)|(refine aM (fun K hK=>?_))|(refine gR ?_;refine aP ?_)|(refine gT ?_;refine aZ ?_)))
 (refine aT (Le.refl _) (aQ (aO ab)) af ?_)
 rfl
@[local go_sem] theorem fp {α:Type} (f:α→AV) (l:List α) (k:Nat):(l.map f).take k=(l.take k).map f:=List.map_take.symm
def Jx (l:List (l8×Int)) (i:Nat):Option (Int×Int):=
 if tj l[i]!.1=false∨l[i]!.1.b.toList=Mi.toList then some (12,i)
 else if (l.take i).any (fun u=>tk u.1 l[i]!.1) then some (7,i)
 else if l[i]!.2 < -1∨(i:Int)≤l[i]!.2 then some (3,i) else none
def kS (l:List (l8×Int)):Int×Int:=if 8 < l.length then (2,-1) else (bD (Jx l) l.length).getD (0,0)
theorem GJ (l:List (l8×Int)):bg Tryz.prog 202 [fT l] (fun r=>r=fault (kS l).1 (kS l).2):=by
 (refine bh Tryz.func202 Tryz.ntmps202 ?_)
 (refine cL (i:=0) rfl (fun hb=>?_);(try simp only [List.length_map] at hb))
 (repeat' (first|(refine hK _ ?_;clear hK K)|(refine aM (fun K hK=>?_))|(refine gR ?_;refine aP ?_)|(refine gE ?_;refine cc ?_)|(refine gQ ?_;refine aS (fun hc=>?_) (fun hc=>?_)<;>(try (first|contradiction|omega)))|(refine aN ?_)|(refine gT ?_;refine aZ ?_)|(refine gS ?_;refine aX ?_)))
 ·(refine aT (Le.refl _) (aQ (bt (by first|exact bF ab ab ab ab|exact br ab ab ab aq))) af ?_)
  rw [kS,if_pos aj]
  rfl
 have hF:∀ {k:Nat} {q:Int×Int},k < l.length→bD (Jx l) k=none→Jx l k=some q→kS l=q:=fun hk h1 h2=>by
  rw [kS,if_neg aj,cQ h1 h2 hk];rfl
 refine bO [3,4,11,12,13,14,15,16,17,18,19,20,21,22,23,24,25,26,27,28,29,30,31,32,33,34,35,36,37,38,39,40,41,42,43,44,45,46,47,48] (fun k:Nat=>k≤l.length∧bD (Jx l) k=none) (fun k=>l.length - k) (fun k=>[(11,.int k)]) (fun _=>[(2,⟨42,[.v (.int .i64 0),.v (.int .i64 0)],true⟩)]) 0 ⟨by omega,rfl⟩ ?_ ?_
 ·(refine cm ?_)
  (exact bd)
 ·rintro k ⟨hk,hn⟩ K hK
  (refine cm ?_)
  by_cases hlt:k < l.length
  ·have hg:=bY (l:=l) hlt
   have hF2:=fun q=>hF (q:=q) hlt hn
   have hS:=fun h=>dy (g:=Jx l) hn h
   rw [Jx,hg] at hF2 hS
   (repeat' (first|(refine hK _ ?_;clear hK K)|(refine aM (fun K hK=>?_))|(refine gR ?_;refine aP ?_)|(refine gC 226 ?_;refine bp (pe _) ?_)|(refine gC 227 ?_;refine bp (Hg _ 228 [.bx [str _,.int _]] rfl _ (Hk (_,_) _)) ?_)|(refine bn (fun K hK=>?_);refine fD (bQ 4 rfl rfl rfl) ?_;simp only [go_sem,seval];refine bK cD ?_)|(refine gE ?_;(first|(refine cc ?_)|(refine dL (fun _=>?_))))|(refine gG ?_;refine cB (fun hc=>?_) (fun hc=>?_)<;>(try (first|contradiction|omega)))|(refine gQ ?_;(first|(refine cf ?_)|(refine aS (fun hc=>?_) (fun hc=>?_)<;>(try (first|contradiction|omega)))))|(refine gW ?_;refine bN ?_)|(refine aN ?_)|(refine gT ?_;refine aZ ?_)|(refine gS ?_;refine aX ?_)))
   all_goals first
    |(refine ⟨k+1,⟨by omega,hS ?_⟩,by omega,?_⟩;rotate_left;((refine cm ?_);(exact bd)))
    |((refine aT (Le.refl _) (aQ (bt (by first|exact bF ab ab ab ab|exact br ab ab ab aq))) af ?_);refine congrArg (fun q:Int×Int=>fault q.1 q.2) (hF2 (_,_) ?_).symm)
   all_goals clear hS hF2 hF
   all_goals (simp only [List.get_eq_getElem] at *;(try simp only [*,Mi,J1,or_self,or_true,true_or,false_or,or_false,if_false,if_true,Bool.false_eq_true,Bool.true_eq_false]);first|done|(refine (if_pos ?_).trans rfl;omega)|(refine (if_neg ?_).trans rfl;omega))
  ·(repeat' (first|(refine hK _ ?_;clear hK K)|(refine aM (fun K hK=>?_))|(refine gR ?_;refine aP ?_)|(refine gE ?_;refine cc ?_)|(refine gQ ?_;refine aS (fun hc=>?_) (fun hc=>?_)<;>(try (first|contradiction|omega)))|(refine gX ?_;refine bV ?_)|(refine gT ?_;refine aZ ?_)|(apply_assumption (exfalso:=false) (symm:=false))))
   (refine aT (Le.refl _) (aQ (bt (by first|exact bF ab ab ab ab|exact br ab ab ab aq))) af ?_)
   obtain rfl:k=l.length:=by omega
   rw [kS,if_neg aj,hn]
   rfl
def Jy (n:Nat) (l:List (l8×Int)) (i:Nat):Option (Int×Int):=
 if tj l[i]!.1=false then some (12,-10 - i)
 else if (l.take i).any (fun u=>tk u.1 l[i]!.1) then some (7,-10 - i)
 else if l[i]!.2 < -1∨(n:Int)≤l[i]!.2 then some (3,-10 - i) else none
def oF (n:Nat) (l:List (l8×Int)):Int×Int:=if 8 < l.length then (2,-3) else (bD (Jy n l) l.length).getD (0,0)
theorem Jz (ts l:List (l8×Int)):bg Tryz.prog 203 [fT ts,fT l] (fun r=>r=fault (oF ts.length l).1 (oF ts.length l).2):=by
 (refine bh Tryz.func203 Tryz.ntmps203 ?_)
 (refine cL (i:=0) rfl (fun hb0=>?_);(try simp only [List.length_map] at hb0))
 (refine cL (i:=1) rfl (fun hb=>?_);(try simp only [List.length_map] at hb))
 (repeat' (first|(refine hK _ ?_;clear hK K)|(refine aM (fun K hK=>?_))|(refine gR ?_;refine aP ?_)|(refine gE ?_;refine cc ?_)|(refine gQ ?_;refine aS (fun hc=>?_) (fun hc=>?_)<;>(try (first|contradiction|omega)))|(refine aN ?_)|(refine gT ?_;refine aZ ?_)|(refine gS ?_;refine aX ?_)))
 ·(refine aT (Le.refl _) (aQ (bt (by first|exact bF ab ab ab ab|exact br ab ab ab aq))) af ?_)
  rw [oF,if_pos aj]
  rfl
 have hF:∀ {k:Nat} {q:Int×Int},k < l.length→bD (Jy ts.length l) k=none→Jy ts.length l k=some q→oF ts.length l=q:=fun hk h1 h2=>by
  rw [oF,if_neg aj,cQ h1 h2 hk];rfl
 refine bO [5,6,7,14,15,16,17,18,19,20,21,22,23,24,25,26,27,28,29,30,31,32,33,34,35,36,37,38,39,40,41,42,43,44,45,46,47] (fun k:Nat=>k≤l.length∧bD (Jy ts.length l) k=none) (fun k=>l.length - k) (fun k=>[(14,.int k)]) (fun _=>[(4,⟨42,[.v (.int .i64 0),.v (.int .i64 0)],true⟩)]) 0 ⟨by omega,rfl⟩ ?_ ?_
 ·(refine cm ?_)
  (exact bd)
 ·rintro k ⟨hk,hn⟩ K hK
  (refine cm ?_)
  by_cases hlt:k < l.length
  ·have hg:=bY (l:=l) hlt
   have hF2:=fun q=>hF (q:=q) hlt hn
   have hS:=fun h=>dy (g:=Jy ts.length l) hn h
   rw [Jy,hg] at hF2 hS
   (repeat' (first|(refine hK _ ?_;clear hK K)|(refine aM (fun K hK=>?_))|(refine gR ?_;refine aP ?_)|(refine gC 226 ?_;refine bp (pe _) ?_)|(refine gC 229 ?_;refine bp (Hh _ 230 [.bx [str _,.int _]] rfl _ (Hl (_,_) _)) ?_)|(refine bn (fun K hK=>?_);refine fD (bQ 6 rfl rfl rfl) ?_;simp only [go_sem,seval];refine bK cD ?_)|(refine gE ?_;(first|(refine cc ?_)|(refine dL (fun _=>?_))))|(refine gG ?_;refine cB (fun hc=>?_) (fun hc=>?_)<;>(try (first|contradiction|omega)))|(refine gQ ?_;(first|(refine cf ?_)|(refine bT ?_)|(refine aS (fun hc=>?_) (fun hc=>?_)<;>(try (first|contradiction|omega)))))|(refine gW ?_;refine bN ?_)|(refine aN ?_)|(refine gT ?_;refine aZ ?_)|(refine gS ?_;refine aX ?_)))
   all_goals first
    |(refine ⟨k+1,⟨by omega,hS ?_⟩,by omega,?_⟩;rotate_left;((refine cm ?_);(exact bd)))
    |((refine aT (Le.refl _) (aQ (bt (by first|exact bF ab ab ab ab|exact br ab ab ab aq))) af ?_);refine congrArg (fun q:Int×Int=>fault q.1 q.2) (hF2 (_,_) ?_).symm)
   all_goals clear hS hF2 hF
   all_goals (simp only [List.get_eq_getElem] at *;(try simp only [*,Mi,J1,or_self,or_true,true_or,false_or,or_false,if_false,if_true,Bool.false_eq_true,Bool.true_eq_false]);first|done|(refine (if_pos ?_).trans rfl;omega)|(refine (if_neg ?_).trans rfl;omega))
  ·(repeat' (first|(refine hK _ ?_;clear hK K)|(refine aM (fun K hK=>?_))|(refine gR ?_;refine aP ?_)|(refine gE ?_;refine cc ?_)|(refine gQ ?_;refine aS (fun hc=>?_) (fun hc=>?_)<;>(try (first|contradiction|omega)))|(refine gX ?_;refine bV ?_)|(refine gT ?_;refine aZ ?_)|(apply_assumption (exfalso:=false) (symm:=false))))
   (refine aT (Le.refl _) (aQ (bt (by first|exact bF ab ab ab ab|exact br ab ab ab aq))) af ?_)
   obtain rfl:k=l.length:=by omega
   rw [oF,if_neg aj,hn]
   rfl
end Go.Proofs.YtkbiagkbmodgdaaGreat
namespace Go.Proofs.YtkbiagkbmodgdaaGreat
open Go.Ab
open Go
set_option maxRecDepth 10000
attribute [local irreducible] dE fh mC lW db PV eR ef AW bg dn ec dP cO Ab.Fin ft en gI iO RV jX Le eI fM mg gV kf dz dg
set_option maxHeartbeats 4000000
def vg (l:List (l8×Int)):Prop:=∀ i (h:i < l.length),-1≤l[i].2∧l[i].2 < i
def Fb (l:List (l8×Int)):Nat→Int→Int→Bool
 |0,_,b=>decide (b= -1)
 |f+1,t,b=>if t < 0 then decide (b= -1) else decide (t=b)|| Fb l f l[t.toNat]!.2 b
def BO (l:List (l8×Int)) (t b:Int):Bool:=Fb l (t+1).toNat t b
theorem Af {l:List (l8×Int)} (hl:vg l) (b:Int):∀ (f g:Nat) (t:Int),t < l.length→(t+1).toNat≤f→(t+1).toNat≤g→Fb l f t b=Fb l g t b
 |0,0,t,_,_,_=>rfl
 |0,g+1,t,_,h,_=>by rw [Fb,Fb,if_pos aj]
 |f+1,0,t,_,_,h=>by rw [Fb,Fb,if_pos aj]
 |f+1,g+1,t,ht,h1,h2=>by
  rw [Fb,Fb]
  split
  ·rfl
  ·have hlt:t.toNat < l.length:=by omega
   have:=hl t.toNat hlt
   rw [bY hlt,Af hl b f g _ aj aj aj]
theorem CY {l:List (l8×Int)} {t b:Int} (h:t < 0):BO l t b=decide (b= -1):=by
 rw [BO,show (t+1).toNat=0 by omega,Fb]
theorem Ag {l:List (l8×Int)} (hl:vg l) {t b:Int} (h:0≤t) (hlt:t.toNat < l.length):BO l t b=(decide (t=b)|| BO l l[t.toNat].2 b):=by
 have:=hl t.toNat hlt
 rw [BO,show (t+1).toNat=t.toNat+1 by omega,Fb,if_neg aj,bY hlt,BO,Af hl b t.toNat (l[t.toNat].2+1).toNat _ aj aj aj]
@[local go_sem] theorem IW (i g:Nat) (y:cq):AV.cv i (.yl g y)=(g == i):=rfl
theorem KY (l:List (l8×Int)) (hl:vg l) (a b:Int) (ha0:-1≤a) (ha:a < l.length):bg Tryz.prog 208 [fT l,.int a,.int b] (fun r=>r= .bool (BO l a b)):=by
 (refine bh Tryz.func208 Tryz.ntmps208 ?_)
 (repeat' (first|(refine hK _ ?_;clear hK K)|(refine aM (fun K hK=>?_))|(refine gR ?_;refine aP ?_)|(refine gE ?_;refine cc ?_)))
 (refine bn (fun K hK=>?_);refine nA 1000000001 Tryz.func239 Tryz.ntmps239 aw aw ae ae ae ?_)
 (repeat' (first|(refine hK _ ?_;clear hK K)|(refine aM (fun K hK=>?_))|(refine fH 1 ab ?_;refine aP ?_)|(refine gE ?_;refine cc ?_)))
 (refine cT (bQ 2 rfl rfl rfl) ?_;simp only [go_sem,seval])
 refine gR ?_;refine aP ?_
 refine bn (fun K hK=>?_);refine bK cD ?_
 simp only [go_sem,seval]
 refine hK _ ?_;clear hK
 (repeat' (first|(refine hK _ ?_;clear hK K)|(refine gW ?_;refine bN ?_)|(refine gT ?_;refine aZ ?_)))
 (refine ⟨_,_,_,Le.refl _,(aQ (aO ab)),by rfl,?_⟩;simp only [go_sem,seval])
 refine hK _ ?_;clear hK K
 (repeat' (first|(refine hK _ ?_;clear hK K)|(refine gW ?_;refine bN ?_)|(refine aN ?_)))
 have hK9:=hK
 refine Bf 1000000001 (news:=[]) ab aw (by first|rfl|(simp [AV.bz,AV.cv];done)) (by first|rfl|(simp [cI,AV.bz,AV.cv];done)) (by first|rfl|(simp [AV.bz,AV.cv];done)) ab (fun id h=>by cases h) (fun y hyp hya hyb=>?_) (fun _ _ h=>h)
 (refine ck Tryz.func268 Tryz.ntmps268 ?_)
 (repeat' (first|(refine aM (fun K hK=>?_))|(refine aN ?_)))
 refine bU [4,5,6,7,8,9,10,11,12,13,14] (fun t:Int=>-1≤t∧t < l.length∧BO l a b=BO l t b) (fun t=>(t+1).toNat) (fun t=>[]) (fun t=>[(3,⟨3,[.int t],true⟩)]) a ⟨by omega,ha,rfl⟩ ?_ ?_
 ·(refine cm ?_)
  (exact bd)
 ·rintro t ⟨ht1,ht2,hq⟩ K hK
  (refine cm ?_)
  by_cases hneg:t < 0
  ·(repeat' (first|(refine hK _ ?_;clear hK K)|(refine aM (fun K hK=>?_))|(refine fH 3 ab ?_;refine aP ?_)|(refine gQ ?_;refine aS (fun hc=>?_) (fun hc=>?_)<;>(try (first|contradiction|omega)))|(refine gX ?_;refine bV ?_)|(apply_assumption (exfalso:=false) (symm:=false))))
   refine e8 ?_
   iterate 1 ((refine bu rfl rfl (fun K1 hK1=>?_));(first|refine bK cR ?_|refine bK (bF ab ab ab ab) ?_|refine bK (pP ab) ?_);(try simp only [go_sem]);refine hK1 _ ?_;clear hK1 K1)
   refine bX 1000000002 hyp hya hyb ab ab ab ab ab aw aw aw ab ae ab ab ?_
   simp only [go_sem,seval]
   refine gR ?_;refine aP ?_
   refine ⟨_,_,Le.refl _,by rfl,by rfl,?_⟩
   simp only [go_sem,seval]
   (repeat' (first|(refine hK _ ?_;clear hK K)|(refine aM (fun K hK=>?_))|(refine gR ?_;refine aP ?_)|(refine gQ ?_;refine aS (fun hc=>?_) (fun hc=>?_)<;>(try (first|contradiction|omega)))|(refine aN ?_)|(refine gT ?_;refine aZ ?_)|(refine gS ?_;refine aX ?_)))
   ·
    refine ⟨_,_,_,1000000003,Le.refl _,by rfl,by rfl,by rfl,rfl,?_⟩
    simp only [go_sem,seval]
    refine cA ?_
    (repeat' fail)
    refine uH gp (by first|exact .inl rfl|exact .inr rfl) ab ae ab ⟨.ret,1000000003,_,rfl,by rfl,by rfl,?_⟩
    simp only [go_sem,seval]
    (refine aT (Le.refl _) (aQ (bt (by first|exact bF ab ab ab ab|exact br ab ab ab aq))) af ?_)
    rw [hq,CY hneg,decide_eq_true aj]
   ·
    refine ⟨_,_,_,1000000001,Le.refl _,by rfl,by rfl,by rfl,rfl,?_⟩
    simp only [go_sem,seval]
    refine cA ?_
    (repeat' fail)
    refine uH gp (by first|exact .inl rfl|exact .inr rfl) ab ae ab ⟨.normal,1000000001,_,rfl,by rfl,by rfl,?_⟩
    simp only [go_sem,seval]
    refine hK9 _ ?_
    (repeat' (first|(refine hK _ ?_;clear hK K)|(refine aM (fun K hK=>?_))|(refine gR ?_;refine aP ?_)|(refine gT ?_;refine aZ ?_)))
    (refine aT (Le.refl _) (aQ (bt (by first|exact bF ab ab ab ab|exact br ab ab ab aq))) af ?_)
    rw [hq,CY hneg,decide_eq_false aj]
  ·
   (repeat' (first|(refine hK _ ?_;clear hK K)|(refine aM (fun K hK=>?_))|(refine fH 2 ab ?_;refine aP ?_)|(refine gQ ?_;refine aS (fun hc=>?_) (fun hc=>?_)<;>(try (first|contradiction|omega)))|(refine aN ?_)|(refine gS ?_;refine aX ?_)))
   refine e8 ?_
   iterate 2 ((refine bu rfl rfl (fun K1 hK1=>?_));(first|refine bK cR ?_|refine bK (bF ab ab ab ab) ?_|refine bK (pP ab) ?_);(try simp only [go_sem]);refine hK1 _ ?_;clear hK1 K1)
   refine bX 1000000002 hyp hya hyb ab ab ab ab ab aw aw aw ab ae ab ab ?_
   simp only [go_sem,seval]
   refine gR ?_;refine aP ?_
   refine ⟨_,_,Le.refl _,by rfl,by rfl,?_⟩
   simp only [go_sem,seval]
   (repeat' (first|(refine hK _ ?_;clear hK K)|(refine aM (fun K hK=>?_))|(refine gR ?_;refine aP ?_)|(refine gQ ?_;refine aS (fun hc=>?_) (fun hc=>?_)<;>(try (first|contradiction|omega)))|(refine aN ?_)|(refine gT ?_;refine aZ ?_)|(refine gS ?_;refine aX ?_)))
   ·
    refine ⟨_,_,_,1000000003,Le.refl _,by rfl,by rfl,by rfl,rfl,?_⟩
    simp only [go_sem,seval]
    refine bu rfl rfl (fun K1 hK1=>?_)
    refine bK (pP ab) ?_
    (try simp only [go_sem]);refine hK1 _ ?_;clear hK1 K1
    refine cA ?_
    (repeat' (first|(refine hK _ ?_;clear hK K)|(refine gQ ?_;refine cf ?_)|(refine gT ?_;refine aZ ?_)))
    refine uH gp (by first|exact .inl rfl|exact .inr rfl) ab ae ab ⟨.ret,1000000003,_,rfl,by rfl,by rfl,?_⟩
    simp only [go_sem,seval]
    (refine aT (Le.refl _) (aQ (bt (by first|exact bF ab ab ab ab|exact br ab ab ab aq))) af ?_)
    rw [hq,Ag hl aj aj,decide_eq_true aj,Bool.true_or]
   ·
    refine ⟨_,_,_,1000000001,Le.refl _,by rfl,by rfl,by rfl,rfl,?_⟩
    simp only [go_sem,seval]
    refine bu rfl rfl (fun K1 hK1=>?_)
    refine bK (pP ab) ?_
    (try simp only [go_sem]);refine hK1 _ ?_;clear hK1 K1
    refine cA ?_
    have hlt:t.toNat < l.length:=by omega
    have hpar:=hl t.toNat hlt
    (repeat' (first|(refine hK _ ?_;clear hK K)|(refine gR ?_;refine aP ?_)|(refine gE ?_;refine dL (fun _=>?_))|(refine gQ ?_;refine bT ?_)|(refine gS ?_;refine aX ?_)))
    refine ⟨l[t.toNat].2,⟨by omega,by omega,?_⟩,by omega,?_⟩
    ·rw [hq,Ag hl aj hlt,decide_eq_false aj,Bool.false_or]
    ·(refine cm ?_)
     (exact bd)
def CZ (ts dT:List (l8×Int)) (t:Int):Nat→List Int
 |0=>[]
 |k+1=>CZ ts dT t k++if BO ts dT[k]!.2 t=true then [(k:Int)] else []
theorem pg (ts dT:List (l8×Int)) (t:Int):∀ k,(CZ ts dT t k).length≤k
 |0=>Nat.le_refl _
 |k+1=>by
  have:=pg ts dT t k
  rw [CZ,List.length_append]
  split<;>simp<;>omega
def rB (ts dT:List (l8×Int)):Prop:=∀ i (h:i < dT.length),-1≤dT[i].2∧dT[i].2 < ts.length
theorem Hn (ts dT:List (l8×Int)) (t:Int) (hl:vg ts) (ho:rB ts dT) (h8:dT.length≤8):bg Tryz.prog 160 [fT ts,fT dT,.int t] (fun r=>r=ints (CZ ts dT t dT.length)):=by
 (refine bh Tryz.func160 Tryz.ntmps160 ?_)
 (repeat' (first|(refine hK _ ?_;clear hK K)|(refine aM (fun K hK=>?_))|(refine gR ?_;refine aP ?_)|(refine aN ?_)))
 (refine j1 7 100 1 8 3 ?_)
 refine bO [7,8,9,12,13,14,15,16,17,18,19,20,21,22,23,24,25,26] (fun k:Nat=>k≤dT.length) (fun k=>dT.length - k) (fun k=>[(12,.int k),(7,.sl 1 8 100 0 (CZ ts dT t k).length)]) (fun k=>[(100,⟨3,(CZ ts dT t k).map AV.int,false⟩)]) 0 aj ?_ ?_
 ·(refine cm ?_)
  (exact bd)
 ·rintro k hk K hK
  (refine cm ?_)
  have hrl:=pg ts dT t k
  by_cases hlt:k < dT.length
  ·have hob:=ho k hlt
   have hst:CZ ts dT t (k+1)=CZ ts dT t k++if BO ts dT[k].2 t=true then [(k:Int)] else []:=by rw [CZ,bY hlt]
   (repeat' (first|(refine hK _ ?_;clear hK K)|(refine aM (fun K hK=>?_))|(refine gR ?_;refine aP ?_)|(refine gC 208 ?_;refine bp (KY _ az _ _ aj aj) ?_)|(refine bn (fun K hK=>?_);(refine cF ?_;simp only [go_sem,seval,dj,aV]))|(refine gE ?_;(first|(refine cc ?_)|(refine dL (fun _=>?_))))|(refine gQ ?_;refine aS (fun hc=>?_) (fun hc=>?_)<;>(try (first|contradiction|omega)))|(refine gW ?_;refine bN ?_)|(refine aN ?_)|(refine gS ?_;refine aX ?_)))
   ·refine ⟨k+1,by omega,by omega,?_⟩
    rw [hst,if_pos az]
    (refine cm ?_)
    (refine dW (by (repeat (first|exact .nil|refine .drop ?_|refine dI ?_ aD))) (by (repeat refine dH ab aD ?_);exact aY _))
   ·refine ⟨k+1,by omega,by omega,?_⟩
    rw [hst,if_neg (by simp_all),List.append_nil]
    (refine cm ?_)
    (exact bd)
  ·obtain rfl:k=dT.length:=by omega
   (repeat' (first|(refine hK _ ?_;clear hK K)|(refine aM (fun K hK=>?_))|(refine gR ?_;refine aP ?_)|(refine gQ ?_;refine aS (fun hc=>?_) (fun hc=>?_)<;>(try (first|contradiction|omega)))|(refine gX ?_;refine bV ?_)|(refine gT ?_;refine aZ ?_)|(apply_assumption (exfalso:=false) (symm:=false))))
   refine oT (CZ ts dT t dT.length) rfl ab ab rfl (fun _=>rfl) (fun _=>rfl) rfl
end Go.Proofs.YtkbiagkbmodgdaaGreat
namespace Go.Proofs.YtkbiagkbmodgdaaGreat
open Go.Ab
open Go
set_option maxRecDepth 10000
attribute [local irreducible] dE fh mC lW db PV eR ef AW bg dn ec dP cO Ab.Fin ft en gI iO RV jX Le eI fM mg gV kf dz dg
set_option maxHeartbeats 4000000
def yc (a b:Int):Int:=if a < b then -1 else if b < a then 1 else 0
theorem yf (a b:Int):bg Tryz.prog 171 [.int a,.int b] (fun r=>r= .int (yc a b)):=by
 (refine bh Tryz.func171 Tryz.ntmps171 ?_)
 (repeat' (first|(refine hK _ ?_;clear hK K)|(refine aM (fun K hK=>?_))|(refine gR ?_;refine aP ?_)|(refine gC 214 ?_;refine bp (Hf _) ?_)|(refine gQ ?_;(first|(refine bT ?_)|(refine aS (fun hc=>?_) (fun hc=>?_)<;>(try (first|contradiction|omega)))))|(refine gT ?_;refine aZ ?_)|(refine gS ?_;refine aX ?_)))
 all_goals (refine aT (Le.refl _) (aQ (aO ab)) af ?_)
 all_goals (unfold yc;(repeat' split)<;>first|rfl|omega)
theorem ym (a b:Int):yc a b=0↔a=b:=by unfold yc;(repeat' split)<;>omega
def oJ:List Int→List Int→Int
 |[],[]=>0
 |[],_::_=>-1
 |_::_,[]=>1
 |x::a,y::b=>if yc x y=0 then oJ a b else yc x y
theorem Ho:∀ (a b:List Int),oJ a b=0↔a=b
 |[],[]=>by simp [oJ]
 |[],_::_=>by simp [oJ]
 |_::_,[]=>by simp [oJ]
 |x::a,y::b=>by
  rw [oJ]
  split
  ·rename_i h;rw [ym] at h;rw [Ho a b,h];simp
  ·rename_i h
   constructor
   ·exact fun e=>absurd e h
   ·intro e;injection e with e1 e2;exact absurd ((ym x y).2 e1) h
theorem vt (a b:List Int):bg Tryz.prog 172 [ints a,ints b] (fun r=>r= .int (oJ a b)):=by
 (refine bh Tryz.func172 Tryz.ntmps172 ?_)
 (refine cL (i:=0) rfl (fun hb0=>?_);(try simp only [List.length_map] at hb0))
 (refine cL (i:=1) rfl (fun hb1=>?_);(try simp only [List.length_map] at hb1))
 (repeat' (first|(refine hK _ ?_;clear hK K)|(refine aM (fun K hK=>?_))|(refine gR ?_;refine aP ?_)|(refine aN ?_)))
 refine bO [4,5,6,7,8,11,12,13,14,15,16,17,18,19,20,21,22,23,24,25,26,27,28,29,30] (fun k:Nat=>k≤a.length∧k≤b.length∧oJ a b=oJ (a.drop k) (b.drop k)) (fun k=>a.length - k) (fun k=>[(11,.int k)]) (fun _=>[]) 0 ax ?_ ?_
 ·(refine cm ?_)
  (exact bd)
 ·rintro k ⟨hk1,hk2,he⟩ K hK
  (refine cm ?_)
  by_cases hl1:k < a.length
  ·by_cases hl2:k < b.length
   ·rw [List.drop_eq_getElem_cons hl1,List.drop_eq_getElem_cons hl2,oJ] at he
    (repeat' (first|(refine hK _ ?_;clear hK K)|(refine aM (fun K hK=>?_))|(refine gR ?_;refine aP ?_)|(refine gC 171 ?_;refine bp (yf _ _) ?_)|(refine gE ?_;(first|(refine cc ?_)|(refine dL (fun _=>?_))))|(refine gQ ?_;refine aS (fun hc=>?_) (fun hc=>?_)<;>(try (first|contradiction|omega)))|(refine aN ?_)|(refine gT ?_;refine aZ ?_)|(refine gS ?_;refine aX ?_)))
    ·(refine aT (Le.refl _) (aQ (aO ab)) af ?_)
     rw [he,if_neg az]
    ·(refine ⟨k+1,⟨by omega,by omega,by rw [he,if_pos az]⟩,by omega,?_⟩;(refine cm ?_);(exact bd))
   ·obtain rfl:k=b.length:=by omega
    rw [List.drop_eq_getElem_cons hl1,List.drop_length,oJ] at he
    (repeat' (first|(refine hK _ ?_;clear hK K)|(refine aM (fun K hK=>?_))|(refine gR ?_;refine aP ?_)|(refine gE ?_;refine dL (fun _=>?_))|(refine gQ ?_;refine aS (fun hc=>?_) (fun hc=>?_)<;>(try (first|contradiction|omega)))|(refine aN ?_)|(refine gT ?_;refine aZ ?_)|(refine gS ?_;refine aX ?_)))
    (refine aT (Le.refl _) (aQ (aO ab)) af ?_)
    rw [he]
  ·obtain rfl:k=a.length:=by omega
   rw [List.drop_length] at he
   (repeat' (first|(refine hK _ ?_;clear hK K)|(refine aM (fun K hK=>?_))|(refine gR ?_;refine aP ?_)|(refine gQ ?_;refine aS (fun hc=>?_) (fun hc=>?_)<;>(try (first|contradiction|omega)))|(refine gX ?_;refine bV ?_)|(refine gT ?_;refine aZ ?_)|(refine gS ?_;refine aX ?_)|(apply_assumption (exfalso:=false) (symm:=false))))
   ·(refine aT (Le.refl _) (aQ (aO ab)) af ?_)
    rw [he,List.drop_eq_getElem_cons aj,oJ]
   ·(refine aT (Le.refl _) (aQ (aO ab)) af ?_)
    rw [he,List.drop_of_length_le aj,oJ]
theorem KW (a b:Int):bg Tryz.prog 170 [ints [a,b]] (fun r=>r= .int (if a=0 then b else a)):=by
 (refine bh Tryz.func170 Tryz.ntmps170 ?_)
 (repeat' (first|(refine hK _ ?_;clear hK K)|(refine aM (fun K hK=>?_))|(refine gR ?_;refine aP ?_)|(refine aN ?_)))
 refine bO [2,5,8,9,10,11,12,13,14,15,16] (fun k:Nat=>k≤2∧(0 < k→a=0)∧(1 < k→b=0)) (fun k=>2 - k) (fun k=>[(8,.int k)]) (fun _=>[]) 0 ax ?_ ?_
 ·(refine cm ?_)
  (exact bd)
 ·rintro k ⟨hk,h0,h1⟩ K hK
  (refine cm ?_)
  obtain rfl|rfl|rfl:k=0∨k=1∨k=2:=by omega
  ·(repeat' (first|(refine hK _ ?_;clear hK K)|(refine aM (fun K hK=>?_))|(refine gR ?_;refine aP ?_)|(refine gE ?_;refine cc ?_)|(refine gQ ?_;(first|(refine cf ?_)|(refine aS (fun hc=>?_) (fun hc=>?_)<;>(try (first|contradiction|omega)))))|(refine aN ?_)|(refine gT ?_;refine aZ ?_)|(refine gS ?_;refine aX ?_)))
   ·(refine aT (Le.refl _) (aQ (aO ab)) af ?_)
    rw [if_neg az]
   ·(refine ⟨1,⟨by omega,fun _=>by assumption,by omega⟩,by omega,?_⟩;(refine cm ?_);(exact bd))
  ·(repeat' (first|(refine hK _ ?_;clear hK K)|(refine aM (fun K hK=>?_))|(refine gR ?_;refine aP ?_)|(refine gE ?_;refine cc ?_)|(refine gQ ?_;(first|(refine cf ?_)|(refine aS (fun hc=>?_) (fun hc=>?_)<;>(try (first|contradiction|omega)))))|(refine aN ?_)|(refine gT ?_;refine aZ ?_)|(refine gS ?_;refine aX ?_)))
   ·(refine aT (Le.refl _) (aQ (aO ab)) af ?_)
    rw [if_pos (h0 aj)]
   ·(refine ⟨2,⟨by omega,fun _=>h0 aj,fun _=>by assumption⟩,by omega,?_⟩;(refine cm ?_);(exact bd))
  ·(repeat' (first|(refine hK _ ?_;clear hK K)|(refine aM (fun K hK=>?_))|(refine gR ?_;refine aP ?_)|(refine gQ ?_;refine bT ?_)|(refine gX ?_;refine bV ?_)|(refine gT ?_;refine aZ ?_)|(apply_assumption (exfalso:=false) (symm:=false))))
   (refine aT (Le.refl _) (aQ (aO ab)) af ?_)
   rw [if_pos (h0 aj),h1 aj]
def yb (x y:bB):Int:=if yc x.p y.p=0 then oJ x.a y.a else yc x.p y.p
theorem Mj (x y:bB):yb x y=0↔x=y:=by
 obtain ⟨p,a⟩:=x
 obtain ⟨q,b⟩:=y
 unfold yb
 simp only [bB.mk.injEq]
 split
 ·rename_i h;rw [ym] at h;rw [Ho];simp [h]
 ·rename_i h
  constructor
  ·exact fun e=>absurd e h
  ·exact fun e=>absurd ((ym _ _).2 e.1) h
theorem rC (x y:bB):bg Tryz.prog 167 [x.av,y.av] (fun r=>r= .int (yb x y)):=by
 (refine bh Tryz.func167 Tryz.ntmps167 ?_)
 (repeat' (first|(refine hK _ ?_;clear hK K)|(refine aM (fun K hK=>?_))|(refine gR ?_;refine aP ?_)|(refine gD 1 ?_;refine fg (.it 0 0 (.it 1 0 (.it 2 0 (.it 3 0 (.it 5 0 (.it 6 0 (.it 7 0 (.it 8 0 (.it 4 1 (.it 9 1 (.it 10 1 (.it 11 1 (.it 12 0 .nil))))))))))))) [0,1,2,3,5,6,7,8,12] ?_)|(refine kK 171 ?_;refine dw (yf _ _) ?_)|(refine kK 172 ?_;refine dw (vt _ _) ?_)|(refine kK 170 ?_;refine dw (KW _ _) ?_)|(refine dk (fun K hK=>?_);refine dq (d:=15) aC ab ab ab ab ?_)|(refine gE ?_;refine cc ?_)|(refine kj ?_;refine eK ?_)|(refine gT ?_;refine aZ ?_)))
 (refine aT (Le.refl _) (aQ (aO ab)) af ?_)
 rfl
def wg (d:dB) (ps:List Int) (x:Int):Option Int:=
 if 0≤x∧x < d.dT.length then some d.dT[x.toNat]!.2
 else if x < 0∧-(ps.length:Int)≤x then some ps[(-1 - x).toNat]! else none
def Pu:Option Int→AV
 |some t=>.dr [.int t,.bool true]
 |none=>.dr [.int 0,.bool false]
theorem J2 (d:dB) (ps:List Int) (x:Int):bg Tryz.prog 285 [d.av,ints ps,.int x] (fun r=>r=Pu (wg d ps x)):=by
 obtain ⟨ty,ob,pr,sc,ini,go⟩:=d
 (refine bh Tryz.func285 Tryz.ntmps285 ?_)
 (refine cL (i:=1) rfl (fun hb=>?_);(try simp only [List.length_map] at hb))
 (repeat' (first|(refine hK _ ?_;clear hK K)|(refine aM (fun K hK=>?_))|(refine gR ?_;refine aP ?_)|(refine gE ?_;(first|(refine cc ?_)|(refine dL (fun _=>?_))))|(refine gG ?_;refine cB (fun hc=>?_) (fun hc=>?_)<;>(try (first|contradiction|omega)))|(refine gQ ?_;(first|(refine bT ?_)|(refine aS (fun hc=>?_) (fun hc=>?_)<;>(try (first|contradiction|omega)))))|(refine aN ?_)|(refine gT ?_;refine aZ ?_)|(refine gS ?_;refine aX ?_)))
 all_goals (refine aT (Le.refl _) (dx (aO ab) (aO ab)) af ?_)
 all_goals simp only [wg]
 ·rw [if_pos aj,bY aj];rfl
 ·rw [if_neg aj,if_neg aj];rfl
 ·rw [if_neg aj,if_pos aj,bY aj];rfl
 ·rw [if_neg aj,if_neg aj];rfl
def vi (d:dB) (ps:List Int):Prop:=∀ i (h:i < ps.length),-1≤ps[i]∧ps[i] < d.types.length
theorem J3 {d:dB} {ps:List Int} {x t:Int} (ho:rB d.types d.dT) (hp:vi d ps) (h:wg d ps x=some t):-1≤t∧t < d.types.length:=by
 unfold wg at h
 split at h
 ·rename_i hx
  rw [bY aj] at h
  injection h with h
  subst h
  exact ho _ _
 ·split at h
  ·rename_i hx
   rw [bY aj] at h
   injection h with h
   subst h
   exact hp _ _
  ·cases h
def yg (d:dB) (ps:List Int) (x:bB) (i:Nat):Option Int:=
 match wg d ps x.a[i]! with
 |none=>some 3
 |some t=>if BO d.types t d.cC[x.p.toNat]!.ts[i]! =true then none else some 8
def mR (d:dB) (ps:List Int) (x:bB):Int:=
 if x.p < 0∨d.cC.length≤x.p then 6
 else if x.a.length≠d.cC[x.p.toNat]!.ts.length then 9
 else (bD (yg d ps x) x.a.length).getD 0
theorem Hq (d:dB) (ps:List Int) (x:bB) (hl:vg d.types) (ho:rB d.types d.dT) (hp:vi d ps):bg Tryz.prog 267 [d.av,ints ps,x.av] (fun r=>r= .int (mR d ps x)):=by
 obtain ⟨ty,ob,pr,sc,ini,go⟩:=d
 obtain ⟨p,a⟩:=x
 simp only at hl ho
 (refine bh Tryz.func267 Tryz.ntmps267 ?_)
 (repeat' (first|(refine hK _ ?_;clear hK K)|(refine aM (fun K hK=>?_))|(refine gR ?_;refine aP ?_)|(refine gE ?_;(first|(refine cc ?_)|(refine dL (fun _=>?_))))|(refine gG ?_;refine cB (fun hc=>?_) (fun hc=>?_)<;>(try (first|contradiction|omega)))|(refine gQ ?_;(first|(refine cf ?_)|(refine aS (fun hc=>?_) (fun hc=>?_)<;>(try (first|contradiction|omega)))))|(refine aN ?_)|(refine gT ?_;refine aZ ?_)|(refine gS ?_;refine aX ?_)))
 ·(refine aT (Le.refl _) (aQ (aO ab)) af ?_)
  rw [mR,if_pos aH]
 ·(refine aT (Le.refl _) (aQ (aO ab)) af ?_)
  rw [mR,if_pos aH]
 ·(refine aT (Le.refl _) (aQ (aO ab)) af ?_)
  rw [mR,if_neg aH,if_pos (by simp only;rw [bY aj];omega)]
 (refine r8 (id:=5) (j:=1) rfl rfl (fun hba=>?_);(try simp only [List.length_map] at hba))
 have hpl:p.toNat < pr.length:=by omega
 have hpb:=bY hpl
 have hF:mR ⟨ty,ob,pr,sc,ini,go⟩ ps ⟨p,a⟩=(bD (yg ⟨ty,ob,pr,sc,ini,go⟩ ps ⟨p,a⟩) a.length).getD 0:=by
  rw [mR,if_neg aH,if_neg (by simp only;rw [hpb];omega)]
 refine bO [6,8,9,10,11,39,40,41,42,43,44,45,46,47,48,49,50,51,52,53,54,55,56,57,58,59,60,61,62] (fun k:Nat=>k≤a.length∧bD (yg ⟨ty,ob,pr,sc,ini,go⟩ ps ⟨p,a⟩) k=none) (fun k=>a.length - k) (fun k=>[(39,.int k)]) (fun _=>[(3,⟨29,[fT ty,fT ob,fi pr,jn sc,cZ ini,dM go],true⟩),(5,⟨66,[.int p,ints a],true⟩)]) 0 ⟨by omega,rfl⟩ ?_ ?_
 ·(refine cm ?_)
  (exact bd)
 ·rintro k ⟨hk,hn⟩ K hK
  (refine cm ?_)
  by_cases hlt:k < a.length
  ·have hto:=J2 ⟨ty,ob,pr,sc,ini,go⟩ ps a[k]
   have hg:yg ⟨ty,ob,pr,sc,ini,go⟩ ps ⟨p,a⟩ k=match wg ⟨ty,ob,pr,sc,ini,go⟩ ps a[k] with
    |none=>some 3
    |some t=>if BO ty t pr[p.toNat].ts[k]! =true then none else some 8:=by
    simp only [yg];rw [bY hlt,hpb]
   cases hty:wg ⟨ty,ob,pr,sc,ini,go⟩ ps a[k] with
   |none=>
    rw [hty] at hto hg
    simp only [Pu] at hto
    (repeat' (first|(refine hK _ ?_;clear hK K)|(refine aM (fun K hK=>?_))|(refine gR ?_;refine aP ?_)|(refine gC 285 ?_;refine bp (hto) ?_)|(refine gE ?_;refine dL (fun _=>?_))|(refine gQ ?_;(first|(refine cf ?_)|(refine aS (fun hc=>?_) (fun hc=>?_)<;>(try (first|contradiction|omega)))))|(refine aN ?_)|(refine gT ?_;refine aZ ?_)|(refine gS ?_;refine aX ?_)))
    (refine aT (Le.refl _) (aQ (aO ab)) af ?_)
    rw [hF,cQ hn hg hlt]
    rfl
   |some t=>
    rw [hty] at hto hg
    have htk:=J3 (d:=⟨ty,ob,pr,sc,ini,go⟩) ho hp hty
    simp only at htk
    simp only [Pu] at hto
    have hkw:k < pr[p.toNat].ts.length:=by omega
    simp only [bY hkw] at hg
    (repeat' (first|(refine hK _ ?_;clear hK K)|(refine aM (fun K hK=>?_))|(refine gR ?_;refine aP ?_)|(refine gD 12 ?_;refine fg (.it 0 0 (.it 1 0 (.it 2 0 (.it 3 0 (.it 4 0 (.it 5 0 (.it 6 0 (.it 7 1 (.it 8 0 .nil))))))))) [0,1,2,3,4,5,6,8] ?_)|(refine gC 285 ?_;refine bp (hto) ?_)|(refine kK 208 ?_;refine dw (KY _ az _ _ aj aj) ?_)|(refine gE ?_;(first|(refine cc ?_)|(refine dL (fun _=>?_))))|(refine gQ ?_;(first|(refine bT ?_)|(refine aS (fun hc=>?_) (fun hc=>?_)<;>(try (first|contradiction|omega)))))|(refine aN ?_)|(refine gT ?_;refine aZ ?_)|(refine gS ?_;refine aX ?_)))
    ·(refine aT (Le.refl _) (aQ (aO ab)) af ?_)
     rw [if_neg (by simp_all)] at hg
     rw [hF,cQ hn hg hlt]
     rfl
    ·rw [if_pos az] at hg
     (refine ⟨k+1,⟨by omega,dy hn hg⟩,by omega,?_⟩;(refine cm ?_);(exact bd))
  ·(repeat' (first|(refine hK _ ?_;clear hK K)|(refine aM (fun K hK=>?_))|(refine gR ?_;refine aP ?_)|(refine gQ ?_;refine aS (fun hc=>?_) (fun hc=>?_)<;>(try (first|contradiction|omega)))|(refine gX ?_;refine bV ?_)|(refine gT ?_;refine aZ ?_)|(apply_assumption (exfalso:=false) (symm:=false))))
   (refine aT (Le.refl _) (aQ (aO ab)) af ?_)
   obtain rfl:k=a.length:=by omega
   rw [hF,hn]
   rfl
def tg (d:dB) (ps:List Int) (l:List bB) (i:Nat):Option Int:=if mR d ps l[i]! =0 then none else some (mR d ps l[i]!)
def gK (d:dB) (ps:List Int) (l:List bB) (m:Int):Int:=if m < l.length then 2 else (bD (tg d ps l) l.length).getD 0
theorem o6 (d:dB) (ps:List Int) (l:List bB) (m:Int) (hl:vg d.types) (ho:rB d.types d.dT) (hp:vi d ps):bg Tryz.prog 237 [d.av,ints ps,cZ l,.int m] (fun r=>r= .int (gK d ps l m)):=by
 have hat:=fun x=>Hq d ps x hl ho hp
 obtain ⟨ty,ob,pr,sc,ini,go⟩:=d
 (refine bh Tryz.func237 Tryz.ntmps237 ?_)
 (refine cL (i:=2) rfl (fun hb=>?_);(try simp only [List.length_map] at hb))
 (repeat' (first|(refine hK _ ?_;clear hK K)|(refine aM (fun K hK=>?_))|(refine gR ?_;refine aP ?_)|(refine gQ ?_;refine aS (fun hc=>?_) (fun hc=>?_)<;>(try (first|contradiction|omega)))|(refine aN ?_)|(refine gT ?_;refine aZ ?_)|(refine gS ?_;refine aX ?_)))
 ·(refine aT (Le.refl _) (aQ (aO ab)) af ?_)
  rw [gK,if_pos aj]
 have hF:gK ⟨ty,ob,pr,sc,ini,go⟩ ps l m=(bD (tg ⟨ty,ob,pr,sc,ini,go⟩ ps l) l.length).getD 0:=by rw [gK,if_neg aj]
 refine bO [8,10,11,18,19,20,21,22,23,24,25,26,27,28,29] (fun k:Nat=>k≤l.length∧bD (tg ⟨ty,ob,pr,sc,ini,go⟩ ps l) k=none) (fun k=>l.length - k) (fun k=>[(18,.int k)]) (fun _=>[(4,⟨29,[fT ty,fT ob,fi pr,jn sc,cZ ini,dM go],true⟩)]) 0 ⟨by omega,rfl⟩ ?_ ?_
 ·(refine cm ?_)
  (exact bd)
 ·rintro k ⟨hk,hn⟩ K hK
  (refine cm ?_)
  by_cases hlt:k < l.length
  ·have hk2:=hat l[k]
   have hg:tg ⟨ty,ob,pr,sc,ini,go⟩ ps l k=if mR ⟨ty,ob,pr,sc,ini,go⟩ ps l[k]=0 then none else some (mR ⟨ty,ob,pr,sc,ini,go⟩ ps l[k]):=by rw [tg,bY hlt]
   generalize mR ⟨ty,ob,pr,sc,ini,go⟩ ps l[k]=e at *
   (repeat' (first|(refine hK _ ?_;clear hK K)|(refine aM (fun K hK=>?_))|(refine gR ?_;refine aP ?_)|(refine gC 267 ?_;refine bp (hk2) ?_)|(refine gE ?_;(first|(refine cc ?_)|(refine dL (fun _=>?_))))|(refine gQ ?_;refine aS (fun hc=>?_) (fun hc=>?_)<;>(try (first|contradiction|omega)))|(refine aN ?_)|(refine gT ?_;refine aZ ?_)|(refine gS ?_;refine aX ?_)))
   ·(refine aT (Le.refl _) (aQ (aO ab)) af ?_)
    rw [if_neg az] at hg
    rw [hF,cQ hn hg hlt]
    rfl
   ·rw [if_pos az] at hg
    (refine ⟨k+1,⟨by omega,dy hn hg⟩,by omega,?_⟩;(refine cm ?_);(exact bd))
  ·(repeat' (first|(refine hK _ ?_;clear hK K)|(refine aM (fun K hK=>?_))|(refine gR ?_;refine aP ?_)|(refine gQ ?_;refine aS (fun hc=>?_) (fun hc=>?_)<;>(try (first|contradiction|omega)))|(refine gX ?_;refine bV ?_)|(refine gT ?_;refine aZ ?_)|(apply_assumption (exfalso:=false) (symm:=false))))
   (refine aT (Le.refl _) (aQ (aO ab)) af ?_)
   obtain rfl:k=l.length:=by omega
   rw [hF,hn]
   rfl
abbrev jO (x:bB):List AV:=[.int x.p,ints x.a]
@[go_sem] theorem rI (l:List bB):(l.map bB.av).flatMap AV.cells=l.flatMap jO:=by rw [List.flatMap_map];rfl
@[go_sem] theorem ON (a b:List bB):(a++b).flatMap jO=a.flatMap jO++b.flatMap jO:=List.flatMap_append
@[go_sem] theorem OO (l:List bB):(l.flatMap jO).length=l.length * 2:=by
 induction l with
 |nil=>rfl
 |cons w l ih=>simp [List.flatMap_cons,ih];omega
@[go_sem] theorem M6 (id:Nat) (l:List bB):AV.ct id (l.flatMap jO)=l.flatMap jO:=gY id jO l fun _=>rfl
@[go_sem] theorem N7 (id:Nat) (l:List bB):AV.bz id (l.flatMap jO)=false:=eU id jO l fun _=>rfl
theorem rJ (l:List bB):AV.cj (l.flatMap jO)=true:=fK jO l fun _=>rfl
@[go_sem] theorem M7 (id sz bw n:Nat) (es:List AV) (l:List bB):AV.du id sz bw n es (l.flatMap jO)=l.flatMap jO:=ew (rJ l)
def vj (d:dB) (ps:List Int) (l:List cz):Int:=gK d ps (l.map cz.x) 8
theorem zY (d:dB) (ps:List Int) (l:List cz) (hl:vg d.types) (ho:rB d.types d.dT) (hp:vi d ps):bg Tryz.prog 207 [d.av,ints ps,dM l] (fun r=>r= .int (vj d ps l)):=by
 have hat:=o6 d ps (l.map cz.x) 8 hl ho hp
 obtain ⟨ty,ob,pr,sc,ini,go⟩:=d
 (refine bh Tryz.func207 Tryz.ntmps207 ?_)
 (refine cL (i:=2) rfl (fun hb=>?_);(try simp only [List.length_map] at hb))
 (repeat' (first|(refine hK _ ?_;clear hK K)|(refine aM (fun K hK=>?_))|(refine gR ?_;refine aP ?_)|(refine aN ?_)))
 (refine j1 7 100 2 32 66 ?_)
 refine bO [7,9,12,13,14,15,16,17,18,19,20,21] (fun k:Nat=>k≤l.length) (fun k=>l.length - k) (fun k=>[(12,.int k),(7,.sl 2 32 100 0 k)]) (fun k=>[(3,⟨29,[fT ty,fT ob,fi pr,jn sc,cZ ini,dM go],true⟩),(100,⟨66,((l.take k).map cz.x).flatMap jO,false⟩)]) 0 aj ?_ ?_
 ·(refine cm ?_)
  (exact bd)
 ·rintro k hk K hK
  (refine cm ?_)
  by_cases hlt:k < l.length
  ·(repeat' (first|(refine hK _ ?_;clear hK K)|(refine aM (fun K hK=>?_))|(refine gR ?_;refine aP ?_)|(refine bn (fun K hK=>?_);(refine cF ?_;simp only [go_sem,seval,dj,aV]))|(refine gE ?_;(first|(refine cc ?_)|(refine dL (fun _=>?_))))|(refine gQ ?_;refine aS (fun hc=>?_) (fun hc=>?_)<;>(try (first|contradiction|omega)))|(refine gW ?_;refine bN ?_)|(refine aN ?_)|(refine gS ?_;refine aX ?_)))
   have hst:((l.take (k+1)).map cz.x).flatMap jO=((l.take k).map cz.x).flatMap jO++[.int l[k].x.p,ints l[k].x.a]:=by
    rw [List.take_succ_eq_append_getElem hlt,List.map_append,List.flatMap_append];rfl
   refine ⟨k+1,by omega,by omega,?_⟩
   rw [hst]
   (refine cm ?_)
   (exact bd)
  ·obtain rfl:k=l.length:=by omega
   rw [List.take_length]
   (repeat' (first|(refine hK _ ?_;clear hK K)|(refine aM (fun K hK=>?_))|(refine fH 7 ab ?_;refine aP ?_)|(refine gQ ?_;refine aS (fun hc=>?_) (fun hc=>?_)<;>(try (first|contradiction|omega)))|(refine gX ?_;refine bV ?_)|(apply_assumption (exfalso:=false) (symm:=false))))
   (refine cT (eg (f:=bB.av) 100 2 32 l.length (l.map cz.x) ab (rI _) aJ (fun _=>rfl) (fun _=>rfl) aj) ?_;try simp only [go_sem,seval])
   (repeat' (first|(refine hK _ ?_;clear hK K)|(refine gR ?_;refine aP ?_)|(refine gC 237 ?_;refine bp (hat) ?_)|(refine gT ?_;refine aZ ?_)))
   (refine aT (Le.refl _) (aQ (aO ab)) af ?_)
   rfl
end Go.Proofs.YtkbiagkbmodgdaaGreat
namespace Go.Proofs.YtkbiagkbmodgdaaGreat
open Go.Ab
open Go
set_option maxRecDepth 10000
attribute [local irreducible] dE fh mC lW db PV eR ef AW bg dn ec dP cO Ab.Fin ft en gI iO RV jX Le eI fM mg gV kf dz dg
set_option maxHeartbeats 4000000
attribute [local go_sem] fp
def J4 (n:Nat) (t:Int):Bool:=decide (t < -1)|| decide ((n:Int)≤t)
theorem J5 (d:dB) (xs:List Int):dt 265 [.bx d.cs] AV.int (J4 d.types.length) xs:=by
 intro t ht
 obtain ⟨ty,ob,pr,sc,ini,go⟩:=d
 (refine bh Tryz.func265 Tryz.ntmps265 ?_)
 (repeat' (first|(refine hK _ ?_;clear hK K)|(refine aM (fun K hK=>?_))|(refine gR ?_;refine aP ?_)|(refine gG ?_;refine cB (fun hc=>?_) (fun hc=>?_)<;>(try (first|contradiction|omega)))|(refine gT ?_;refine aZ ?_)))
 all_goals (refine aT (Le.refl _) (aQ (aO ab)) af ?_)
 all_goals simp [J4]
 all_goals omega
def nN (d:dB) (ps:List Int):Int:=if 3 < ps.length then 2 else if ps.any (J4 d.types.length)=true then 3 else 0
theorem qp {d:dB} {ps:List Int} (h:nN d ps=0):ps.length≤3∧vi d ps:=by
 unfold nN at h
 split at h
 ·omega
 ·split at h
  ·omega
  ·rename_i h1 h2
   refine ⟨by omega,fun i hi=>?_⟩
   simp only [Bool.not_eq_true,List.any_eq_false] at h2
   have:=h2 _ (List.getElem_mem hi)
   simp [J4] at this
   omega
theorem w5 (d:dB) (ps:List Int):bg Tryz.prog 233 [d.av,ints ps] (fun r=>r= .int (nN d ps)):=by
 (refine bh Tryz.func233 Tryz.ntmps233 ?_)
 (repeat' (first|(refine hK _ ?_;clear hK K)|(refine aM (fun K hK=>?_))|(refine gR ?_;refine aP ?_)|(refine gC 55 ?_;refine bp (nT _ 265 [.bx d.cs] rfl _ (J5 d _)) ?_)|(refine bn (fun K hK=>?_);refine fD (bQ 2 rfl rfl rfl) ?_;simp only [go_sem,seval];refine bK cD ?_)|(refine gQ ?_;refine aS (fun hc=>?_) (fun hc=>?_)<;>(try (first|contradiction|omega)))|(refine gW ?_;refine bN ?_)|(refine gT ?_;refine aZ ?_)|(refine gS ?_;refine aX ?_)))
 all_goals (refine aT (Le.refl _) (aQ (aO ab)) af ?_)
 all_goals simp only [nN]
 ·rw [if_pos aj]
 ·rw [if_neg aj,if_pos az]
 ·rw [if_neg aj,if_neg (by simp_all)]
def tf (d:dB) (i:Nat):Int:=
 if tj d.cC[i]!.name=false∨d.cC[i]!.name.b.toList=J1.toList then 12
 else if (d.cC.take i).any (fun u=>tk u.name d.cC[i]!.name)=true then 7
 else nN d d.cC[i]!.ts
theorem GK (d:dB) (i:Nat) (h:i < d.cC.length):bg Tryz.prog 204 [d.av,.int i] (fun r=>r= .int (tf d i)):=by
 have hpar:=fun ps=>w5 d ps
 have hg:=bY h
 obtain ⟨ty,ob,pr,sc,ini,go⟩:=d
 simp only at h hg
 (refine bh Tryz.func204 Tryz.ntmps204 ?_)
 (repeat' (first|(refine hK _ ?_;clear hK K)|(refine aM (fun K hK=>?_))|(refine gR ?_;refine aP ?_)|(refine gC 226 ?_;refine bp (pe _) ?_)|(refine gC 231 ?_;refine bp (Hi _ 232 [.bx [str _,ints _]] rfl _ (Hm ⟨_,_⟩ _)) ?_)|(refine gC 233 ?_;refine bp (hpar _) ?_)|(refine bn (fun K hK=>?_);refine fD (bQ 5 rfl rfl rfl) ?_;simp only [go_sem,seval];refine bK cD ?_)|(refine gE ?_;(first|(refine cc ?_)|(refine dL (fun _=>?_))))|(refine gG ?_;refine cB (fun hc=>?_) (fun hc=>?_)<;>(try (first|contradiction|omega)))|(refine gQ ?_;(first|(refine cf ?_)|(refine aS (fun hc=>?_) (fun hc=>?_)<;>(try (first|contradiction|omega)))))|(refine gW ?_;refine bN ?_)|(refine aN ?_)|(refine gT ?_;refine aZ ?_)|(refine gS ?_;refine aX ?_)))
 all_goals (refine aT (Le.refl _) (aQ (aO ab)) af ?_)
 all_goals (simp only [tf,hg,List.get_eq_getElem] at *)
 all_goals (simp only [*,J1,or_self,or_true,true_or,false_or,or_false,if_false,if_true,Bool.false_eq_true,Bool.true_eq_false])
theorem Hr (t:gJ) (l:List gJ):dt 235 [.bx [str t.name,ints t.ts,vp t.diff,dM t.pre,cZ t.add,cZ t.del,.int t.cost]] gJ.av (fun u=>tk u.name t.name) l:=by
 intro u hu
 (refine bh Tryz.func235 Tryz.ntmps235 ?_)
 (repeat' (first|(refine hK _ ?_;clear hK K)|(refine aM (fun K hK=>?_))|(refine gR ?_;refine aP ?_)|(refine gT ?_;refine aZ ?_)))
 (refine aT (Le.refl _) (aQ (aO ab)) af ?_)
 rfl
def GS (n:Nat) (p:Int×Int):Bool:=decide (p.1 < 0)|| decide (p.2≤p.1)|| decide ((n:Int)≤p.2)
theorem J6 (n:Nat) (xs:List (Int×Int)):dt 236 [.bx [.int n]] L1 (GS n) xs:=by
 intro t ht
 (refine bh Tryz.func236 Tryz.ntmps236 ?_)
 (repeat' (first|(refine hK _ ?_;clear hK K)|(refine aM (fun K hK=>?_))|(refine gR ?_;refine aP ?_)|(refine gE ?_;refine cc ?_)|(refine gG ?_;refine cB (fun hc=>?_) (fun hc=>?_)<;>(try (first|contradiction|omega)))|(refine gT ?_;refine aZ ?_)))
 all_goals (refine aT (Le.refl _) (aQ (aO ab)) af ?_)
 all_goals simp [GS]
 all_goals omega
def z6 (d:dB) (l:List gJ) (s:gJ):Int:=
 if tj s.name=false then 12
 else if l.any (fun u=>tk u.name s.name)=true then 7
 else if nN d s.ts≠0 then nN d s.ts
 else if 8 < s.diff.length then 2
 else if s.diff.any (GS s.ts.length)=true then 3
 else if vj d s.ts s.pre≠0 then vj d s.ts s.pre
 else if gK d s.ts s.add 8≠0 then gK d s.ts s.add 8
 else if gK d s.ts s.del 8≠0 then gK d s.ts s.del 8
 else if s.cost < 0∨100 < s.cost then 3 else 0
def zW (d:dB) (i:Nat):Int:=z6 d (d.eh.take i) d.eh[i]!
theorem JA (d:dB) (i:Nat) (h:i < d.eh.length) (hl:vg d.types) (ho:rB d.types d.dT):bg Tryz.prog 205 [d.av,.int i] (fun r=>r= .int (zW d i)):=by
 have hpar:=fun ps=>w5 d ps
 have hlit:=fun (hp:vi d d.eh[i].ts)=>zY d d.eh[i].ts d.eh[i].pre hl ho hp
 have hadd:=fun (hp:vi d d.eh[i].ts)=>o6 d d.eh[i].ts d.eh[i].add 8 hl ho hp
 have fy:=fun (hp:vi d d.eh[i].ts)=>o6 d d.eh[i].ts d.eh[i].del 8 hl ho hp
 have hpok:=@qp d d.eh[i].ts
 have hg:=bY h
 obtain ⟨ty,ob,pr,sc,ini,go⟩:=d
 simp only at h hg hlit hadd fy hpok
 simp only [zW,hg]
 (refine bh Tryz.func205 Tryz.ntmps205 ?_)
 (repeat' (first|(refine hK _ ?_;clear hK K)|(refine aM (fun K hK=>?_))|(refine fH 9 ab ?_;refine aP ?_)|(refine gC 226 ?_;refine bp (pe _) ?_)|(refine gC 234 ?_;refine bp (Hj _ 235 [.bx [str _,ints _,vp _,dM _,cZ _,cZ _,.int _]] rfl _ (Hr ⟨_,_,_,_,_,_,_⟩ _)) ?_)|(refine gC 233 ?_;refine bp (hpar _) ?_)|(refine bn (fun K hK=>?_);refine fD (bQ 5 rfl rfl rfl) ?_;simp only [go_sem,seval];refine bK cD ?_)|(refine gE ?_;(first|(refine cc ?_)|(refine dL (fun _=>?_))))|(refine gQ ?_;refine aS (fun hc=>?_) (fun hc=>?_)<;>(try (first|contradiction|omega)))|(refine gW ?_;refine bN ?_)|(refine aN ?_)|(refine gT ?_;refine aZ ?_)|(refine gS ?_;refine aX ?_)))
 ·(refine aT (Le.refl _) (aQ (aO ab)) af ?_)
  simp only [z6,List.get_eq_getElem] at *
  simp only [*,if_true]
 ·(refine aT (Le.refl _) (aQ (aO ab)) af ?_)
  simp only [z6,List.get_eq_getElem] at *
  simp only [*,if_true,if_false,Bool.true_eq_false]
 ·(refine aT (Le.refl _) (aQ (aO ab)) af ?_)
  simp only [z6,List.get_eq_getElem] at *
  simp only [*,if_true,if_false,Bool.true_eq_false,Bool.false_eq_true,ne_eq,not_false_eq_true]
 have hts:=(hpok az).2
 have h1:=hlit hts
 have h2:=hadd hts
 have h3:=fy hts
 obtain ⟨eL,heL⟩:∃ e,vj ⟨ty,ob,pr,sc,ini,go⟩ sc[i].ts sc[i].pre=e:=⟨_,rfl⟩
 obtain ⟨eA,heA⟩:∃ e,gK ⟨ty,ob,pr,sc,ini,go⟩ sc[i].ts sc[i].add 8=e:=⟨_,rfl⟩
 obtain ⟨eD,heD⟩:∃ e,gK ⟨ty,ob,pr,sc,ini,go⟩ sc[i].ts sc[i].del 8=e:=⟨_,rfl⟩
 rw [heL] at h1
 rw [heA] at h2
 rw [heD] at h3
 have hQ:z6 ⟨ty,ob,pr,sc,ini,go⟩ (sc.take i) sc[i]=if 8 < sc[i].diff.length then 2
   else if sc[i].diff.any (GS sc[i].ts.length)=true then 3
   else if eL≠0 then eL else if eA≠0 then eA else if eD≠0 then eD
   else if sc[i].cost < 0∨100 < sc[i].cost then 3 else 0:=by
  simp only [z6,List.get_eq_getElem] at *
  simp only [*,if_true,if_false,Bool.true_eq_false,Bool.false_eq_true,ne_eq,not_true_eq_false]
 clear hlit hadd fy hpok
 (repeat' (first|(refine hK _ ?_;clear hK K)|(refine aM (fun K hK=>?_))|(refine gR ?_;refine aP ?_)|(refine gC 113 ?_;refine bp (Ae _ 236 [.bx [.int _]] rfl _ (J6 _ _)) ?_)|(refine gC 207 ?_;refine bp (h1) ?_)|(refine bn (fun K hK=>?_);refine fD (bQ 7 rfl rfl rfl) ?_;simp only [go_sem,seval];refine bK cD ?_)|(refine gE ?_;refine cc ?_)|(refine gQ ?_;refine aS (fun hc=>?_) (fun hc=>?_)<;>(try (first|contradiction|omega)))|(refine gW ?_;refine bN ?_)|(refine aN ?_)|(refine gT ?_;refine aZ ?_)|(refine gS ?_;refine aX ?_)))
 ·(refine aT (Le.refl _) (aQ (aO ab)) af ?_)
  rw [hQ,if_pos aj]
 ·(refine aT (Le.refl _) (aQ (aO ab)) af ?_)
  rw [hQ,if_neg aj,if_pos az]
 ·(refine aT (Le.refl _) (aQ (aO ab)) af ?_)
  rw [hQ,if_neg aj,if_neg (by simp only [*];exact Bool.false_ne_true),if_pos az]
 rw [if_neg aj,if_neg (by simp only [*];exact Bool.false_ne_true),if_neg (by simp only [*,ne_eq,not_true_eq_false,not_false_eq_true])] at hQ
 refine bO [4,11,12,64,65,66,67,68,69,70,71,72,73,74,75,76] (fun k:Nat=>k≤2∧(1≤k→eA=0)∧(2≤k→eD=0)) (fun k=>2 - k) (fun k=>[(64,.int k)]) (fun _=>[(2,⟨29,[fT ty,fT ob,fi pr,jn sc,cZ ini,dM go],true⟩)]) 0 ax ?_ ?_
 ·(refine cm ?_)
  (exact bd)
 ·rintro k ⟨hk,k1,k2⟩ K hK
  (refine cm ?_)
  obtain rfl|rfl|rfl:k=0∨k=1∨k=2:=by omega
  ·
   (repeat' (first|(refine hK _ ?_;clear hK K)|(refine aM (fun K hK=>?_))|(refine gR ?_;refine aP ?_)|(refine gC 237 ?_;refine bp (h2) ?_)|(refine gE ?_;refine cc ?_)|(refine gQ ?_;(first|(refine cf ?_)|(refine aS (fun hc=>?_) (fun hc=>?_)<;>(try (first|contradiction|omega)))))|(refine aN ?_)|(refine gT ?_;refine aZ ?_)|(refine gS ?_;refine aX ?_)))
   ·(refine aT (Le.refl _) (aQ (aO ab)) af ?_)
    rw [hQ,if_pos az]
   ·(refine ⟨1,⟨by omega,fun _=>by assumption,by omega⟩,by omega,?_⟩;(refine cm ?_);(exact bd))
  ·
   (repeat' (first|(refine hK _ ?_;clear hK K)|(refine aM (fun K hK=>?_))|(refine gR ?_;refine aP ?_)|(refine gC 237 ?_;refine bp (h3) ?_)|(refine gE ?_;refine cc ?_)|(refine gQ ?_;(first|(refine cf ?_)|(refine aS (fun hc=>?_) (fun hc=>?_)<;>(try (first|contradiction|omega)))))|(refine aN ?_)|(refine gT ?_;refine aZ ?_)|(refine gS ?_;refine aX ?_)))
   ·(refine aT (Le.refl _) (aQ (aO ab)) af ?_)
    rw [hQ,if_neg (by have:=k1 aj;omega),if_pos az]
   ·(refine ⟨2,⟨by omega,fun _=>k1 aj,fun _=>by assumption⟩,by omega,?_⟩;(refine cm ?_);(exact bd))
  ·(repeat' (first|(refine hK _ ?_;clear hK K)|(refine aM (fun K hK=>?_))|(refine gR ?_;refine aP ?_)|(refine gG ?_;refine cB (fun hc=>?_) (fun hc=>?_)<;>(try (first|contradiction|omega)))|(refine gQ ?_;(first|(refine cf ?_)|(refine bT ?_)|(refine aS (fun hc=>?_) (fun hc=>?_)<;>(try (first|contradiction|omega)))))|(refine gX ?_;refine bV ?_)|(refine gT ?_;refine aZ ?_)|(refine gS ?_;refine aX ?_)|(apply_assumption (exfalso:=false) (symm:=false))))
   all_goals (refine aT (Le.refl _) (aQ (aO ab)) af ?_)
   all_goals rw [hQ,if_neg (by have:=k1 aj;omega),if_neg (by have:=k2 aj;omega)]
   all_goals first|(rw [if_pos aj];done)|(rw [if_neg aj];done)
end Go.Proofs.YtkbiagkbmodgdaaGreat
