/- Part of a proof: of two right answers both have a plan, at one cost, or none. No condition. -/
import Derived.Test.YtkbiagkbmodgdaaGreatZabo
set_option linter.unusedSimpArgs false
set_option linter.unusedVariables false
set_option maxRecDepth 20000
namespace Go.Ab
open Go.RowKit
variable {P:Program}
def je (ops:Array Oper) (k:Nat):Option Tmp:=(ops[k]?).bind (·.dst)
def Ji (ops:Array Oper) (i k:Nat):Bool:=((Region.before ops).getD i 0).testBit k
def tw (ops:Array Oper) (xs:List AV) (F0:List AV):Nat→List AV
 |0=>F0
 |n+1=>match je ops n with
  |some t=>(tw ops xs F0 n).set t (xs[n]?.getD .any)
  |none=>tw ops xs F0 n
def oB (U:List Nat):Nat→List AV→List AV
 |_,[]=>[]
 |k,x::r=>(if U.contains k then x else .any)::oB U (k+1) r
theorem wR (U:List Nat):∀ (l:List AV) (k t:Nat),(oB U k l)[t]?=(l[t]?).map fun x=>if U.contains (k+t) then x else .any
 |[],k,t=>by simp [oB]
 |x::r,k,0=>by simp [oB]
 |x::r,k,t+1=>by
  rw [oB,List.getElem?_cons_succ,List.getElem?_cons_succ,wR U r (k+1) t,show k+1+t=k+(t+1) by omega]
theorem wS (U:List Nat):∀ (l:List AV) (k:Nat),(oB U k l).length=l.length
 |[],_=>rfl
 |x::r,k=>by rw [oB,List.length_cons,List.length_cons,wS U r]
theorem Ew {f g:List AV} {hp:Hp} (hl:f.length=g.length) (h:∀ (t:Nat) x,g[t]?=some x→x= .any∨f[t]?=some x) {R:Rg} {β:cM} {G:bE} {a:Act} {w:World} (hr:eE R β G ⟨f,hp⟩ a w):eE R β G ⟨g,hp⟩ a w:=by
 refine ⟨hr.defers,by rw [hr.size];exact hl,fun i x y hx hy=>?_,hr.hp⟩
 rcases h i x hx with rfl|h
 ·exact .any
 ·exact hr.fr i x y h hy
theorem rn (ops:Array Oper) (xs F0:List AV):∀ n,(tw ops xs F0 n).length=F0.length
 |0=>rfl
 |n+1=>by
  rw [tw]
  split
  ·rw [List.length_set,rn ops xs F0 n]
  ·exact rn ops xs F0 n
theorem uW {ops:Array Oper} {xs F0:List AV} {t:Nat}:∀ n,(∀ k,k < n→je ops k≠some t)→(tw ops xs F0 n)[t]?=F0[t]?
 |0,_=>rfl
 |n+1,h=>by
  rw [tw]
  split
  ·rename_i u hu
   have:u≠t:=fun e=>h n aj (by rw [hu,e])
   rw [List.getElem?_set_ne this,uW n fun k hk=>h k aj]
  ·exact uW n fun k hk=>h k aj
theorem uX {ops:Array Oper} {xs F0:List AV} {t k:Nat} (hd:∀ i j u,je ops i=some u→je ops j=some u→i=j) (hk:je ops k=some t) (ht:t < F0.length) :
  ∀ n,k < n→(tw ops xs F0 n)[t]?=some (xs[k]?.getD .any)
 |0,h=>by omega
 |n+1,h=>by
  rw [tw]
  by_cases e:k=n
  ·subst e
   rw [hk]
   simp only
   rw [List.getElem?_set_self (by rw [rn];exact ht)]
  ·split
   ·rename_i u hu
    have:u≠t:=fun e2=>e (hd _ _ _ hk (by rw [hu,e2]))
    rw [List.getElem?_set_ne this,uX hd hk ht n aj]
   ·exact uX hd hk ht n aj
def KT (ops:Array Oper):Bool:=decide ((ops.toList.filterMap (·.dst)).Nodup)
def NN (ops:Array Oper) (U:List (List Nat)):Bool:=(List.range ops.size).all fun i=>(U.getD i []).all fun t=>(List.range ops.size).all fun k=>!(je ops k == some t)|| Ji ops i k
def NO (ops:Array Oper):Bool:=(List.range ops.size).all fun i=>match ops[i]? with
 |some o=>o.after.all fun e=>!Region.binds .any e|| decide (e.on < i)
 |none=>true
def LU (ops:Array Oper) (cs:List Nat):Bool:=(List.range cs.length).all fun m=>decide (m+1 < cs.length→Ji ops (cs.getD (m+1) 0) (cs.getD m 0)=true)
def LV (ops:Array Oper) (cs:List Nat) (ps:List (Nat×Nat)):Bool:=(List.range ops.size).all fun i=>cs.contains i|| (List.range (cs.length+1)).all fun j=>
 ((List.range cs.length).any fun m=>if m < j then Ji ops (cs.getD m 0) i else Ji ops i (cs.getD m 0))|| ps.contains (i,j)
def Jj (ops:Array Oper) (U:List (List Nat)) (cs:List Nat) (ps:List (Nat×Nat)):Bool:=KT ops&&NN ops U&&NO ops&&LU ops cs&&LV ops cs ps&&decide (cs.Nodup)&&cs.all fun c=>decide (c < ops.size)
theorem Jk {ops:Array Oper} (h:KT ops=true):∀ i j u,je ops i=some u→je ops j=some u→i=j:=by
 have h:=of_decide_eq_true h
 have key:∀ (l:List Oper),(l.filterMap (·.dst)).Nodup→∀ (i j:Nat) (u:Tmp),(l[i]?).bind (·.dst)=some u→(l[j]?).bind (·.dst)=some u→i=j:=fun l=>by
  induction l with
  |nil=>intro _ i j u hi;simp at hi
  |cons o r ih=>
   intro hn i j u hi hj
   have hmem:∀ k:Nat,(r[k]?).bind (·.dst)=some u→u∈r.filterMap (·.dst):=fun k hk=>by
    rw [Option.bind_eq_some_iff] at hk
    obtain ⟨q,hq,hq2⟩:=hk
    exact List.mem_filterMap.2 ⟨q,List.mem_of_getElem? hq,hq2⟩
   cases ho:o.dst with
   |none=>
    rw [List.filterMap_cons_none ho] at hn
    cases i with
    |zero=>simp [ho] at hi
    |succ i=>cases j with
     |zero=>simp [ho] at hj
     |succ j=>rw [ih hn i j u (by simpa using hi) (by simpa using hj)]
   |some v=>
    rw [List.filterMap_cons_some ho,List.nodup_cons] at hn
    cases i with
    |zero=>cases j with
     |zero=>rfl
     |succ j=>
      simp [ho] at hi
      subst hi
      exact absurd (hmem j (by simpa using hj)) hn.1
    |succ i=>cases j with
     |zero=>
      simp [ho] at hj
      subst hj
      exact absurd (hmem i (by simpa using hi)) hn.1
     |succ j=>rw [ih hn.2 i j u (by simpa using hi) (by simpa using hj)]
 intro i j u hi hj
 exact key ops.toList h i j u (by simpa [je] using hi) (by simpa [je] using hj)
theorem xU {ops:Array Oper} {k t:Nat} (h:je ops k=some t):k < ops.size:=by
 unfold je at h
 rcases Nat.lt_or_ge k ops.size with h'|h'
 ·exact h'
 ·rw [Array.getElem?_eq_none h'] at h;cases h
theorem wc {ops:Array Oper} {listed:Array Bool} (hc:Closed ops listed) {k:Nat}:∀ (n j:Nat),n=j→listed.getD j false=true→j < ops.size→Ji ops j k=true→listed.getD k false=true:=by
 intro n
 induction n using Nat.strongRecOn with
 |_ n ih=>
  intro j hn hl hj hb
  subst hn
  obtain ⟨o,ho⟩:∃ o,ops[n]?=some o:=⟨ops[n],Array.getElem?_eq_getElem hj⟩
  obtain ⟨e,he,hbi,h⟩:=(ov ops).2 n o ho k hb
  have h1:=hc n o ho hl e he hbi
  rcases h with h|⟨hlt,h⟩
  ·rw [← h];exact h1
  ·exact ih e.on hlt e.on rfl h1 aj h
theorem nG {ops:Array Oper} {listed:Array Bool} (hc:Closed ops listed) {i k:Nat} (hi:i∈Region.ready .any ops listed) (hb:Ji ops i k=true):listed.getD k false=true:=by
 obtain ⟨_,o,ho,hall⟩:=mem_ready.1 hi
 cases hk:listed.getD k false with
 |true=>rfl
 |false=>rw [Ji,nS hc hk i i o rfl ho hall] at hb;cases hb
structure Gp (ops:Array Oper) (F0 xs:List AV) (cs:List Nat) (listed:Array Bool) (f:List AV) (j:Nat):Prop where
 len:f.length=F0.length
 sT:∀ t,(∀ k,je ops k≠some t)→f[t]?=F0[t]?
 new:∀ k t,listed.getD k false=true→je ops k=some t→t < F0.length→f[t]?=some (xs[k]?.getD .any)
 mem:∀ x∈f,x∈F0∨x∈xs∨x= .any
 st:∀ m c,cs[m]?=some c→(listed.getD c false=true↔m < j)
 jl:j≤cs.length
 sz:listed.size=ops.size
def xV (f:List AV) (d:Option Tmp) (x:AV):List AV:=match d with|some t=>f.set t x|none=>f
theorem LW (f:List AV) (hp:Hp) (d:Option Tmp) (x:AV):St.put ⟨f,hp⟩ d x=⟨xV f d x,hp⟩:=by cases d<;>rfl
theorem mem_set {α:Type} {l:List α} {i:Nat} {a x:α} (h:x∈l.set i a):x∈l∨x=a:=List.mem_or_eq_of_mem_set h
theorem Gp.step {ops:Array Oper} {F0 xs:List AV} {cs:List Nat} {listed:Array Bool} {f:List AV} {j i j':Nat} (h:Gp ops F0 xs cs listed f j) (hd:∀ i j u,je ops i=some u→je ops j=some u→i=j) (hi:i < ops.size)
  (hst:∀ m c,cs[m]?=some c→((listed.setIfInBounds i true).getD c false=true↔m < j')) (hj:j'≤cs.length) :
  Gp ops F0 xs cs (listed.setIfInBounds i true) (xV f (je ops i) (xs[i]?.getD .any)) j':=by
 have hq:∀ k,(listed.setIfInBounds i true).getD k false=true→k=i∨listed.getD k false=true:=fun k hk=>by
  by_cases e:i=k
  ·exact .inl e.symm
  ·rw [getD_set_ne false e] at hk;exact .inr hk
 refine ⟨?_,fun t ht=>?_,fun k t hk hkt hlt=>?_,fun x hx=>?_,hst,hj,by rw [Array.size_setIfInBounds];exact h.sz⟩
 ·unfold xV;split<;>simp [h.len]
 ·unfold xV
  split
  ·rename_i u hu
   rw [List.getElem?_set_ne (fun e=>ht i (by rw [hu,e]))];exact h.sT t ht
  ·exact h.sT t ht
 ·unfold xV
  rcases hq k hk with rfl|hk'
  ·rw [hkt]
   simp only
   rw [List.getElem?_set_self (by rw [h.len];exact hlt)]
  ·split
   ·rename_i u hu
    by_cases e:u=t
    ·subst e
     obtain rfl:=hd _ _ _ hu hkt
     rw [List.getElem?_set_self (by rw [h.len];exact hlt)]
    ·rw [List.getElem?_set_ne e];exact h.new k t hk' hkt hlt
   ·exact h.new k t hk' hkt hlt
 ·unfold xV at hx
  split at hx
  ·rcases mem_set hx with hx|hx
   ·exact h.mem x hx
   ·right
    cases hv:xs[i]? with
    |none=>right;rw [hx,hv];rfl
    |some v=>left;rw [hx,hv];exact List.mem_of_getElem? hv
  ·exact h.mem x hx
abbrev Pf (P:Program) (ops:Array Oper) (i:Nat) (s:St) (x:AV):Prop:=∃ o,ops[i]?=some o∧o.guard=none∧PV P o.op s x
abbrev Pg (P:Program) (ops:Array Oper) (i:Nat) (s:St) (K:St→Prop):Prop:=∃ o,ops[i]?=some o∧o.guard=none∧eR P o s K
theorem Jl {ops:Array Oper} {F0 xs FF:List AV} {U:List (List Nat)} {cs:List Nat} {ps:List (Nat×Nat)} {H:Nat→Hp} {K:St→Prop} (hB:Jj ops U cs ps=true) (hFF:tw ops xs F0 ops.size=FF)
  (hR:∀ p∈ps,Pf P ops p.1 ⟨oB (U.getD p.1 []) 0 FF,H p.2⟩ (xs[p.1]?.getD .any))
  (hC:∀ m c,cs[m]?=some c→∀ f:List AV,f.length=F0.length→(∀ t∈U.getD c [],f[t]?=FF[t]?)→(∀ x∈f,x∈F0∨x∈xs∨x= .any)→∀ K':St→Prop,K' ⟨xV f (je ops c) (xs[c]?.getD .any),H (m+1)⟩→Pg P ops c ⟨f,H m⟩ K')
  (hK:K ⟨FF,H cs.length⟩):∀ (fuel:Nat) (listed:Array Bool) (f:List AV) (j:Nat),Gp ops F0 xs cs listed f j→listed.toList.count false≤fuel→dg P ops [] fuel listed ⟨f,H j⟩ K:=by
 simp only [Jj,Bool.and_eq_true] at hB
 obtain ⟨⟨⟨⟨⟨⟨b1,b2⟩,b3⟩,b4⟩,b5⟩,b6⟩,b7⟩:=hB
 have hd:=Jk b1
 have hnd:cs.Nodup:=of_decide_eq_true b6
 have huse:∀ i t k,i < ops.size→t∈U.getD i []→je ops k=some t→Ji ops i k=true:=fun i t k hi ht hk=>by
  have h1:=List.all_eq_true.1 (List.all_eq_true.1 (List.all_eq_true.1 b2 i (List.mem_range.2 hi)) t ht) k (List.mem_range.2 (xU hk))
  simpa [hk] using h1
 have hback:∀ i o,ops[i]?=some o→∀ e∈o.after,Region.binds .any e=true→e.on < i:=fun i o ho e he hb=>by
  have hi:i < ops.size:=by
   rcases Nat.lt_or_ge i ops.size with h'|h'
   ·exact h'
   ·rw [Array.getElem?_eq_none h'] at ho;cases ho
  have h1:=List.all_eq_true.1 b3 i (List.mem_range.2 hi)
  rw [ho] at h1
  have h2:=Array.all_eq_true_iff_forall_mem.1 h1 e he
  simpa [hb] using h2
 have hchain:∀ m c c',cs[m]?=some c→cs[m+1]?=some c'→Ji ops c' c=true:=fun m c c' h1 h2=>by
  have hm:m+1 < cs.length:=bS h2
  have h3:=List.all_eq_true.1 b4 m (List.mem_range.2 aj)
  have h4:=(of_decide_eq_true h3) hm
  simpa [h1,h2] using h4
 have hFo:∀ t,(∀ k,je ops k≠some t)→FF[t]?=F0[t]?:=fun t ht=>by rw [← hFF];exact uW _ fun k _=>ht k
 have hFn:∀ k t,je ops k=some t→t < F0.length→FF[t]?=some (xs[k]?.getD .any):=fun k t hk ht=>by rw [← hFF];exact uX hd hk ht _ (xU hk)
 have hFl:FF.length=F0.length:=by rw [← hFF];exact rn _ _ _ _
 have agree:∀ {listed:Array Bool} {f:List AV} {j t:Nat},Gp ops F0 xs cs listed f j→(∀ k,je ops k=some t→listed.getD k false=true)→f[t]?=FF[t]?:=fun {listed f j t} hI hl=>by
  by_cases hex:∃ k,je ops k=some t
  ·obtain ⟨k,hk⟩:=hex
   rcases Nat.lt_or_ge t F0.length with ht|ht
   ·rw [hI.new k t (hl k hk) hk ht,hFn k t hk ht]
   ·rw [List.getElem?_eq_none (by rw [hI.len];exact ht),List.getElem?_eq_none (by rw [hFl];exact ht)]
  ·have hno:∀ k,je ops k≠some t:=fun k hk=>hex ⟨k,hk⟩
   rw [hI.sT t hno,hFo t hno]
 intro fuel
 induction fuel with
 |zero=>
  intro listed f j hI hfu R β G a w hrep hcl
  have hall:∀ k,k < ops.size→listed.getD k false=true:=fun k hk=>by
   have hk':k < listed.toList.length:=by rw [Array.length_toList,hI.sz];exact hk
   have h0:=List.count_eq_zero.1 (Nat.le_zero.1 hfu)
   have hm:=List.getElem_mem hk'
   have:listed[k]'(by simpa using hk')≠false:=fun e=>h0 (by rw [← e];simp)
   have hk2:k < listed.size:=by simpa using hk'
   simp [Array.getD_eq_getD_getElem?,Array.getElem?_eq_getElem hk2]
   simpa using this
  have hj:j=cs.length:=by
   rcases Nat.lt_or_ge j cs.length with hlt|hge
   ·have:=(hI.st j cs[j] (List.getElem?_eq_getElem hlt))
    have hin:=of_decide_eq_true (List.all_eq_true.1 b7 cs[j] (List.getElem_mem hlt))
    have:=this.1 (hall _ hin);omega
   ·have:=hI.jl;omega
  have hf:f=FF:=by
   apply List.ext_getElem?
   intro t
   exact agree hI fun k hk=>hall k (xU hk)
  subst hj hf
  refine ⟨?_,β,G,_,hK,hrep⟩
  rcases hq:Region.ready .any ops listed with _|⟨i,r⟩
  ·rfl
  ·have hi:i∈Region.ready .any ops listed:=by rw [hq];exact List.mem_cons_self
   obtain ⟨h1,o,ho,_⟩:=mem_ready.1 hi
   have hlt:i < ops.size:=by
    rcases Nat.lt_or_ge i ops.size with h'|h'
    ·exact h'
    ·rw [Array.getElem?_eq_none h'] at ho;cases ho
   have:=hall i hlt
   rw [xF h1] at this;cases this
 |succ fuel ih=>
  intro listed f j hI hfu R β G a w hrep hcl
  have hsz:=hI.sz
  by_cases hne:Region.ready .any ops listed=[]
  ·have hall:∀ n k,n=k→k < ops.size→listed.getD k false=true:=fun n=>by
    induction n using Nat.strongRecOn with
    |_ n ihn=>
     intro k hn hk
     subst hn
     cases hl:listed.getD n false with
     |true=>rfl
     |false=>
      exfalso
      have hlt:n < listed.size:=by omega
      have hin:n∈Region.ready .any ops listed:=by
       rw [mem_ready]
       refine ⟨?_,ops[n],Array.getElem?_eq_getElem hk,fun e he hb=>?_⟩
       ·simp [Array.getD_eq_getD_getElem?,Array.getElem?_eq_getElem hlt] at hl ⊢;exact hl
       ·have:=hback n _ (Array.getElem?_eq_getElem hk) e he hb
        exact ihn e.on this e.on rfl aj
      rw [hne] at hin;cases hin
   have hj:j=cs.length:=by
    rcases Nat.lt_or_ge j cs.length with hlt|hge
    ·have:=(hI.st j cs[j] (List.getElem?_eq_getElem hlt))
     have hin:=of_decide_eq_true (List.all_eq_true.1 b7 cs[j] (List.getElem_mem hlt))
     have:=this.1 (hall _ _ rfl hin);omega
    ·have:=hI.jl;omega
   have hf:f=FF:=by
    apply List.ext_getElem?
    intro t
    exact agree hI fun k hk=>hall k k rfl (xU hk)
   subst hj hf
   exact ⟨fun _=>⟨β,G,_,hK,hrep⟩,fun i hi=>by rw [hne] at hi;cases hi⟩
  ·refine uN hne (fun i hi=>?_) R β G a w hrep hcl
   intro R β G a w hrep hcl _
   obtain ⟨h1,o,ho,hall⟩:=mem_ready.1 hi
   have hlt:i < ops.size:=by
    rcases Nat.lt_or_ge i ops.size with h'|h'
    ·exact h'
    ·rw [Array.getElem?_eq_none h'] at ho;cases ho
   have hi0:=xF h1
   have hltl:i < listed.size:=by omega
   have hcount:(listed.setIfInBounds i true).toList.count false≤fuel:=by
    have hv:listed.toList[i]'(by simpa using hltl)=false:=by
     simp [Array.getD_eq_getD_getElem?,Array.getElem?_eq_getElem hltl] at hi0 ⊢;exact hi0
    rw [Array.toList_setIfInBounds,List.count_set (by simpa using hltl)]
    simp only [hv,beq_self_eq_true,if_true,show (true == false)=false from rfl,Bool.false_eq_true,if_false]
    omega
   have hdep:∀ t∈U.getD i [],f[t]?=FF[t]?:=fun t ht=>agree hI fun k hk=>nG hcl hi (huse i t k hlt ht hk)
   by_cases hic:∃ m:Nat,cs[m]?=some i
   ·obtain ⟨m,hm⟩:=hic
    have hmj:m=j:=by
     have h2:=hI.st m i hm
     have hmj:¬m < j:=fun h=>by rw [h2.2 h] at hi0;cases hi0
     rcases Nat.lt_or_ge j m with hlt2|hge
     ·exfalso
      have hm':m - 1+1=m:=by omega
      have hml:=bS hm
      have h3:=hchain (m - 1) cs[m - 1] i (List.getElem?_eq_getElem aj) (by rw [hm'];exact hm)
      have h4:=nG hcl hi h3
      have h5:=(hI.st (m - 1) cs[m - 1] (List.getElem?_eq_getElem aj)).1 h4
      omega
     ·omega
    subst hmj
    have hml:=bS hm
    have hst':∀ (m' c':Nat),cs[m']?=some c'→((listed.setIfInBounds i true).getD c' false=true↔m' < m+1):=(fun m' c' hc'=>by
     by_cases e:i=c'
     ·subst e
      have:m'=m:=by
       have q1:=bS hc'
       exact (List.getElem?_inj q1 hnd).1 (by rw [hc',hm])
      subst this
      have:(listed.setIfInBounds i true).getD i false=true:=by
       simp [Array.getD_eq_getD_getElem?,Array.getElem?_setIfInBounds_self,hltl]
      rw [this];simp
     ·rw [getD_set_ne false e,hI.st m' c' hc']
      have:m'≠m:=fun e2=>by subst e2;rw [hc'] at hm;injection hm with hm;exact e hm.symm
      omega)
    have hstep:=hI.step hd hlt (j':=m+1) hst' aj
    obtain ⟨o',ho',hg,hop⟩:=hC m i hm f hI.len hdep hI.mem (fun s'=>dg P ops [] fuel (listed.setIfInBounds i true) s' K) (ih _ _ _ hstep hcount)
    obtain ⟨d,op,ty,pos,bC,g⟩:=o'
    simp only at hg
    subst hg
    exact xx ho' rfl (fun K' hK'=>by
     unfold eR at hop ⊢
     exact fun R β G a w Q hr=>Oper.wp_mono (fun a' w' ⟨β',G',s',hs',hr'⟩=>⟨β',G',s',hK' s' hs',hr'⟩) (hop R β G a w Q hr)) R β G a w hrep hcl hi
   ·have hin:(i,j)∈ps:=by
     have h2:=List.all_eq_true.1 b5 i (List.mem_range.2 hlt)
     have hnc:cs.contains i=false:=by
      cases hq:cs.contains i with
      |false=>rfl
      |true=>
       obtain ⟨m,hm,e⟩:=List.getElem_of_mem (List.contains_iff_mem.1 hq)
       exact absurd ⟨m,by rw [List.getElem?_eq_getElem hm,e]⟩ hic
     rw [hnc,Bool.false_or] at h2
     have h3:=List.all_eq_true.1 h2 j (List.mem_range.2 (by have:=hI.jl;omega))
     simp only [Bool.or_eq_true] at h3
     rcases h3 with h3|h3
     ·exfalso
      obtain ⟨m,hm,h4⟩:=List.any_eq_true.1 h3
      have hm:=List.mem_range.1 hm
      have hg:cs.getD m 0=cs[m]:=by simp [hm]
      rw [hg] at h4
      have hst:=hI.st m cs[m] (List.getElem?_eq_getElem hm)
      split at h4
      ·rename_i hmj
       have hin:=of_decide_eq_true (List.all_eq_true.1 b7 cs[m] (List.getElem_mem hm))
       have:=wc hcl _ _ rfl (hst.2 hmj) hin h4
       rw [this] at hi0;cases hi0
      ·rename_i hmj
       exact hmj (hst.1 (nG hcl hi h4))
     ·exact List.contains_iff_mem.1 h3
    obtain ⟨o',ho',hg,hpv⟩:=hR _ hin
    obtain ⟨d,op,ty,pos,bC,g⟩:=o'
    simp only at hg ho' hpv
    subst hg
    have hmk:∀ (t:Nat) x,(oB (U.getD i []) 0 FF)[t]?=some x→x= .any∨f[t]?=some x:=(fun t x hx=>by
     rw [wR,Nat.zero_add] at hx
     cases hF:FF[t]? with
     |none=>rw [hF] at hx;cases hx
     |some y=>
      rw [hF] at hx
      simp only [Option.map_some,Option.some.injEq] at hx
      split at hx
      ·rename_i hc
       right
       rw [hdep t (List.contains_iff_mem.1 hc),hF,hx]
      ·exact .inl hx.symm)
    have hpv':PV P op ⟨f,H j⟩ (xs[i]?.getD .any):=fun R β G a w hr=>by
     exact hpv R β G a w (Ew (by rw [wS,hFl,hI.len]) hmk hr)
    have hdi:je ops i=d:=by unfold je;rw [ho'];rfl
    have hst':∀ (m' c':Nat),cs[m']?=some c'→((listed.setIfInBounds i true).getD c' false=true↔m' < j):=(fun m' c' hc'=>by
     have e:i≠c':=fun e=>hic ⟨m',by rw [e];exact hc'⟩
     rw [getD_set_ne false e];exact hI.st m' c' hc')
    have hstep:=hI.step hd hlt (j':=j) hst' hI.jl
    rw [hdi] at hstep
    refine xx ho' rfl (fun K' hK'=>bK hpv' ?_) R β G a w hrep hcl hi
    rw [LW]
    exact hK' _ (ih _ _ _ hstep hcount)
theorem wT (n k:Nat):(Array.replicate n false).getD k false=false:=by
 rw [Array.getD_eq_getD_getElem?]
 rcases Nat.lt_or_ge k n with h|h
 ·rw [Array.getElem?_eq_getElem (by simpa using h)];simp
 ·rw [Array.getElem?_eq_none (by simpa using h)];rfl
theorem LX {id:Nat} {l:List Oper} {F0:List AV} {Q:Exit→St→Prop} (xs:List AV) (U:List (List Nat)) (cs:List Nat) (ps:List (Nat×Nat)) (H:Nat→Hp) {FF:List AV} (hm:P.follows .mixedOrders=true) (hB:Jj l.toArray U cs ps=true) (hFF:tw l.toArray xs F0 l.length=FF)
  (hR:∀ p∈ps,Pf P l.toArray p.1 ⟨oB (U.getD p.1 []) 0 FF,H p.2⟩ (xs[p.1]?.getD .any))
  (hC:∀ m c,cs[m]?=some c→∀ f:List AV,f.length=F0.length→(∀ t∈U.getD c [],f[t]?=FF[t]?)→(∀ x∈f,x∈F0∨x∈xs∨x= .any)→∀ K':St→Prop,K' ⟨xV f (je l.toArray c) (xs[c]?.getD .any),H (m+1)⟩→Pg P l.toArray c ⟨f,H m⟩ K')
  (hK:Q .normal ⟨FF,H cs.length⟩) (hd:hJ l=true:=by rfl):AW P (.region id l.toArray true) ⟨F0,H 0⟩ Q:=by
 refine tN l.length [] rfl hm ?_ hd
 refine Jl hB (by simpa using hFF) hR hC hK l.length _ F0 0 ⟨rfl,fun _ _=>rfl,fun k t hk=>?_,fun x hx=>.inl hx,fun m c _=>?_,Nat.zero_le _,by simp⟩ ?_
 ·rw [wT] at hk;cases hk
 ·rw [wT];simp
 ·simp
theorem ba {op:Op} {s:St} {x y:AV} (h:PV P op s y) (e:y=x):PV P op s x:=by subst e;exact h
theorem qi {t:TypeId} {p x:Operand} {id off:Nat} {bk:fZ} {z:Value} {n b:Nat} {ty:TypeId} {pos:String} {bC:Array Edge} {g:Option (Nat×Bool)} {s:St} {K:St→Prop} {v:AV} [hi:dm P t z n b]
  (hp:s.eval p= .ptr id off) (hx:s.eval x=v) (hb:aW s.hp id=some bk) (h1:iz v.cells=true) (h2:v.one=true∨∃ cs,v= .agg cs) (hn:v.cells.length=n) (hle:off+n≤bk.cs.length)
  (hk:K ⟨s.fr,cK s.hp id {bk with cs:=fE bk.cs off v.cells}⟩):eR P ⟨none,.store t p x,ty,pos,bC,g⟩ s K:=by
 subst hx
 exact sg hp hb h1 h2 hn hle hk
def CJ:Hp→List (Hp→Hp)→Nat→Hp
 |h,_,0=>h
 |h,[],_=>h
 |h,g::gs,k+1=>CJ (g h) gs k
theorem NP (h:Hp) (gs:List (Hp→Hp)):CJ h gs 0=h:=by cases gs<;>rfl
theorem all_nil {α:Type} {p:α→Prop}:∀ x∈([]:List α),p x:=fun x h=>by cases h
theorem all_cons {α:Type} {p:α→Prop} {a:α} {l:List α} (h:p a) (t:∀ x∈l,p x):∀ x∈a::l,p x:=fun x hx=>by
 rcases List.mem_cons.1 hx with rfl|hx
 ·exact h
 ·exact t x hx
def wU (p:Nat→Nat→Prop):Nat→List Nat→Prop
 |_,[]=>True
 |n,c::cs=>p n c∧wU p (n+1) cs
theorem nH {p:Nat→Nat→Prop} {n:Nat}:wU p n []:=trivial
theorem dS {p:Nat→Nat→Prop} {n c:Nat} {cs:List Nat} (h:p n c) (t:wU p (n+1) cs):wU p n (c::cs):=⟨h,t⟩
theorem CK {p:Nat→Nat→Prop}:∀ {cs:List Nat} {n:Nat},wU p n cs→∀ m c,cs[m]?=some c→p (n+m) c
 |[],n,_,m,c,h=>by cases m<;>cases h
 |c0::cs,n,⟨h1,h2⟩,0,c,h=>by simp at h;subst h;exact h1
 |c0::cs,n,⟨h1,h2⟩,m+1,c,h=>by have:=CK h2 m c (by simpa using h);rwa [show n+1+m=n+(m+1) by omega] at this
theorem nI {f FF:List AV} {hp:Hp} {U:List Nat} (hU:∀ t∈U,f[t]?=FF[t]?) {t:Nat} (h:U.contains t=true):(⟨f,hp⟩:St).eval (.tmp t)=(⟨FF,hp⟩:St).eval (.tmp t):=by
 simp only [St.eval,List.getD_eq_getElem?_getD,hU t (List.contains_iff_mem.1 h)]
def LY (U:List Nat) (args:List Operand):Bool:=args.all fun| .tmp t=>U.contains t|_=>true
theorem eM {f FF:List AV} {hp:Hp} {U:List Nat} (hU:∀ t∈U,f[t]?=FF[t]?) {args:Array Operand} (h:LY U args.toList=true):cn ⟨f,hp⟩ args=cn ⟨FF,hp⟩ args:=by
 unfold cn
 refine List.map_congr_left fun x hx=>?_
 have:=List.all_eq_true.1 h x hx
 cases x with
 |tmp t=>exact nI hU this
 |_=>rfl
theorem zI {ids pins:List Nat}:∀ {f:List AV},(∀ x∈f,AV.fix ids pins x=x)→AV.iN ids pins f=f
 |[],_=>rfl
 |x::r,h=>by rw [AV.iN,h x ax,zI fun y hy=>h y (by simp [hy])]
theorem fb {ids pins:List Nat} {F0 xs f:List AV} (hm:∀ x∈f,x∈F0∨x∈xs∨x= .any) (h0:∀ x∈F0,AV.fix ids pins x=x) (h1:∀ x∈xs,AV.fix ids pins x=x):AV.iN ids pins f=f:=zI fun x hx=>by
 rcases hm x hx with h|h|rfl
 ·exact h0 x h
 ·exact h1 x h
 ·rfl
theorem nJ {id:Nat} {l:List Oper} {F0:List AV} {H0:Hp} {Q:Exit→St→Prop} (xs:List AV) (U:List (List Nat)) (cs:List Nat) (ps:List (Nat×Nat)) (Hs:List (Hp→Hp)) {FF:List AV} (hm:P.follows .mixedOrders=true) (hB:Jj l.toArray U cs ps=true) (hFF:tw l.toArray xs F0 l.length=FF)
  (hR:∀ p∈ps,Pf P l.toArray p.1 ⟨oB (U.getD p.1 []) 0 FF,CJ H0 Hs p.2⟩ (xs[p.1]?.getD .any))
  (hC:wU (fun m c=>∀ f:List AV,f.length=F0.length→(∀ t∈U.getD c [],f[t]?=FF[t]?)→(∀ x∈f,x∈F0∨x∈xs∨x= .any)→∀ K':St→Prop,K' ⟨xV f (je l.toArray c) (xs[c]?.getD .any),CJ H0 Hs (m+1)⟩→Pg P l.toArray c ⟨f,CJ H0 Hs m⟩ K') 0 cs)
  (hK:Q .normal ⟨FF,CJ H0 Hs cs.length⟩) (hd:hJ l=true:=by rfl):AW P (.region id l.toArray true) ⟨F0,H0⟩ Q:=
 by have:=LX (Q:=Q) (id:=id) xs U cs ps (CJ H0 Hs) hm hB hFF hR (fun m c h=>by have:=CK hC m c h;rwa [Nat.zero_add] at this) hK hd;rwa [NP] at this
end Go.Ab
