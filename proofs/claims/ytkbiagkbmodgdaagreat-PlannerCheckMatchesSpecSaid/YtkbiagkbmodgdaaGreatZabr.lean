/- Part of a proof. No condition. -/
import Derived.Test.YtkbiagkbmodgdaaGreatZabo
set_option linter.unusedSimpArgs false
set_option linter.unusedVariables false
set_option maxRecDepth 20000
namespace Go.Ab
open Go.RowKit
variable {P:Program}
def kg (ops:Array Oper) (k:Nat):Option Tmp:=(ops[k]?).bind (·.dst)
def NG (ops:Array Oper) (i k:Nat):Bool:=((Region.before ops).getD i 0).testBit k
def wu (ops:Array Oper) (xs:List AV) (F0:List AV):Nat→List AV
 |0=>F0
 |n+1=>match kg ops n with
  |some t=>(wu ops xs F0 n).set t (xs[n]?.getD .any)
  |none=>wu ops xs F0 n
def qD (U:List Nat):Nat→List AV→List AV
 |_,[]=>[]
 |k,x::r=>(if U.contains k then x else .any)::qD U (k+1) r
theorem zw (U:List Nat):∀ (l:List AV) (k t:Nat),(qD U k l)[t]?=(l[t]?).map fun x=>if U.contains (k+t) then x else .any
 |[],k,t=>by simp [qD]
 |x::r,k,0=>by simp [qD]
 |x::r,k,t+1=>by
  rw [qD,qb2,qb2,zw U r (k+1) t,show k+1+t=k+(t+1) by omega]
theorem zx (U:List Nat):∀ (l:List AV) (k:Nat),(qD U k l).length=l.length
 |[],_=>rfl
 |x::r,k=>by rw [qD,qb8,qb8,zx U r]
variable {f:List AV} {hp:Hp}
theorem H8 {g:List AV} (hl:f.length=g.length) (h:∀ (t:Nat) x,g[t]?=some x→x= .any∨f[t]?=some x) {R:Rg} {β:c9} {G:bI} {a:Act} {w:World} (hr:fw R β G ⟨f,hp⟩ a w):fw R β G ⟨g,hp⟩ a w:=by
 refine ⟨hr.defers,by rw [hr.size];exact hl,fun i x y hx hy=>?_,hr.hp⟩;rcases h i x hx with rfl|h
 ·exact .any
 exact hr.fr i x y h hy
theorem tQ (ops:Array Oper) (xs F0:List AV):∀ n,(wu ops xs F0 n).length=F0.length
 |0=>rfl
 |n+1=>by
  rw [wu];split
  ·rw [qk1,tQ ops xs F0 n]
  exact tQ ops xs F0 n
theorem xV {ops:Array Oper} {xs F0:List AV} {t:Nat}:∀ n,(∀ k,k < n→kg ops k≠some t)→(wu ops xs F0 n)[t]?=F0[t]?
 |0,_=>rfl
 |n+1,h=>by
  rw [wu];split
  ·rename_i u hu
   have:u≠t:=fun e=>h n ak (by rw [hu,e])
   rw [List.getElem?_set_ne this,xV n fun k hk=>h k ak]
  exact xV n fun k hk=>h k ak
theorem xW {ops:Array Oper} {xs F0:List AV} {t k:Nat} (hd:∀ i j u,kg ops i=some u→kg ops j=some u→i=j) (hk:kg ops k=some t) (ht:t < F0.length) :
 ∀ n,k < n→(wu ops xs F0 n)[t]?=some (xs[k]?.getD .any)
 |0,h=>by omega
 |n+1,h=>by
  rw [wu];by_cases e:k=n
  ·subst e
   rw [hk];simp only;rw [List.getElem?_set_self (by rw [tQ];exact ht)]
  split
  ·rename_i u hu
   have:u≠t:=fun e2=>e (hd _ _ _ hk (by rw [hu,e2]))
   rw [List.getElem?_set_ne this,xW hd hk ht n ak]
  exact xW hd hk ht n ak
def P8 (ops:Array Oper):Bool:=decide ((ops.toList.filterMap (·.dst)).Nodup)
def Ta (ops:Array Oper) (U:List (List Nat)):Bool:=(List.range ops.size).all fun i=>(U.getD i []).all fun t=>(List.range ops.size).all fun k=>!(kg ops k == some t)|| NG ops i k
def Tc (ops:Array Oper):Bool:=(List.range ops.size).all fun i=>match ops[i]? with
 |some o=>o.after.all fun e=>!Region.binds .any e|| decide (e.on < i)
 |none=>true
def Q8 (ops:Array Oper) (cs:List Nat):Bool:=(List.range cs.length).all fun m=>decide (m+1 < cs.length→NG ops (cs.getD (m+1) 0) (cs.getD m 0)=true)
def Q9 (ops:Array Oper) (cs:List Nat) (ps:List (Nat×Nat)):Bool:=(List.range ops.size).all fun i=>cs.contains i|| (List.range (cs.length+1)).all fun j=>
 ((List.range cs.length).any fun m=>if m < j then NG ops (cs.getD m 0) i else NG ops i (cs.getD m 0))|| ps.contains (i,j)
def NH (ops:Array Oper) (U:List (List Nat)) (cs:List Nat) (ps:List (Nat×Nat)):Bool:=P8 ops&&Ta ops U&&Tc ops&&Q8 ops cs&&Q9 ops cs ps&&decide (cs.Nodup)&&cs.all fun c=>decide (c < ops.size)
variable {ops:Array Oper}
theorem NI (h:P8 ops=true):∀ i j u,kg ops i=some u→kg ops j=some u→i=j:=by
 have h:=of_decide_eq_true h;have key:∀ (l:List Oper),(l.filterMap (·.dst)).Nodup→∀ (i j:Nat) (u:Tmp),(l[i]?).bind (·.dst)=some u→(l[j]?).bind (·.dst)=some u→i=j:=fun l=>by
  induction l with
  |nil=>intro _ i j u hi;simp at hi
  |cons o r ih=>
   intro hn i j u hi hj;have hmem:∀ k:Nat,(r[k]?).bind (·.dst)=some u→u∈r.filterMap (·.dst):=fun k hk=>by
    rw [Option.bind_eq_some_iff] at hk;obtain ⟨q,hq,hq2⟩:=hk;exact List.mem_filterMap.2 ⟨q,qg0 hq,hq2⟩
   cases ho:o.dst with
   |none=>
    rw [List.filterMap_cons_none ho] at hn;cases i with
    |zero=>simp [ho] at hi
    |succ i=>cases j with
     |zero=>simp [ho] at hj
     |succ j=>rw [ih hn i j u (by simpa using hi) (by simpa using hj)]
   |some v=>
    rw [List.filterMap_cons_some ho,List.nodup_cons] at hn;cases i with
    |zero=>cases j with
     |zero=>rfl
     |succ j=>
      simp [ho] at hi;subst hi;exact absurd (hmem j (by simpa using hj)) hn.1
    |succ i=>cases j with
     |zero=>
      simp [ho] at hj;subst hj;exact absurd (hmem i (by simpa using hi)) hn.1
     |succ j=>rw [ih hn.2 i j u (by simpa using hi) (by simpa using hj)]
 intro i j u hi hj;exact key ops.toList h i j u (by simpa [kg] using hi) (by simpa [kg] using hj)
variable {k t:Nat}
theorem AH (h:kg ops k=some t):k < ops.size:=by
 unfold kg at h;rcases qc4 k ops.size with h'|h'
 ·exact h'
 rw [qh4 h'] at h;cases h
variable {listed:Array Bool}
theorem yY (hc:Closed ops listed):∀ (n j:Nat),n=j→listed.getD j false=true→j < ops.size→NG ops j k=true→listed.getD k false=true:=by
 intro n
 induction n using Nat.strongRecOn with
 |_ n ih=>
  intro j hn hl hj hb;subst hn;obtain ⟨o,ho⟩:∃ o,ops[n]?=some o:=⟨ops[n],qd1 hj⟩
  obtain ⟨e,he,hbi,h⟩:=(qz ops).2 n o ho k hb;have h1:=hc n o ho hl e he hbi;rcases h with h|⟨hlt,h⟩
  ·rw [← h];exact h1
  exact ih e.on hlt e.on rfl h1 ak h
variable {i:Nat}
theorem pH (hc:Closed ops listed) (hi:i∈Region.ready .any ops listed) (hb:NG ops i k=true):listed.getD k false=true:=by
 obtain ⟨_,o,ho,hall⟩:=mem_ready.1 hi;cases hk:listed.getD k false with
 |true=>rfl
 |false=>rw [NG,p9 hc hk i i o rfl ho hall] at hb;cases hb
structure Ka (ops:Array Oper) (F0 xs:List AV) (cs:List Nat) (listed:Array Bool) (f:List AV) (j:Nat):Prop where
 len:f.length=F0.length
 vN:∀ t,(∀ k,kg ops k≠some t)→f[t]?=F0[t]?
 new:∀ k t,listed.getD k false=true→kg ops k=some t→t < F0.length→f[t]?=some (xs[k]?.getD .any)
 mem:∀ x∈f,x∈F0∨x∈xs∨x= .any
 st:∀ m c,cs[m]?=some c→(listed.getD c false=true↔m < j)
 jl:j≤cs.length
 sz:listed.size=ops.size
def AI (f:List AV) (d:Option Tmp) (x:AV):List AV:=match d with|some t=>f.set t x|none=>f
theorem Ra (f:List AV) (hp:Hp) (d:Option Tmp) (x:AV):St.put ⟨f,hp⟩ d x=⟨AI f d x,hp⟩:=by cases d<;>rfl
variable {α:Type}
theorem mem_set {l:List α} {a x:α} (h:x∈l.set i a):x∈l∨x=a:=List.mem_or_eq_of_mem_set h
variable {F0 xs:List AV} {cs:List Nat}
theorem Ka.step {j j':Nat} (h:Ka ops F0 xs cs listed f j) (hd:∀ i j u,kg ops i=some u→kg ops j=some u→i=j) (hi:i < ops.size)
 (hst:∀ m c,cs[m]?=some c→((listed.setIfInBounds i true).getD c false=true↔m < j')) (hj:j'≤cs.length):
 Ka ops F0 xs cs (listed.setIfInBounds i true) (AI f (kg ops i) (xs[i]?.getD .any)) j':=by
 have hq:∀ k,(listed.setIfInBounds i true).getD k false=true→k=i∨listed.getD k false=true:=fun k hk=>by
  by_cases e:i=k
  ·exact .inl e.symm
  rw [getD_set_ne false e] at hk;exact .inr hk
 refine ⟨?_,fun t ht=>?_,fun k t hk hkt hlt=>?_,fun x hx=>?_,hst,hj,by rw [Array.size_setIfInBounds];exact h.sz⟩
 ·unfold AI;split<;>simp [h.len]
 ·unfold AI
  split
  ·rename_i u hu
   rw [List.getElem?_set_ne (fun e=>ht i (by rw [hu,e]))];exact h.vN t ht
  exact h.vN t ht
 ·unfold AI
  rcases hq k hk with rfl|hk'
  ·rw [hkt]
   simp only;rw [List.getElem?_set_self (by rw [h.len];exact hlt)]
  split
  ·rename_i u hu
   by_cases e:u=t
   ·subst e
    obtain rfl:=hd _ _ _ hu hkt;rw [List.getElem?_set_self (by rw [h.len];exact hlt)]
   rw [List.getElem?_set_ne e];exact h.new k t hk' hkt hlt
  exact h.new k t hk' hkt hlt
 unfold AI at hx;split at hx
 ·rcases mem_set hx with hx|hx
  ·exact h.mem x hx
  right;cases hv:xs[i]? with
  |none=>right;rw [hx,hv];rfl
  |some v=>left;rw [hx,hv];exact qg0 hv
 exact h.mem x hx
abbrev UL (P:Program) (ops:Array Oper) (i:Nat) (s:St) (x:AV):Prop:=∃ o,ops[i]?=some o∧o.guard=none∧PV P o.op s x
abbrev UM (P:Program) (ops:Array Oper) (i:Nat) (s:St) (K:St→Prop):Prop:=∃ o,ops[i]?=some o∧o.guard=none∧ff P o s K
variable {FF:List AV} {K:St→Prop}
theorem NJ {U:List (List Nat)} {ps:List (Nat×Nat)} {H:Nat→Hp} (hB:NH ops U cs ps=true) (hFF:wu ops xs F0 ops.size=FF)
 (hR:∀ p∈ps,UL P ops p.1 ⟨qD (U.getD p.1 []) 0 FF,H p.2⟩ (xs[p.1]?.getD .any))
 (hC:∀ m c,cs[m]?=some c→∀ f:List AV,f.length=F0.length→(∀ t∈U.getD c [],f[t]?=FF[t]?)→(∀ x∈f,x∈F0∨x∈xs∨x= .any)→∀ K':St→Prop,K' ⟨AI f (kg ops c) (xs[c]?.getD .any),H (m+1)⟩→UM P ops c ⟨f,H m⟩ K')
 (hK:K ⟨FF,H cs.length⟩):∀ (fuel:Nat) (listed:Array Bool) (f:List AV) (j:Nat),Ka ops F0 xs cs listed f j→listed.toList.count false≤fuel→dt P ops [] fuel listed ⟨f,H j⟩ K:=by
 simp only [NH,qa1] at hB;obtain ⟨⟨⟨⟨⟨⟨b1,b2⟩,b3⟩,b4⟩,b5⟩,b6⟩,b7⟩:=hB;have hd:=NI b1;have hnd:cs.Nodup:=of_decide_eq_true b6;have huse:∀ i t k,i < ops.size→t∈U.getD i []→kg ops k=some t→NG ops i k=true:=fun i t k hi ht hk=>by
  have h1:=qc8.1 (qc8.1 (qc8.1 b2 i (qh2.2 hi)) t ht) k (qh2.2 (AH hk));simpa [hk] using h1
 have hback:∀ i o,ops[i]?=some o→∀ e∈o.after,Region.binds .any e=true→e.on < i:=fun i o ho e he hb=>by
  have hi:i < ops.size:=by
   rcases qc4 i ops.size with h'|h'
   ·exact h'
   rw [qh4 h'] at ho;cases ho
  have h1:=qc8.1 b3 i (qh2.2 hi);rw [ho] at h1;have h2:=Array.all_eq_true_iff_forall_mem.1 h1 e he;simpa [hb] using h2
 have hchain:∀ m c c',cs[m]?=some c→cs[m+1]?=some c'→NG ops c' c=true:=fun m c c' h1 h2=>by
  have hm:m+1 < cs.length:=bX h2;have h3:=qc8.1 b4 m (qh2.2 ak);have h4:=(of_decide_eq_true h3) hm;simpa [h1,h2] using h4
 have hFo:∀ t,(∀ k,kg ops k≠some t)→FF[t]?=F0[t]?:=fun t ht=>by rw [← hFF];exact xV _ fun k _=>ht k
 have hFn:∀ k t,kg ops k=some t→t < F0.length→FF[t]?=some (xs[k]?.getD .any):=fun k t hk ht=>by rw [← hFF];exact xW hd hk ht _ (AH hk)
 have hFl:FF.length=F0.length:=by rw [← hFF];exact tQ _ _ _ _
 have agree:∀ {listed:Array Bool} {f:List AV} {j t:Nat},Ka ops F0 xs cs listed f j→(∀ k,kg ops k=some t→listed.getD k false=true)→f[t]?=FF[t]?:=fun {listed f j t} hI hl=>by
  by_cases hex:∃ k,kg ops k=some t
  ·obtain ⟨k,hk⟩:=hex
   rcases qc4 t F0.length with ht|ht
   ·rw [hI.new k t (hl k hk) hk ht,hFn k t hk ht]
   rw [qj3 (by rw [hI.len];exact ht),qj3 (by rw [hFl];exact ht)]
  have hno:∀ k,kg ops k≠some t:=fun k hk=>hex ⟨k,hk⟩;rw [hI.vN t hno,hFo t hno]
 intro fuel
 induction fuel with
 |zero=>
  intro listed f j hI hfu R β G a w hrep hcl;have hall:∀ k,k < ops.size→listed.getD k false=true:=fun k hk=>by
   have hk':k < listed.toList.length:=by rw [qi5,hI.sz];exact hk
   have h0:=List.count_eq_zero.1 (Nat.le_zero.1 hfu);have hm:=qa4 hk'
   have:listed[k]'(by simpa using hk')≠false:=fun e=>h0 (by rw [← e];simp)
   have hk2:k < listed.size:=by simpa using hk'
   simp [qf6,qd1 hk2];simpa using this
  have hj:j=cs.length:=by
   rcases qc4 j cs.length with hlt|hge
   ·have:=(hI.st j cs[j] (qa7 hlt))
    have hin:=of_decide_eq_true (qc8.1 b7 cs[j] (qa4 hlt));have:=this.1 (hall _ hin);omega
   have:=hI.jl;omega
  have hf:f=FF:=by apply List.ext_getElem?;intro t;exact agree hI fun k hk=>hall k (AH hk)
  subst hj hf;refine ⟨?_,β,G,_,hK,hrep⟩;rcases hq:Region.ready .any ops listed with _|⟨i,r⟩
  ·rfl
  have hi:i∈Region.ready .any ops listed:=by rw [hq];exact List.mem_cons_self
  obtain ⟨h1,o,ho,_⟩:=mem_ready.1 hi;have hlt:i < ops.size:=by
   rcases qc4 i ops.size with h'|h'
   ·exact h'
   rw [qh4 h'] at ho;cases ho
  have:=hall i hlt;rw [Ar h1] at this;cases this
 |succ fuel ih=>
  intro listed f j hI hfu R β G a w hrep hcl;have hsz:=hI.sz;by_cases hne:Region.ready .any ops listed=[]
  ·have hall:∀ n k,n=k→k < ops.size→listed.getD k false=true:=fun n=>by
    induction n using Nat.strongRecOn with
    |_ n ihn=>
     intro k hn hk;subst hn;cases hl:listed.getD n false with
     |true=>rfl
     |false=>
      exfalso;have hlt:n < listed.size:=by omega
      have hin:n∈Region.ready .any ops listed:=by
       rw [mem_ready];refine ⟨?_,ops[n],qd1 hk,fun e he hb=>?_⟩
       ·simp [qf6,qd1 hlt] at hl ⊢;exact hl
       have:=hback n _ (qd1 hk) e he hb;exact ihn e.on this e.on rfl ak
      rw [hne] at hin;cases hin
   have hj:j=cs.length:=by
    rcases qc4 j cs.length with hlt|hge
    ·have:=(hI.st j cs[j] (qa7 hlt))
     have hin:=of_decide_eq_true (qc8.1 b7 cs[j] (qa4 hlt));have:=this.1 (hall _ _ rfl hin);omega
    have:=hI.jl;omega
   have hf:f=FF:=by apply List.ext_getElem?;intro t;exact agree hI fun k hk=>hall k k rfl (AH hk)
   subst hj hf;exact ⟨fun _=>⟨β,G,_,hK,hrep⟩,fun i hi=>by rw [hne] at hi;cases hi⟩
  refine xM hne (fun i hi=>?_) R β G a w hrep hcl;intro R β G a w hrep hcl _;obtain ⟨h1,o,ho,hall⟩:=mem_ready.1 hi;have hlt:i < ops.size:=by
   rcases qc4 i ops.size with h'|h'
   ·exact h'
   rw [qh4 h'] at ho;cases ho
  have hi0:=Ar h1;have hltl:i < listed.size:=by omega
  have hcount:(listed.setIfInBounds i true).toList.count false≤fuel:=by
   have hv:listed.toList[i]'(by simpa using hltl)=false:=by simp [qf6,qd1 hltl] at hi0 ⊢;exact hi0
   rw [Array.toList_setIfInBounds,List.count_set (by simpa using hltl)];simp only [hv,beq_self_eq_true,if_true,show (true == false)=false from rfl,qa8,if_false];omega
  have hdep:∀ t∈U.getD i [],f[t]?=FF[t]?:=fun t ht=>agree hI fun k hk=>pH hcl hi (huse i t k hlt ht hk);by_cases hic:∃ m:Nat,cs[m]?=some i
  ·obtain ⟨m,hm⟩:=hic
   have hmj:m=j:=by
    have h2:=hI.st m i hm;have hmj:¬m < j:=fun h=>by rw [h2.2 h] at hi0;cases hi0
    rcases qc4 j m with hlt2|hge
    ·exfalso
     have hm':m - 1+1=m:=by omega
     have hml:=bX hm;have h3:=hchain (m - 1) cs[m - 1] i (qa7 ak) (by rw [hm'];exact hm);have h4:=pH hcl hi h3;have h5:=(hI.st (m - 1) cs[m - 1] (qa7 ak)).1 h4;omega
    omega
   subst hmj;have hml:=bX hm;have hst':∀ (m' c':Nat),cs[m']?=some c'→((listed.setIfInBounds i true).getD c' false=true↔m' < m+1):=(fun m' c' hc'=>by
    by_cases e:i=c'
    ·subst e
     have:m'=m:=by have q1:=bX hc';exact (List.getElem?_inj q1 hnd).1 (by rw [hc',hm])
     subst this
     have:(listed.setIfInBounds i true).getD i false=true:=by simp [qf6,Array.getElem?_setIfInBounds_self,hltl]
     rw [this];simp
    rw [getD_set_ne false e,hI.st m' c' hc']
    have:m'≠m:=fun e2=>by subst e2;rw [hc'] at hm;injection hm with hm;exact e hm.symm
    omega)
   have hstep:=hI.step hd hlt (j':=m+1) hst' ak;obtain ⟨o',ho',hg,hop⟩:=hC m i hm f hI.len hdep hI.mem (fun s'=>dt P ops [] fuel (listed.setIfInBounds i true) s' K) (ih _ _ _ hstep hcount);obtain ⟨d,op,ty,pos,bF,g⟩:=o';simp only at hg;subst hg;exact Ak ho' rfl (fun K' hK'=>by
    unfold ff at hop ⊢;exact fun R β G a w Q hr=>Oper.wp_mono (fun a' w' ⟨β',G',s',hs',hr'⟩=>⟨β',G',s',hK' s' hs',hr'⟩) (hop R β G a w Q hr)) R β G a w hrep hcl hi
  have hin:(i,j)∈ps:=by
   have h2:=qc8.1 b5 i (qh2.2 hlt);have hnc:cs.contains i=false:=by
    cases hq:cs.contains i with
    |false=>rfl
    |true=>
     obtain ⟨m,hm,e⟩:=qa9 (qj1.1 hq);exact absurd ⟨m,by rw [qa7 hm,e]⟩ hic
   rw [hnc,qc1] at h2;have h3:=qc8.1 h2 j (qh2.2 (by have:=hI.jl;omega));simp only [qe0] at h3;rcases h3 with h3|h3
   ·exfalso
    obtain ⟨m,hm,h4⟩:=qi0.1 h3;have hm:=qh2.1 hm;have hg:cs.getD m 0=cs[m]:=by simp [hm]
    rw [hg] at h4;have hst:=hI.st m cs[m] (qa7 hm);split at h4
    ·rename_i hmj
     have hin:=of_decide_eq_true (qc8.1 b7 cs[m] (qa4 hm));have:=yY hcl _ _ rfl (hst.2 hmj) hin h4;rw [this] at hi0;cases hi0
    rename_i hmj;exact hmj (hst.1 (pH hcl hi h4))
   exact qj1.1 h3
  obtain ⟨o',ho',hg,hpv⟩:=hR _ hin;obtain ⟨d,op,ty,pos,bF,g⟩:=o';simp only at hg ho' hpv;subst hg;have hmk:∀ (t:Nat) x,(qD (U.getD i []) 0 FF)[t]?=some x→x= .any∨f[t]?=some x:=(fun t x hx=>by
   rw [zw,ql4] at hx;cases hF:FF[t]? with
   |none=>rw [hF] at hx;cases hx
   |some y=>
    rw [hF] at hx;simp only [qg2,qd9] at hx;split at hx
    ·rename_i hc
     right;rw [hdep t (qj1.1 hc),hF,hx]
    exact .inl hx.symm)
  have hpv':PV P op ⟨f,H j⟩ (xs[i]?.getD .any):=fun R β G a w hr=>by
   exact hpv R β G a w (H8 (by rw [zx,hFl,hI.len]) hmk hr)
  have hdi:kg ops i=d:=by unfold kg;rw [ho'];rfl
  have hst':∀ (m' c':Nat),cs[m']?=some c'→((listed.setIfInBounds i true).getD c' false=true↔m' < j):=(fun m' c' hc'=>by
   have e:i≠c':=fun e=>hic ⟨m',by rw [e];exact hc'⟩;rw [getD_set_ne false e];exact hI.st m' c' hc')
  have hstep:=hI.step hd hlt (j':=j) hst' hI.jl;rw [hdi] at hstep;refine Ak ho' rfl (fun K' hK'=>bt hpv' ?_) R β G a w hrep hcl hi;rw [Ra];exact hK' _ (ih _ _ _ hstep hcount)
theorem zy (n k:Nat):(Array.replicate n false).getD k false=false:=by
 rw [qf6];rcases qc4 k n with h|h
 ·rw [qd1 (by simpa using h)];simp
 rw [qh4 (by simpa using h)];rfl
variable {id:Nat} {l:List Oper} {Q:Exit→St→Prop}
theorem Rb (xs:List AV) (U:List (List Nat)) (cs:List Nat) (ps:List (Nat×Nat)) (H:Nat→Hp) (hm:P.follows .mixedOrders=true) (hB:NH l.toArray U cs ps=true) (hFF:wu l.toArray xs F0 l.length=FF)
 (hR:∀ p∈ps,UL P l.toArray p.1 ⟨qD (U.getD p.1 []) 0 FF,H p.2⟩ (xs[p.1]?.getD .any))
 (hC:∀ m c,cs[m]?=some c→∀ f:List AV,f.length=F0.length→(∀ t∈U.getD c [],f[t]?=FF[t]?)→(∀ x∈f,x∈F0∨x∈xs∨x= .any)→∀ K':St→Prop,K' ⟨AI f (kg l.toArray c) (xs[c]?.getD .any),H (m+1)⟩→UM P l.toArray c ⟨f,H m⟩ K')
 (hK:Q .normal ⟨FF,H cs.length⟩) (hd:iL l=true:=by rfl):AW P (.region id l.toArray true) ⟨F0,H 0⟩ Q:=by
 refine wH l.length [] rfl hm ?_ hd;refine NJ hB (by simpa using hFF) hR hC hK l.length _ F0 0 ⟨rfl,fun _ _=>rfl,fun k t hk=>?_,fun x hx=>.inl hx,fun m c _=>?_,qc6 _,by simp⟩ ?_
 ·rw [zy] at hk;cases hk
 ·rw [zy];simp
 simp
variable {s:St}
theorem jX {op:Op} {x y:AV} (h:PV P op s y) (e:y=x):PV P op s x:=by subst e;exact h
variable {n:Nat}
theorem sI {t:TypeId} {p x:Operand} {off:Nat} {bk:iB} {z:Value} {b:Nat} {ty:TypeId} {pos:String} {bF:Array Edge} {g:Option (Nat×Bool)} {v:AV} [hi:dI P t z n b]
 (hp:s.eval p= .ptr id off) (hx:s.eval x=v) (hb:bp s.hp id=some bk) (h1:jx v.cells=true) (h2:v.one=true∨∃ cs,v= .agg cs) (hn:v.cells.length=n) (hle:off+n≤bk.cs.length)
 (hk:K ⟨s.fr,cP s.hp id {bk with cs:=gM bk.cs off v.cells}⟩):ff P ⟨none,.store t p x,ty,pos,bF,g⟩ s K:=by
 subst hx;exact uL hp hb h1 h2 hn hle hk
def F4:Hp→List (Hp→Hp)→Nat→Hp
 |h,_,0=>h
 |h,[],_=>h
 |h,g::gs,k+1=>F4 (g h) gs k
theorem Td (h:Hp) (gs:List (Hp→Hp)):F4 h gs 0=h:=by cases gs<;>rfl
theorem all_nil {p:α→Prop}:∀ x∈([]:List α),p x:=fun x h=>by cases h
theorem all_cons {p:α→Prop} {a:α} {l:List α} (h:p a) (t:∀ x∈l,p x):∀ x∈a::l,p x:=fun x hx=>by
 rcases qc2.1 hx with rfl|hx
 ·exact h
 exact t x hx
def zz (p:Nat→Nat→Prop):Nat→List Nat→Prop
 |_,[]=>True
 |n,c::cs=>p n c∧zz p (n+1) cs
variable {p:Nat→Nat→Prop}
theorem pI:zz p n []:=trivial
theorem eC {c:Nat} (h:p n c) (t:zz p (n+1) cs):zz p n (c::cs):=⟨h,t⟩
theorem F5 {p:Nat→Nat→Prop}:∀ {cs:List Nat} {n:Nat},zz p n cs→∀ m c,cs[m]?=some c→p (n+m) c
 |[],n,_,m,c,h=>by cases m<;>cases h
 |c0::cs,n,⟨h1,h2⟩,0,c,h=>by simp at h;subst h;exact h1
 |c0::cs,n,⟨h1,h2⟩,m+1,c,h=>by have:=F5 h2 m c (by simpa using h);rwa [show n+1+m=n+(m+1) by omega] at this
variable {U:List Nat}
theorem pJ (hU:∀ t∈U,f[t]?=FF[t]?) (h:U.contains t=true):(⟨f,hp⟩:St).eval (.tmp t)=(⟨FF,hp⟩:St).eval (.tmp t):=by
 simp only [St.eval,qh7,hU t (qj1.1 h)]
def Rc (U:List Nat) (args:List Operand):Bool:=args.all fun| .tmp t=>U.contains t|_=>true
theorem fE (hU:∀ t∈U,f[t]?=FF[t]?) {args:Array Operand} (h:Rc U args.toList=true):cv ⟨f,hp⟩ args=cv ⟨FF,hp⟩ args:=by
 unfold cv;refine List.map_congr_left fun x hx=>?_;have:=qc8.1 h x hx;cases x with
 |tmp t=>exact pJ hU this
 |_=>rfl
theorem CJ {ids pins:List Nat}:∀ {f:List AV},(∀ x∈f,AV.fix ids pins x=x)→AV.jP ids pins f=f
 |[],_=>rfl
 |x::r,h=>by rw [AV.jP,h x aC,CJ fun y hy=>h y (by simp [hy])]
theorem fW {ids pins:List Nat} (hm:∀ x∈f,x∈F0∨x∈xs∨x= .any) (h0:∀ x∈F0,AV.fix ids pins x=x) (h1:∀ x∈xs,AV.fix ids pins x=x):AV.jP ids pins f=f:=CJ fun x hx=>by
 rcases hm x hx with h|h|rfl
 ·exact h0 x h
 ·exact h1 x h
 rfl
theorem pM {H0:Hp} (xs:List AV) (U:List (List Nat)) (cs:List Nat) (ps:List (Nat×Nat)) (Hs:List (Hp→Hp)) (hm:P.follows .mixedOrders=true) (hB:NH l.toArray U cs ps=true) (hFF:wu l.toArray xs F0 l.length=FF)
 (hR:∀ p∈ps,UL P l.toArray p.1 ⟨qD (U.getD p.1 []) 0 FF,F4 H0 Hs p.2⟩ (xs[p.1]?.getD .any))
 (hC:zz (fun m c=>∀ f:List AV,f.length=F0.length→(∀ t∈U.getD c [],f[t]?=FF[t]?)→(∀ x∈f,x∈F0∨x∈xs∨x= .any)→∀ K':St→Prop,K' ⟨AI f (kg l.toArray c) (xs[c]?.getD .any),F4 H0 Hs (m+1)⟩→UM P l.toArray c ⟨f,F4 H0 Hs m⟩ K') 0 cs)
 (hK:Q .normal ⟨FF,F4 H0 Hs cs.length⟩) (hd:iL l=true:=by rfl):AW P (.region id l.toArray true) ⟨F0,H0⟩ Q:=
 by have:=Rb (Q:=Q) (id:=id) xs U cs ps (F4 H0 Hs) hm hB hFF hR (fun m c h=>by have:=F5 hC m c h;rwa [ql4] at this) hK hd;rwa [Td] at this
end Go.Ab
