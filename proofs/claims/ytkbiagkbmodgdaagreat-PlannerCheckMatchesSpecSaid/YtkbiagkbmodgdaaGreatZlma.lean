/- Part of a proof. No condition. -/
import Derived.Test.YtkbiagkbmodgdaaGreatZph
import Derived.Test.YtkbiagkbmodgdaaGreatZabq
import Derived.Test.YtkbiagkbmodgdaaGreatZdte
import Derived.Test.YtkbiagkbmodgdaaGreatZgg
import Derived.Test.YtkbiagkbmodgdaaGreatZlbd
import Derived.Test.YtkbiagkbmodgdaaGreatZrfb
import Derived.Test.YtkbiagkbmodgdaaGreatZrfe
import Derived.Test.YtkbiagkbmodgdaaGreatZtab
set_option linter.unusedSimpArgs false
set_option linter.unusedVariables false
namespace Go.Proofs.YtkbiagkbmodgdaaGreat
open Go.Ab
open Go Tryz
section
set_option maxRecDepth 10000
set_option maxHeartbeats 8000000
def LB (l:List SSet) (s:List Int):Prop:=∃ c∈l,dX c.eM s=true∧kx c.no s=true
variable {c:SSet} {s:List Int}
theorem oU:kB c (vS s)↔dX c.eM s=true∧kx c.no s=true:=by
 rw [lC,im];unfold kB vS;simp only [ev,ky]
structure sf (t:Task) (l:List SSet):Prop where
 len:l.length≤2000
 cB:LB l t.init
 ok:∀ c∈l,BF t.facts c=true
 st:∀ s,isSet s t.facts=true→LB l s→¬dX t.goal s=true∧∀ o∈t.ops,dX o.pre s=true→LB l (bF t.facts s o)
theorem wX {L:Int} (h:BF L c=true):Gh L c∧kx c.eM c.no=true:=by
 unfold BF at h;simp only [qa1] at h;exact ⟨⟨h.1.1,h.1.2⟩,h.2⟩
variable {t:Task} {l:List SSet}
theorem LC (hf:cK t=(0,0)):ju t l=(0,0)↔l.length≤2000∧∀ c∈l,BF t.facts c=true:=by
 unfold ju;rw [if_neg (by simp [hf])];constructor
 ·intro h
  split at h
  ·simp at h
  rename_i h2;refine ⟨by omega,fun c hc=>?_⟩;cases hq:bx (nM t.facts l) l.length with
  |some q=>
   rw [hq] at h;simp only [qf3] at h;subst h;obtain ⟨i,_,hg⟩:=dh hq;unfold nM at hg;split at hg<;>simp at hg
  |none=>
   obtain ⟨i,hi,rfl⟩:=qa9 hc;have h3:=jd hq hi;unfold nM at h3;rw [bq hi] at h3;split at h3
   ·assumption
   cases h3
 rintro ⟨h1,h2⟩;rw [if_neg ak,ik.2 fun k hk=>?_]
 ·rfl
 unfold nM;rw [bq hk,if_pos (h2 _ (qa4 hk))]
theorem LD (hf:cK t=(0,0)):sf t l↔ju t l=(0,0)∧tX t l=true:=by
 have hw:=iJ.1 hf;have h0L:=hw.f0;rw [LC hf];constructor
 ·rintro ⟨h1,h2,h3,h4⟩
  have hs:∀ c∈l,Gh t.facts c:=fun c hc=>(wX (h3 c hc)).1;refine ⟨⟨h1,h3⟩,(CW hw hs).2 ⟨?_,fun c hc=>⟨fun hg=>?_,fun o ho nx hx v hv=>?_⟩⟩⟩
  ·obtain ⟨c,hc,hi⟩:=h2
   exact ⟨c,hc,oU.2 hi⟩
  ·have hd:=im.1 (wX (h3 c hc)).2
   have hg:=im.1 hg;refine (h4 (oK c.eM t.goal []) (oL (hs c hc).n hw.goal) ⟨c,hc,lC.2 fun x hx=>il.2 (.inl ⟨hx,by simp⟩),im.2 fun x hx hm=>?_⟩).1 (lC.2 fun x hx=>il.2 (.inr hx));rcases il.1 hm with h|h
   ·exact hd x h.1 hx
   exact hg x h hx
  have hd:=im.1 (wX (h3 c hc)).2;have hoo:=(hw.ops o ho).1;unfold mj at hoo;simp only [qa1] at hoo;obtain ⟨⟨⟨o1,o2⟩,o3⟩,o4⟩:=hoo;have o4:=im.1 o4;have ra:=(ct.1 o2).1;have rp:=(ct.1 o1).1;have rn:=(ct.1 (hs c hc).n).1;have ro:=(ct.1 (hs c hc).o).1;unfold kz at hx;split at hx
  ·cases hx
  rename_i hpn;simp only [Bool.not_eq_false] at hpn;have hpn:=im.1 hpn;injection hx with hx
  subst hx;obtain ⟨v1,v2⟩:=hv;simp only at v1 v2;let f:Int→Bool:=fun p=>hasB c.eM p|| hasB o.pre p|| (!hasB c.no p&&v p)
  have cP:isSet ((sK t.facts.toNat).filter f) t.facts=true:=by have:=x6 (n:=t.facts.toNat) f;rwa [qg3 h0L] at this
  have hmem:∀ p,p∈(sK t.facts.toNat).filter f↔(0≤p∧p < t.facts)∧(p∈c.eM∨p∈o.pre∨¬p∈c.no∧v p=true):=fun p=>by
   rw [qh1,tT];simp only [f,qe0,qa1,qb7,ev,ky,or_assoc];constructor
   ·rintro ⟨a,b⟩;exact ⟨by omega,b⟩
   rintro ⟨a,b⟩;exact ⟨by omega,b⟩
  generalize (sK t.facts.toNat).filter f=s at cP hmem;obtain ⟨d,hdl,hdi⟩:=(h4 s cP ⟨c,hc,lC.2 fun x hx=>(hmem x).2 ⟨rn x hx,.inl hx⟩,im.2 fun x hx hm=>by
   rcases ((hmem x).1 hm).2 with h|h|h
   ·exact hd x h hx
   ·exact hpn x h hx
   exact h.1 hx⟩).2 o ho (lC.2 fun x hx=>(hmem x).2 ⟨rp x hx,.inr (.inl hx)⟩)
  refine ⟨d,hdl,Gk (hs d hdl) (fun p p0 pL=>?_) (oU.2 hdi)⟩;unfold vS;have hnd:(p∈c.eM∨p∈o.pre)→p∈oK c.eM o.pre []:=fun h=>il.2 (h.imp (fun h=>⟨h,by simp⟩) id);by_cases ha:p∈o.add
  ·rw [v1 p (il.2 (.inr ha)),ev,pN]
   exact ⟨⟨p0,pL⟩,.inl ha⟩
  by_cases hde:p∈o.del
  ·rw [v2 p (il.2 (.inr hde)),ky,pN]
   rintro ⟨_,h|h⟩
   ·exact ha h
   exact h.2 hde
  have e:p∈bF t.facts s o↔p∈s:=by rw [pN];exact ⟨fun h=>(h.2.resolve_left ha).1,fun h=>⟨⟨p0,pL⟩,.inr ⟨h,hde⟩⟩⟩
  by_cases hn:p∈c.eM∨p∈o.pre
  ·rw [v1 p (il.2 (.inl ⟨hnd hn,hde⟩)),ev,e,hmem]
   exact ⟨⟨p0,pL⟩,hn.elim .inl fun h=>.inr (.inl h)⟩
  by_cases hno:p∈c.no
  ·rw [v2 p (il.2 (.inl ⟨hno,ha⟩)),ky,e,hmem]
   rintro ⟨_,h|h|h⟩
   ·exact hn (.inl h)
   ·exact hn (.inr h)
   exact h.1 hno
  rw [qf7,ev,e,hmem];constructor
  ·rintro ⟨_,h|h|h⟩
   ·exact absurd (.inl h) hn
   ·exact absurd (.inr h) hn
   exact h.2
  exact fun h=>⟨⟨p0,pL⟩,.inr (.inr ⟨hno,h⟩)⟩
 rintro ⟨⟨h1,h3⟩,h2⟩;have hs:∀ c∈l,Gh t.facts c:=fun c hc=>(wX (h3 c hc)).1;obtain ⟨⟨c0,hc0,hi0⟩,hcl⟩:=(CW hw hs).1 h2;refine ⟨h1,⟨c0,hc0,oU.1 hi0⟩,h3,fun s cP ⟨c,hc,hi⟩=>⟨fun hg=>?_,fun o ho hp=>?_⟩⟩
 ·refine (hcl c hc).goal (im.2 fun p hp hn=>?_)
  exact im.1 hi.2 p hn (lC.1 hg p hp)
 obtain ⟨nx,hx,hin⟩:=Kr cP (hw.ops o ho).1 (oU.2 hi) hp;obtain ⟨d,hd,hdi⟩:=(hcl c hc).step o ho nx hx _ hin;exact ⟨d,hd,oU.1 hdi⟩
def pV (tb:List n9) (s:List Int):Int:=((tb.find? fun e=>decide (e.st=s)).map n9.val).getD 0
def mW (a b:List Int):Bool:=decide (fh a b= -1)
structure yr (t:Task) (tb:List n9):Prop where
 len:tb.length≤2000
 ok:∀ i (h:i < tb.length),isSet tb[i].st t.facts=true∧(1≤tb[i].val∧tb[i].val≤1000000000)∧¬dX t.goal tb[i].st=true∧(0 < i→mW tb[i - 1].st tb[i].st=true)
 st:∀ e∈tb,∀ o∈t.ops,dX o.pre e.st=true→¬o.cost+pV tb (bF t.facts e.st o) < e.val
theorem IH (a b:Int):lG a b= - lG b a:=by unfold lG;(repeat' split)<;>omega
theorem Du:∀ a b:List Int,fh a b= -1∨fh a b=0∨fh a b=1
 |[],[]=>by simp [fh]
 |[],_::_=>by simp [fh]
 |_::_,[]=>by simp [fh]
 |x::a,y::b=>by
  rw [fh];split
  ·exact Du a b
  unfold lG;(repeat' split)<;>omega
theorem zV:∀ a b:List Int,fh a b= - fh b a
 |[],[]=>by simp [fh]
 |[],_::_=>by simp [fh]
 |_::_,[]=>by simp [fh]
 |x::a,y::b=>by
  rw [fh,fh,IH x y,zV a b];(repeat' split)<;>omega
theorem yt:∀ {a b c:List Int},fh a b= -1→fh b c= -1→fh a c= -1
 |[],[],_,h,_=>by simp [fh] at h
 |[],_::_,[],_,h=>by simp [fh] at h
 |[],_::_,_::_,_,_=>by simp [fh]
 |_::_,[],_,h,_=>by simp [fh] at h
 |_::_,_::_,[],_,h=>by simp [fh] at h
 |x::a,y::b,z::c,h1,h2=>by
  rw [fh] at h1 h2 ⊢;have ih:=@yt a b c;unfold lG at *;(repeat' split at h1)<;>(repeat' split at h2)<;>(repeat' split)<;>first|omega|exact ih h1 h2
variable {tb:List n9}
theorem OK {L:Int} (h:∀ i (h:i < tb.length),0 < i→mW tb[i - 1].st tb[i].st=true) {e e':n9} (he:e∈tb) (he':e'∈tb) (hs:e.st=e'.st):e=e':=by
 have lt:∀ j (hj:j < tb.length) i (hi:i < j),fh (tb[i]' ak).st tb[j].st= -1:=fun j=>by
  induction j with
  |zero=>intro _ i hi;omega
  |succ j ih=>
   intro hj i hi;have h1:=h (j+1) hj ak;simp only [Nat.add_sub_cancel,mW,decide_eq_true_eq] at h1;rcases qc4 i j with h2|h2
   ·exact yt (ih ak i h2) h1
   obtain rfl:i=j:=by omega
   exact h1
 obtain ⟨i,hi,rfl⟩:=qa9 he;obtain ⟨j,hj,rfl⟩:=qa9 he';rcases Nat.lt_trichotomy i j with h1|h1|h1
 ·have:=lt j hj i h1;rw [(A5 _ _).2 hs] at this;omega
 ·subst h1;rfl
 have:=lt i hi j h1;rw [(A5 _ _).2 hs.symm] at this;omega
theorem zW:∀ (tb:List n9) (kv:List (Int×Int)) (w:Int),(lk kv w).isSome→(lk (lI tb kv) w).isSome
 |[],_,_,h=>h
 |e::r,kv,w,h=>zW r _ w (by rw [lf];split<;>simp [h])
theorem zY:∀ (tb:List n9) (kv:List (Int×Int)) {e:n9},e∈tb→(lk (lI tb kv) ((dm e.st:Nat):Int)).isSome
 |x::r,kv,e,h=>by
  rcases qc2.1 h with rfl|h
  ·exact zW r _ _ (by rw [lf,if_pos rfl];rfl)
  exact zY r _ h
theorem Bo {n:Int} (hok:∀ e∈tb,isSet e.st n=true) (hl:∀ i (h:i < tb.length),0 < i→mW tb[i - 1].st tb[i].st=true) (hs:isSet s n=true):Lv (lI tb []) s=pV tb s:=by
 unfold Lv pV;cases hf:tb.find? fun e=>decide (e.st=s) with
 |none=>
  have hno:=List.find?_eq_none.1 hf;cases hq:lk (lI tb []) ((dm s:Nat):Int) with
  |none=>rfl
  |some v=>
   rcases Bl tb [] _ v hq with h1|⟨e,he,e1,_⟩
   ·simp [lk] at h1
   exact absurd (decide_eq_true (Ge (hok e he) hs ak)) (hno e he)
 |some e=>
  have he:=List.mem_of_find?_eq_some hf;have e1:=List.find?_some hf;simp only [decide_eq_true_eq] at e1;have h2:=zY tb [] he;rw [e1] at h2;cases hq:lk (lI tb []) ((dm s:Nat):Int) with
  |none=>rw [hq] at h2;cases h2
  |some v=>
   rcases Bl tb [] _ v hq with h1|⟨e',he',e2,e3⟩
   ·simp [lk] at h1
   have:=OK (L:=n) hl he he' (by rw [e1,Ge (hok e' he') hs ak]);subst this;simp [e3]
theorem Fl {t:Task} {kv:List (Int×Int)} {s:List Int} {v:Int}:∀ {k:Nat},v≤ID t kv s k↔v≤1000000000∧∀ i,i < k→dX (t.ops[i]!).pre s=true→v≤(t.ops[i]!).cost+Lv kv (bF t.facts s t.ops[i]!)
 |0=>by simp [ID]
 |k+1=>by
  have ih:=Fl (t:=t) (kv:=kv) (s:=s) (v:=v) (k:=k);unfold ID;split
  ·rename_i hp
   constructor
   ·intro h
    obtain ⟨a,b⟩:=ih.1 ak;refine ⟨a,fun i hi hpi=>?_⟩;rcases qc4 i k with h1|h1
    ·exact b i h1 hpi
    obtain rfl:i=k:=by omega
    omega
   rintro ⟨a,b⟩;have h1:=ih.2 ⟨a,fun i hi=>b i ak⟩;have h2:=b k ak hp;omega
  rename_i hp;rw [ih];refine and_congr_right fun _=>⟨fun h i hi hpi=>?_,fun h i hi=>h i ak⟩
  rcases qc4 i k with h1|h1
  ·exact h i h1 hpi
  obtain rfl:i=k:=by omega
  exact absurd hpi hp
theorem OL (hf:cK t=(0,0)) {l:List n9}:je t l=(0,0)↔l.length≤2000∧∀ i (h:i < l.length),isSet l[i].st t.facts=true∧(1≤l[i].val∧l[i].val≤1000000000)∧(0 < i→mW l[i - 1].st l[i].st=true):=by
 have bad:∀ i (h:i < l.length),ux t.facts l i=none↔isSet l[i].st t.facts=true∧(1≤l[i].val∧l[i].val≤1000000000)∧(0 < i→mW l[i - 1].st l[i].st=true):=fun i h=>by
  have ha:=zV l[i].st l[i-1].st;have hr:=Du l[i-1].st l[i].st;have hb:Bm t.facts l i=true↔isSet l[i].st t.facts=false∨(0 < i∧fh l[i].st l[i-1].st≤0):=by unfold Bm;rw [bq h,bq (show i - 1 < l.length by omega)];simp only [qe0,qa1,qb7,decide_eq_true_eq]
  unfold ux mW;rw [bq h,decide_eq_true_eq];by_cases h1:Bm t.facts l i=true
  ·rw [if_pos h1]
   refine ⟨fun h=>(by cases h),fun ⟨a,_,c⟩=>?_⟩;rcases hb.1 h1 with h2|⟨h2,h3⟩
   ·rw [a] at h2;cases h2
   have:=c h2;omega
  rw [if_neg h1];have h2:isSet l[i].st t.facts=true:=by
   cases hq:isSet l[i].st t.facts with
   |true=>rfl
   |false=>exact absurd (hb.2 (.inl hq)) h1
  have h3:0 < i→fh l[i-1].st l[i].st= -1:=fun h0=>by
   have:¬fh l[i].st l[i-1].st≤0:=fun hc=>h1 (hb.2 (.inr ⟨h0,hc⟩))
   omega
  by_cases h4:l[i].val < 1∨1000000000 < l[i].val
  ·rw [if_pos h4]
   exact ⟨fun h=>(by cases h),fun ⟨_,b,_⟩=>by omega⟩
  rw [if_neg h4];exact ⟨fun _=>⟨h2,by omega,h3⟩,fun _=>rfl⟩
 unfold je;rw [if_neg (by simp [hf])];constructor
 ·intro h
  split at h
  ·simp at h
  rename_i h2;refine ⟨by omega,fun i hi=>(bad i hi).1 ?_⟩;cases hq:bx (ux t.facts l) l.length with
  |some q=>
   rw [hq] at h;simp only [qf3] at h;subst h;obtain ⟨i,_,hg⟩:=dh hq;unfold ux at hg;(repeat' split at hg)<;>simp at hg
  |none=>exact jd hq hi
 rintro ⟨h1,h2⟩;rw [if_neg ak,ik.2 fun k hk=>(bad k hk).2 (h2 k hk)];rfl
theorem GD (hf:cK t=(0,0)):yr t tb↔je t tb=(0,0)∧oT t (lI tb []) tb=true:=by
 have hw:=iJ.1 hf;rw [OL hf];have hgen:∀ (hok:∀ e∈tb,isSet e.st t.facts=true) (hl:∀ i (h:i < tb.length),0 < i→mW tb[i - 1].st tb[i].st=true),oT t (lI tb []) tb=true↔∀ e∈tb,e.val≤if dX t.goal e.st=true then 0 else ID t (lI tb []) e.st t.ops.length:=fun hok hl=>by
  unfold oT pU;rw [qc8];refine forall_congr' fun e=>forall_congr' fun he=>?_;simp only [qb7,decide_eq_false_iff_not,Int.not_lt]
 constructor
 ·rintro ⟨h1,h2,h3⟩
  have hok:∀ e∈tb,isSet e.st t.facts=true:=fun e he=>by
   obtain ⟨i,hi,rfl⟩:=qa9 he;exact (h2 i hi).1
  have hl:=fun i h=>(h2 i h).2.2.2;refine ⟨⟨h1,fun i h=>⟨(h2 i h).1,(h2 i h).2.1,hl i h⟩⟩,(hgen hok hl).2 fun e he=>?_⟩;obtain ⟨i,hi,rfl⟩:=qa9 he;rw [if_neg (h2 i hi).2.2.1,Fl];refine ⟨(h2 i hi).2.1.2,fun q hq hp=>?_⟩;rw [bq hq] at hp ⊢;rw [Bo hok hl (rq hw.f0 _ _)];have:=h3 _ (qa4 hi) _ (qa4 hq) hp;omega
 rintro ⟨⟨h1,h2⟩,h3⟩;have hok:∀ e∈tb,isSet e.st t.facts=true:=fun e he=>by
  obtain ⟨i,hi,rfl⟩:=qa9 he;exact (h2 i hi).1
 have hl:=fun i h=>(h2 i h).2.2;have h4:=(hgen hok hl).1 h3;refine ⟨h1,fun i h=>⟨(h2 i h).1,(h2 i h).2.1,fun hg=>?_,hl i h⟩,fun e he o ho hp=>?_⟩
 ·have:=h4 _ (qa4 h)
  rw [if_pos hg] at this;have:=(h2 i h).2.1.1;omega
 have:=h4 e he;split at this
 ·obtain ⟨i,hi,rfl⟩:=qa9 he
  have:=(h2 i hi).2.1.1;omega
 obtain ⟨q,hq,rfl⟩:=qa9 ho;have h5:=(Fl.1 this).2 q hq (by rw [bq hq];exact hp);rw [bq hq,Bo hok hl (rq hw.f0 _ _)] at h5;omega
end
section
set_option maxRecDepth 10000
attribute [local irreducible] dP fv mu lV dj PV ff ew AW bm da en dQ cX Ab.Fin fi er gF iN RV kh Le eV fL ma iG kM dJ dt
set_option maxHeartbeats 4000000
attribute [local go_sem] ec fm
noncomputable abbrev Dv (P:Prop):Bool:=@decide P (Classical.propDecidable P)
variable {P:Prop}
theorem GF (h:P):Dv P=true:=@decide_eq_true P (Classical.propDecidable P) h
theorem zZ (h:¬P):Dv P=false:=@decide_eq_false P (Classical.propDecidable P) h
theorem LF (a b:List Int):bm prog 83 [ints a,ints b] (fun r=>r= .bool (mW a b)):=by
 unfold mW;refine bc func83 ntmps83 ?_;(refine bU (i:=0) rfl (fun hba=>?_);(try simp only [qa2] at hba));(refine bU (i:=1) rfl (fun hbb=>?_);(try simp only [qa2] at hbb));refine Go (fun K hK=>?_) VX VX VX;refine ba [4,5,6,7,8,9,10,11,12,13,14,15,16,17,18,19,20,21,22,23,24,25,26,27,28,29,30,31,32,33,34,35] (fun k:Nat=>(k≤a.length∧k≤b.length)∧∀ i (h:i < a.length) (h2:i < b.length),i < k→a[i]=b[i]) (fun k=>a.length - k) (fun k=>[(5,.int k)]) (fun _=>[]) 0 ⟨by omega,by omega⟩ ?_ ?_
 ·refine bA ?_
  exact aZ
 rintro k ⟨hk,hn⟩ K hK;refine bA ?_;by_cases hlt:k < a.length
 ·by_cases hl2:k < b.length
  ·(repeat' (first|refine gD 4 ?_;refine dK (.r 0 9 .nil) ?_|refine gD 5 ?_;refine dK (.r 0 10 .nil) ?_|intro (K:St→Prop) hK|intro hc|(refine Gf 99 ?_ ?_ ?_ ?_<;>try exact VX)|fail))
   ·refine VY ?_
    rw [sV hlt hl2 hn aE,lG];congr 1;rw [decide_eq_decide];(repeat' split)<;>omega
   (refine ⟨k+1,⟨by omega,fun i h1 h2 h3=>(qc4 i k).elim (hn i h1 h2) fun h4=>(by obtain rfl:i=k:=ak;assumption)⟩,by omega,?_⟩;(refine bA ?_);(exact aZ))
  refine iy (fun hc hc K hK=>?_) VX VX VX;refine VY ?_;rw [qR fun i h1 h2=>hn i h1 h2 ak,lG];congr 1;rw [decide_eq_decide];(repeat' split)<;>omega
 refine iy (fun hc K hK=>?_) VX VX VX;refine VY ?_;rw [qR fun i h1 h2=>hn i h1 h2 ak,lG];congr 1;rw [decide_eq_decide];(repeat' split)<;>omega
theorem GH (tb:List n9) (s:List Int):bm prog 31 [yq tb,ints s] (fun r=>r= .int (pV tb s)):=by
 have hi:=fun x=>Gn x s;refine bc func31 ntmps31 ?_;(refine bU (i:=0) rfl (fun hb=>?_);(try simp only [qa2] at hb));refine Go (fun K hK=>?_) VX VX VX;refine ba [4,5,6,7,8,9,10,11,12,13,14,15,16,17,18,19,20,21,22,23] (fun k:Nat=>k≤tb.length∧∀ i (hi:i < tb.length),i < k→decide (tb[i].st=s)=false) (fun k=>tb.length - k) (fun k=>[(5,.int k)]) (fun _=>[]) 0 ⟨by omega,by omega⟩ ?_ ?_
 ·refine bA ?_
  exact aZ
 rintro k ⟨hk,hn⟩ K hK;refine bA ?_;by_cases hlt:k < tb.length
 ·have h1:=hi tb[k].st
  cases he:decide (tb[k].st=s) with
  |true=>
   rw [he] at h1;(repeat' (first|refine gC 35 ?_;refine bg (h1) ?_|intro (K:St→Prop) hK|intro hc|(refine Gf 99 ?_ ?_ ?_ ?_<;>try exact VX)|fail));refine VY ?_;have e:tb.find? (fun e=>decide (e.st=s))=some tb[k]:=by rw [List.find?_eq_some_iff_getElem];exact ⟨he,k,hlt,rfl,fun j hj=>by rw [hn j ak hj];rfl⟩
   rw [pV,e];rfl
  |false=>
   rw [he] at h1;(repeat' (first|refine gC 35 ?_;refine bg (h1) ?_|intro (K:St→Prop) hK|intro hc|(refine Gf 99 ?_ ?_ ?_ ?_<;>try exact VX)|fail));(refine ⟨k+1,⟨by omega,cj hn fun _=>he⟩,by omega,?_⟩;(refine bA ?_);(exact aZ))
 refine iy (fun hc K hK=>?_) VX VX VX;refine VY ?_;have e:tb.find? (fun e=>decide (e.st=s))=none:=by rw [List.find?_eq_none];intro x hx;obtain ⟨i,hi,rfl⟩:=qa9 hx;rw [hn i hi ak];exact ql7
 rw [pV,e];rfl
theorem OM (g:Bf) (x:br):bm prog 11 [g.av,x.av] (fun r=>r= .int (y6 g x)):=by
 obtain ⟨⟨fa,cB,go,ops⟩,l,ins⟩:=g;have hi:=fun y=>Gn y x.a;refine bc func11 ntmps11 ?_;refine Gx 1 (fun K hK K hK=>?_) VX VX VX;(refine dZ (id:=2) (j:=5) rfl rfl (fun hb=>?_);(try simp only [qa2] at hb));refine Go ?_ VX VX VX;refine ba [4,5,6,7,8,9,10,11,12,13,14,15,16,17,18,19,20,21,22,23,24,25,26,27,28,29,30,31,32,33] (fun k:Nat=>k≤ins.length∧∀ i (hi:i < ins.length),i < k→uy x ins[i]=false) (fun k=>ins.length - k) (fun k=>[(5,.int k)]) (fun _=>[(2,⟨40,[.int fa,ints cB,ints go,uk ops,b9 l,bQ ins],true⟩),(3,⟨52,[.int x.p,ints x.a],true⟩)]) 0 ⟨by omega,by omega⟩ ?_ ?_
 ·refine bA ?_
  exact aZ
 rintro k ⟨hk,hn⟩ K hK;refine bA ?_;by_cases hlt:k < ins.length
 ·have h1:=hi ins[k].a
  have hs:uy x ins[k]=(decide (ins[k].p=x.p)&&decide (ins[k].a=x.a)):=by rw [uy,qf7,qa1,qa1,decide_eq_true_eq,decide_eq_true_eq,decide_eq_true_eq,decide_eq_true_eq,@eq_comm _ x.p,@eq_comm _ x.a]
  by_cases hp:ins[k].p=x.p
  ·rw [decide_eq_true hp,qf4] at hs
   generalize decide (ins[k].a=x.a)=b at *;cases b with
   |true=>
    (repeat' (first|refine gD 4 ?_;refine dK (.r 0 18 (.it 18 2 (.it 19 0 .nil))) ?_|refine dH 35 ?_;refine bB (h1) ?_|intro (K:St→Prop) hK|intro hc|(refine rh 99 ?_ ?_ ?_ ?_<;>try exact VX)|fail));refine VY ?_;show _=AV.int (mR (uy x) ins);rw [iP hlt hs hn]
   |false=>
    (repeat' (first|refine gD 4 ?_;refine dK (.r 0 18 (.it 18 2 (.it 19 0 .nil))) ?_|refine dH 35 ?_;refine bB (h1) ?_|intro (K:St→Prop) hK|intro hc|(refine rh 99 ?_ ?_ ?_ ?_<;>try exact VX)|fail));(refine ⟨k+1,⟨by omega,cj hn fun _=>hs⟩,by omega,?_⟩;(refine bA ?_);(exact aZ))
  rw [decide_eq_false hp,qm1] at hs;(repeat' (first|refine gD 4 ?_;refine dK (.r 0 18 (.it 18 2 (.it 19 0 .nil))) ?_|intro (K:St→Prop) hK|intro hc|(refine rh 99 ?_ ?_ ?_ ?_<;>try exact VX)|fail));(refine ⟨k+1,⟨by omega,cj hn fun _=>hs⟩,by omega,?_⟩;(refine bA ?_);(exact aZ))
 refine iy (fun hc K hK=>?_) VX VX VX;refine VY ?_;show _=AV.int (mR (uy x) ins);rw [gv fun i hi=>hn i hi ak]
theorem LG (t:Task) (s:List Int) (h0:0≤t.facts∧t.facts≤1000):bm prog 81 [t.av,ints s] (fun r=>r= .bool (isSet s t.facts)):=by
 have h1:=wb s t.facts h0;obtain ⟨fa,cB,go,ops⟩:=t;simp only at h1 ⊢;refine bc func81 ntmps81 ?_;(repeat' (first|refine gC 74 ?_;refine bg (h1) ?_|intro (K:St→Prop) hK|intro hc|(refine Gf 99 ?_ ?_ ?_ ?_<;>try exact VX)|fail));refine VY ?_;rfl
def TC:Option (List Int)→AV
 |some e=>.dC [ints e,.bool true]
 |none=>.dC [.fO,.bool false]
theorem ON (t:Task) (s:List Int) {i:Nat} {r:List Nat} (h:i < t.ops.length):iz t s (i::r)=if dX t.ops[i].pre s=true then iz t (bF t.facts s t.ops[i]) r else none:=by
 rw [iz,qa7 h]
theorem LH (t:Task) (hw:xZ t) (s:List Int) (plan:List Int) (hp:uw t plan):bm prog 149 [t.av,ints s,ints plan] (fun r=>r=TC (iz t s (fZ plan))):=by
 have h40:=hw.P9;have hap:=fun s i hi=>sU t s i hi h40;have haf:=fun s i hi=>yp t s i hi h40 hw.f0 hw.f1;have heq:=fun s {i r} h=>@ON t s i r h;clear hw;obtain ⟨R,hR⟩:∃ r,iz t s (fZ plan)=r:=⟨_,rfl⟩
 rw [hR];have hnil:∀ s,iz t s []=some s:=fun _=>rfl;obtain ⟨fa,cB,go,ops⟩:=t;simp only at h40 hap haf heq;refine bc func149 ntmps149 ?_;(refine bU (i:=2) rfl (fun hb=>?_);(try simp only [qa2] at hb));refine Go (fun K hK=>?_) VX VX VX;refine ba [1,6,7,8,9,10,11,12,13,14,15,16,17,18,19,20,21,22,23,24,25,26,27,28,29] (fun q:Nat×List Int=>q.1≤plan.length∧iz ⟨fa,cB,go,ops⟩ q.2 (fZ (plan.drop q.1))=R) (fun q=>plan.length - q.1) (fun q=>[(8,.int q.1),(1,ints q.2)]) (fun _=>[(3,⟨38,[.int fa,ints cB,ints go,uk ops],true⟩)]) (0,s) ⟨qc6 _,hR⟩ ?_ ?_
 ·refine bA ?_
  exact aZ
 rintro ⟨k,u⟩ ⟨hk,he⟩ K hK;simp only at hk he ⊢;refine bA ?_;by_cases hlt:k < plan.length
 ·have hpk:=hp _ (qa4 hlt)
  simp only at hpk;obtain ⟨i,hi⟩:∃ i:Nat,plan[k]=(i:Int):=⟨plan[k].toNat,(qg3 hpk.1).symm⟩
  have hio:i < ops.length:=by omega
  have c1:=hap u i hio;have c2:=haf u i hio;rw [bq hio] at c1 c2;rw [← hi] at c1 c2;rw [qe2 hlt,fZ,qd4,show plan[k].toNat=i by omega,heq u hio] at he;cases hs:dX ops[i].pre u with
  |false=>
   rw [hs] at c1;rw [hs,if_neg aB] at he;subst he;(repeat' (first|refine gD 4 ?_;refine Wb ?_|refine dH 78 ?_;refine bB (c1) ?_|intro (K:St→Prop) hK|intro hc|(refine Gf 99 ?_ ?_ ?_ ?_<;>try exact VX)|fail));refine V8 ?_;rfl
  |true=>
   rw [hs] at c1;rw [hs,if_pos rfl] at he;(repeat' (first|refine gD 4 ?_;refine Wb ?_|refine gD 6 ?_;refine Wb ?_|refine dH 78 ?_;refine bB (c1) ?_|refine dH 79 ?_;refine bB (c2) ?_|intro (K:St→Prop) hK|intro hc|(refine Gf 99 ?_ ?_ ?_ ?_<;>try exact VX)|fail));refine ⟨(k+1,bF fa u ops[i]),⟨by simp only;omega,he⟩,by simp only;omega,?_⟩;refine bA ?_;exact aZ
 obtain rfl:k=plan.length:=by omega
 rw [qi3] at he;have he:some u=R:=he;subst he;refine iy (fun hc K hK=>?_) VX VX VX;refine V8 ?_;rfl
theorem II (t:Task) (hw:xZ t) (s:List Int) (plan:List Int) (hp:uw t plan):bm prog 80 [t.av,ints s,ints plan] (fun r=>r= .bool (jD t s (fZ plan))):=by
 have h1:=LH t hw s plan hp;unfold jD;generalize iz t s (fZ plan)=e at *;obtain ⟨fa,cB,go,ops⟩:=t;simp only;cases e with
 |none=>
  have h1:bm prog 149 [(Task.mk fa cB go ops).av,ints s,ints plan] (fun r=>r= .dC [.fO,.bool false]):=h1;refine bc func80 ntmps80 ?_;(repeat' (first|refine gC 149 ?_;refine bg (h1) ?_|intro (K:St→Prop) hK|intro hc|(refine Gf 99 ?_ ?_ ?_ ?_<;>try exact VX)|fail));refine VY ?_;rfl
 |some e=>
  have h1:bm prog 149 [(Task.mk fa cB go ops).av,ints s,ints plan] (fun r=>r= .dC [ints e,.bool true]):=h1;refine bc func80 ntmps80 ?_;(repeat' (first|refine gC 149 ?_;refine bg (h1) ?_|refine gC 77 ?_;refine bg (oO _ _) ?_|intro (K:St→Prop) hK|intro hc|(refine Gf 99 ?_ ?_ ?_ ?_<;>try exact VX)|fail));refine VY ?_;rfl
theorem Fm (t:Task) (hw:xZ t) (plan:List Int) (hp:uw t plan):bm prog 28 [t.av,ints plan] (fun r=>r= .bool (jD t t.init (fZ plan))):=by
 have h1:=II t hw t.init plan hp;generalize jD t t.init (fZ plan)=b at *;obtain ⟨fa,cB,go,ops⟩:=t;refine bc func28 ntmps28 ?_;(repeat' (first|refine gC 80 ?_;refine bg (h1) ?_|intro (K:St→Prop) hK|intro hc|(refine Gf 99 ?_ ?_ ?_ ?_<;>try exact VX)|fail));refine VY ?_;rfl
theorem LI (t:Task) (hw:xZ t) (plan:List Int) (hp:uw t plan) (h60:plan.length≤60):bm prog 29 [t.av,ints plan] (fun r=>r= .int (ft t (fZ plan))):=by
 have hc:∀ i (h:i < t.ops.length),0≤t.ops[i].cost∧t.ops[i].cost≤100:=fun i h=>(hw.ops _ (qa4 h)).2;have hct:∀ i r (h:i < t.ops.length),ft t (i::r)=t.ops[i].cost+ft t r:=fun i r h=>by rw [ft,qa7 h]
 have hz:ft t (fZ [])=0:=rfl;obtain ⟨R,hR⟩:∃ r,ft t (fZ plan)=r:=⟨_,rfl⟩
 rw [hR];clear hw;obtain ⟨fa,cB,go,ops⟩:=t;simp only at hc hct;refine bc func29 ntmps29 ?_;refine Go (fun K hK=>?_) VX VX VX;refine ba [5,6,7,8,9,10,11,12,13,14,15,16,17,18,19,20,21,22,23] (fun q:Nat×Int=>q.1≤plan.length∧q.2+ft ⟨fa,cB,go,ops⟩ (fZ (plan.drop q.1))=R∧0≤q.2∧q.2≤100 * q.1) (fun q=>plan.length - q.1) (fun q=>[(6,.int q.1),(5,.int q.2)]) (fun _=>[(2,⟨38,[.int fa,ints cB,ints go,uk ops],true⟩)]) (0,0) ⟨qc6 _,by simp only [List.drop_zero,Int.zero_add];exact hR,by simp,by simp⟩ ?_ ?_
 ·refine bA ?_
  exact aZ
 rintro ⟨k,n⟩ ⟨hk,he,h1,h2⟩ K hK;simp only at hk he h1 h2 ⊢;refine bA ?_;by_cases hlt:k < plan.length
 ·have hpk:=hp _ (qa4 hlt)
  simp only at hpk;have hio:plan[k].toNat < ops.length:=by omega
  have hck:=hc _ hio;rw [qe2 hlt,fZ,qd4,hct _ _ hio] at he;(repeat' (first|refine gD 5 ?_;refine dK (.r 0 12 .nil) ?_|intro (K:St→Prop) hK|intro hc|(refine Gf 99 ?_ ?_ ?_ ?_<;>try exact VX)|fail));refine ⟨(k+1,n+ops[plan[k].toNat].cost),⟨by simp only;omega,by simp only;rw [Int.add_assoc];exact he,by simp only;omega,by simp only;omega⟩,by simp only;omega,?_⟩;refine bA ?_;exact aZ
 obtain rfl:k=plan.length:=by omega
 rw [qi3,hz] at he;refine iy (fun hc K hK=>?_) VX VX VX;refine VY ?_;rw [← he,Int.add_zero]
theorem LJ {tb:List n9} (h:∀ i (hi:i < tb.length),1≤tb[i].val∧tb[i].val≤1000000000) (s:List Int):0≤pV tb s∧pV tb s≤1000000000:=by
 unfold pV;cases hf:tb.find? fun e=>decide (e.st=s) with
 |none=>simp
 |some e=>
  obtain ⟨i,hi,rfl⟩:=qa9 (List.mem_of_find?_eq_some hf);have:=h i hi;simp only [qg2,qf3];omega
theorem OO (t:Task) (hw:xZ t) (tb:List n9):bm prog 30 [t.av,yq tb] (fun r=>r= .bool (Dv (yr t tb))):=by
 have h40:=hw.P9;have hap:=fun s i hi=>sU t s i hi h40;have haf:=fun s i hi=>yp t s i hi h40 hw.f0 hw.f1;have hso:=fun s=>LG t s ⟨hw.f0,by have:=hw.f1;omega⟩;have hco:∀ i (h:i < t.ops.length),0≤t.ops[i].cost∧t.ops[i].cost≤100:=fun i h=>(hw.ops _ (qa4 h)).2;clear hw;by_cases h2:tb.length≤2000
 ·have hsu:=fun a b=>oO a b
  have hin:=fun n=>qb n 1 1000000000;have hno:∀ k (hk:k < tb.length),¬(isSet tb[k].st t.facts=true∧(1≤tb[k].val∧tb[k].val≤1000000000)∧¬dX t.goal tb[k].st=true∧(0 < k→mW tb[k - 1].st tb[k].st=true))→Dv (yr t tb)=false:=fun k hk h=>zZ fun hp=>h (hp.ok k hk);have hns:∀ j (hj:j < tb.length) m (hm:m < t.ops.length),¬(dX t.ops[m].pre tb[j].st=true→¬t.ops[m].cost+pV tb (bF t.facts tb[j].st t.ops[m]) < tb[j].val)→Dv (yr t tb)=false:=fun j hj m hm h=>zZ fun hp=>h (hp.st _ (qa4 hj) _ (qa4 hm));have hye:(∀ k (hk:k < tb.length),(isSet tb[k].st t.facts=true∧(1≤tb[k].val∧tb[k].val≤1000000000)∧¬dX t.goal tb[k].st=true∧(0 < k→mW tb[k - 1].st tb[k].st=true)))→(∀ j (hj:j < tb.length) m (hm:m < t.ops.length),(dX t.ops[m].pre tb[j].st=true→¬t.ops[m].cost+pV tb (bF t.facts tb[j].st t.ops[m]) < tb[j].val))→Dv (yr t tb)=true:=fun a b=>GF ⟨h2,a,fun e he o ho=>by
   obtain ⟨j,hj,rfl⟩:=qa9 he;obtain ⟨m,hm,rfl⟩:=qa9 ho;exact b j hj m hm⟩
  generalize Dv (yr t tb)=R at *;have hrng:=@LJ tb;have hen:=GH tb;obtain ⟨fa,cB,go,ops⟩:=t;simp only at h40 hap haf hso hco hno hns hye;refine bc func30 ntmps30 ?_;refine Go (fun hc K hK=>?_) VX VX VX;refine ba [4,5,6,12,13,14,15,16,17,18,19,20,21,22,23,24,25,26,27,28,29,30,31,32,33,34,35,36,37,38,39,40,41,42,43,44,45,46,47,48,49,50,51,52,53,54,55] (fun k:Nat=>k≤tb.length∧∀ i (hi:i < tb.length),i < k→(isSet tb[i].st fa=true∧(1≤tb[i].val∧tb[i].val≤1000000000)∧¬dX go tb[i].st=true∧(0 < i→mW tb[i - 1].st tb[i].st=true))) (fun k=>tb.length - k) (fun k=>[(5,.int k)]) (fun _=>[(2,⟨38,[.int fa,ints cB,ints go,uk ops],true⟩)]) 0 ⟨by omega,by omega⟩ ?_ ?_
  ·refine bA ?_
   exact aZ
  rintro k ⟨hk,hn⟩ K hK;refine bA ?_;by_cases hlt:k < tb.length
  ·have c1:=hso tb[k].st
   have c2:=hin tb[k].val;have c3:=hsu go tb[k].st;have hb:=hno k hlt;have hst:=@cj tb.length k (fun i hi=>(isSet tb[i].st fa=true∧(1≤tb[i].val∧tb[i].val≤1000000000)∧¬dX go tb[i].st=true∧(0 < i→mW tb[i - 1].st tb[i].st=true))) hn;clear hno hns hye hap haf hen hrng hn;cases h1:isSet tb[k].st fa with
   |false=>
    rw [h1] at c1;(repeat' (first|refine gD 7 ?_;refine V3 ?_|refine dH 81 ?_;refine bB (c1) ?_|intro (K:St→Prop) hK|intro hc|(refine Gf 99 ?_ ?_ ?_ ?_<;>try exact VX)|fail))
    all_goals (refine VY ?_)
    all_goals rw [hb fun h=>by rw [h1] at h;cases h.1]
   |true=>
    rw [h1] at c1;by_cases h3:1≤tb[k].val∧tb[k].val≤1000000000
    ·rw [show KD tb[k].val 1 1000000000=true by rw [KE];exact h3] at c2
     cases h4:dX go tb[k].st with
     |true=>
      rw [h4] at c3;(repeat' (first|refine gD 7 ?_;refine V3 ?_|refine dH 81 ?_;refine bB (c1) ?_|refine dH 82 ?_;refine bB (c2) ?_|refine dH 77 ?_;refine bB (c3) ?_|intro (K:St→Prop) hK|intro hc|(refine Gf 99 ?_ ?_ ?_ ?_<;>try exact VX)|fail))
      all_goals (refine VY ?_)
      all_goals rw [hb fun h=>h.2.2.1 h4]
     |false=>
      rw [h4] at c3;by_cases hk0:k=0
      ·(repeat' (first|refine gD 7 ?_;refine V3 ?_|refine dH 81 ?_;refine bB (c1) ?_|refine dH 82 ?_;refine bB (c2) ?_|refine dH 77 ?_;refine bB (c3) ?_|intro (K:St→Prop) hK|intro hc|(refine rh 99 ?_ ?_ ?_ ?_<;>try exact VX)|fail))
       (refine ⟨k+1,⟨by omega,hst fun _=>⟨h1,h3,by rw [h4];simp,fun h=>by omega⟩⟩,by omega,?_⟩;(refine bA ?_);(exact aZ))
      have c4:=LF tb[k - 1].st tb[k].st;cases h5:mW tb[k - 1].st tb[k].st with
      |false=>
       rw [h5] at c4;(repeat' (first|refine gD 7 ?_;refine V3 ?_|refine dH 81 ?_;refine bB (c1) ?_|refine dH 82 ?_;refine bB (c2) ?_|refine dH 77 ?_;refine bB (c3) ?_|refine dH 83 ?_;refine bB (c4) ?_|intro (K:St→Prop) hK|intro hc|(refine rh 99 ?_ ?_ ?_ ?_<;>try exact VX)|fail))
       all_goals (refine VY ?_)
       all_goals rw [hb fun h=>by have:=h.2.2.2 ak;rw [h5] at this;cases this]
      |true=>
       rw [h5] at c4;(repeat' (first|refine gD 7 ?_;refine V3 ?_|refine dH 81 ?_;refine bB (c1) ?_|refine dH 82 ?_;refine bB (c2) ?_|refine dH 77 ?_;refine bB (c3) ?_|refine dH 83 ?_;refine bB (c4) ?_|intro (K:St→Prop) hK|intro hc|(refine rh 99 ?_ ?_ ?_ ?_<;>try exact VX)|fail));(refine ⟨k+1,⟨by omega,hst fun _=>⟨h1,h3,by rw [h4];simp,fun h=>h5⟩⟩,by omega,?_⟩;(refine bA ?_);(exact aZ))
    rw [show KD tb[k].val 1 1000000000=false by rw [KF];omega] at c2;(repeat' (first|refine gD 7 ?_;refine V3 ?_|refine dH 81 ?_;refine bB (c1) ?_|refine dH 82 ?_;refine bB (c2) ?_|intro (K:St→Prop) hK|intro hc|(refine Gf 99 ?_ ?_ ?_ ?_<;>try exact VX)|fail))
    all_goals (refine VY ?_)
    all_goals rw [hb fun h=>h3 h.2.1]
  have hall:=fun i (hi:i < tb.length)=>hn i hi ak;have hye:=hye hall;have hrng:=hrng fun i hi=>(hall i hi).2.1;have hval:=fun i hi=>(hall i hi).2.1;clear hno hn hall hk hso hsu hin;refine iy (fun hc K hK K hK=>?_) VX VX VX;refine ba [4,7,8,56,57,58,59,60,61,62,63,64,65,66,67,68,69,70,71,72,73,74,75,76,77,78,79,80,81,82,83,84,85,86,87,88,89,90,91,92,93,94,95,96,97,98,99,100,101] (fun j:Nat=>j≤tb.length∧∀ i (hi:i < tb.length),i < j→∀ m (hm:m < ops.length),(dX ops[m].pre tb[i].st=true→¬ops[m].cost+pV tb (bF fa tb[i].st ops[m]) < tb[i].val)) (fun j=>tb.length - j) (fun j=>[(7,.int j)]) (fun _=>[(2,⟨38,[.int fa,ints cB,ints go,uk ops],true⟩)]) 0 ⟨by omega,by omega⟩ ?_ ?_
  ·refine bA ?_
   exact aZ
  rintro j ⟨hj,hm⟩ K hK;refine bA ?_;by_cases hjl:j < tb.length
  ·have hms:=@cj tb.length j (fun i hi=>∀ m (hm:m < ops.length),(dX ops[m].pre tb[i].st=true→¬ops[m].cost+pV tb (bF fa tb[i].st ops[m]) < tb[i].val)) hm
   have hnj:=hns j hjl;have hvj:=hval j hjl;clear hm hns hye;refine Go (fun hc K hK=>?_) VX VX VX;refine ba [4,8,62,63,64,65,66,67,68,69,70,71,72,73,74,75,76,77,78,79,80,81,82,83,84,85,86,87,88,89,90,91,92,93,94,95,96,97,98,99,100,101] (fun q:Nat=>q≤ops.length∧∀ m (hm:m < ops.length),m < q→(dX ops[m].pre tb[j].st=true→¬ops[m].cost+pV tb (bF fa tb[j].st ops[m]) < tb[j].val)) (fun q=>ops.length - q) (fun q=>[(8,.int q)]) (fun _=>[(2,⟨38,[.int fa,ints cB,ints go,uk ops],true⟩)]) 0 ⟨by omega,by omega⟩ ?_ ?_
   ·refine bA ?_
    exact aZ
   rintro q ⟨hq,hmq⟩ K hK;refine bA ?_;by_cases hql:q < ops.length
   ·have c1:=hap tb[j].st q hql
    have c2:=haf tb[j].st q hql;rw [bq hql] at c1 c2;have c3:=hen (bF fa tb[j].st ops[q]);have hr:=hrng (bF fa tb[j].st ops[q]);have hcq:=hco q hql;have hb:=hnj q hql;have hst:=@cj ops.length q (fun m hm=>(dX ops[m].pre tb[j].st=true→¬ops[m].cost+pV tb (bF fa tb[j].st ops[m]) < tb[j].val)) hmq;clear hmq hnj;generalize hE:pV tb (bF fa tb[j].st ops[q])=E at *;cases h1:dX ops[q].pre tb[j].st with
    |false=>
     rw [h1] at c1;(repeat' (first|refine gD 15 ?_;refine V6 ?_|refine dH 78 ?_;refine bB (c1) ?_|intro (K:St→Prop) hK|intro hc|(refine Gf 99 ?_ ?_ ?_ ?_<;>try exact VX)|fail));(refine ⟨q+1,⟨by omega,hst fun _ h=>by rw [h1] at h;cases h⟩,by omega,?_⟩;(refine bA ?_);(exact aZ))
    |true=>
     rw [h1] at c1;by_cases h6:ops[q].cost+E < tb[j].val
     ·(repeat' (first|refine gD 15 ?_;refine V6 ?_|refine dH 78 ?_;refine bB (c1) ?_|refine dH 79 ?_;refine bB (c2) ?_|refine dH 31 ?_;refine bB (c3) ?_|intro (K:St→Prop) hK|intro hc|(refine Gf 99 ?_ ?_ ?_ ?_<;>try exact VX)|fail))
      all_goals (refine VY ?_)
      all_goals rw [hb fun h=>h h1 (by first|exact h6|(rw [hE];exact h6))]
     (repeat' (first|refine gD 15 ?_;refine V6 ?_|refine dH 78 ?_;refine bB (c1) ?_|refine dH 79 ?_;refine bB (c2) ?_|refine dH 31 ?_;refine bB (c3) ?_|intro (K:St→Prop) hK|intro hc|(refine Gf 99 ?_ ?_ ?_ ?_<;>try exact VX)|fail));(refine ⟨q+1,⟨by omega,hst fun _ _=>by rw [hE];exact h6⟩,by omega,?_⟩;(refine bA ?_);(exact aZ))
   have hmq:=fun m (hm:m < ops.length)=>hmq m hm ak;refine iy (fun hc K hK=>?_) VX VX VX;(refine ⟨j+1,⟨by omega,hms fun _=>hmq⟩,by omega,?_⟩;(refine bA ?_);(exact aZ))
  have hm:=fun i (hi:i < tb.length)=>hm i hi ak;refine iy (fun hc K hK=>?_) VX VX VX;refine VY ?_;rw [hye hm]
 rw [zZ fun h=>h2 h.len];obtain ⟨fa,cB,go,ops⟩:=t;refine bc func30 ntmps30 ?_;refine Go (fun hc K hK=>?_) VX VX VX;refine VY ?_;rfl
def mn:Nat→List Int→Nat→List (List Int)
 |0,s,_=>[s]
 |f+1,s,k=>mn f (s++[(k:Int)]) (k+1)++mn f s (k+1)
theorem qS:∀ (f:Nat) (s:List Int) (k:Nat),(mn f s k).length=2 ^ f
 |0,_,_=>rfl
 |f+1,s,k=>by rw [mn,qa3,qS f,qS f,Nat.pow_succ];omega
theorem yu {x:List Int}:∀ {f:Nat} {s:List Int} {k:Nat},x∈mn f s k↔∃ y:List Int,x=s++y∧(∀ p∈y,(k:Int)≤p∧p < (k:Int)+f)∧y.Pairwise (· < ·)
 |0,s,k=>by
  rw [mn,qd7];constructor
  ·rintro rfl;exact ⟨[],by simp,by simp,List.Pairwise.nil⟩
  rintro ⟨y,rfl,h,_⟩;cases y with
  |nil=>simp
  |cons p y=>have:=h p aC;omega
 |f+1,s,k=>by
  rw [mn,qe4,yu (f:=f),yu (f:=f)];constructor
  ·rintro (⟨y,rfl,h,hp⟩|⟨y,rfl,h,hp⟩)
   ·refine ⟨(k:Int)::y,by simp,fun p hm=>?_,List.Pairwise.cons (fun p hm=>?_) hp⟩
    ·rcases qc2.1 hm with rfl|hm
     ·omega
     have:=h p hm;omega
    have:=h p hm;omega
   exact ⟨y,rfl,fun p hm=>by have:=h p hm;omega,hp⟩
  rintro ⟨y,rfl,h,hp⟩;cases y with
  |nil=>exact .inr ⟨[],by simp,by simp,List.Pairwise.nil⟩
  |cons p y=>
   have h0:=h p aC;have hp':=qk5.1 hp;by_cases e:p=k
   ·subst e
    exact .inl ⟨y,by simp,fun q hm=>by have:=h q (by simp [hm]);have:=hp'.1 q hm;omega,hp'.2⟩
   refine .inr ⟨p::y,rfl,fun q hm=>?_,hp⟩;rcases qc2.1 hm with rfl|hm
   ·omega
   have:=h q (by simp [hm]);have:=hp'.1 q hm;omega
variable {n:Nat} {s:List Int}
theorem Dw:s∈mn n [] 0↔isSet s n=true:=by
 rw [yu,ct];constructor
 ·rintro ⟨y,rfl,h,hp⟩
  (try simp only [qk0]);exact ⟨fun p hm=>by have:=h p hm;omega,hp⟩
 rintro ⟨h,hp⟩;exact ⟨s,by simp,fun p hm=>by have:=h p hm;omega,hp⟩
theorem OP (s:List Int) (k:Nat):da prog 76 [ints s,.int k,.int k] [11] (fun x hp=>∃ fl,x= .sl 1 24 11 0 1∧hp=[(11,⟨35,[ints s],fl⟩)]):=by
 refine xr func76 ntmps76 ?_;refine Gx 2 (fun hc K hK K hK=>?_) VX VX VX;refine dU ?_;refine cn rfl (fun K1 hK1=>?_);refine bt jh ?_;(try simp only [go_sem,seval]);refine hK1 _ ?_;clear hK1 K1;refine cn rfl (fun K1 hK1=>?_);refine ka (kW (d:=11) ⟨by decide,by decide,by decide⟩ aR aR aR aR aR ?_);(try simp only [go_sem,seval]);refine hK1 _ ?_;clear hK1 K1;refine DW ?_;refine Go ?_ VX VX VX;refine qW rfl aR aR rfl ⟨_,rfl,rfl⟩
theorem OQ (s:List Int) (k:Nat):bm prog 76 [ints s,.int k,.int k] (fun r=>r=GI [s]):=by
 refine bc func76 ntmps76 ?_;refine Go (fun hc K hK=>?_) VX VX VX;refine VY ?_;rfl
theorem LK:∀ (f:Nat) (s:List Int) (k:Nat),f≤8→s.length+f≤100→k+f≤100→
 da prog 76 [ints s,.int k,.int ((k+f:Nat):Int)] [50011] (fun x hp=>∃ fl,x= .sl 1 24 50011 0 (mn f s k).length∧hp=[(50011,⟨35,(mn f s k).map ints,fl⟩)])∧
 bm prog 76 [ints s,.int k,.int ((k+f:Nat):Int)] (fun r=>r=GI (mn f s k)):=by
 intro f
 induction f with
 |zero=>
  intro s k _ _ _;refine ⟨?_,OQ s k⟩;exact (OP s k).pW 50000 fun x hp ⟨fl,h1,h2⟩=>⟨fl,by subst h1;rfl,by subst h2;rfl⟩
 |succ f ih=>
  intro s k hf hs hk;have c1:=(ih (s++[(k:Int)]) (k+1) ak (by rw [qa3,qb4];omega) ak).1;have c2:=(ih s (k+1) ak ak ak).2;have e:(((k+1)+f:Nat):Int)=((k+(f+1):Nat):Int):=by omega
  rw [e] at c1 c2;have hn:((k+(f+1):Nat):Int)=(k:Int)+(f:Int)+1:=by omega
  have l1:=qS f (s++[(k:Int)]) (k+1);have l2:=qS f s (k+1);have hpw:2 ^ f≤2 ^ 8:=qk7 aB ak;have hX:mn (f+1) s k=mn f (s++[(k:Int)]) (k+1)++mn f s (k+1):=rfl;rw [hX];generalize mn f (s++[(k:Int)]) (k+1)=X at *;generalize mn f s (k+1)=Y at *;generalize 2 ^ f=W at *;have hW:W≤256:=hpw;generalize ((k+(f+1):Nat):Int)=N at *;simp only [ints,qb5,qd4,qg5] at c1;clear ih hX;constructor
  ·refine xr func76 ntmps76 ?_
   (repeat' (first|refine bu (fun K hK=>?_);(first|((refine fy (dL (f:=AV.int) 13006 1 8 (s.length+1) (s++[(k:Int)]) aR (by rw [jV,qb5];rfl) aC (fun _=>rfl) (fun _=>rfl) ak) ?_;simp only [AV.dT,sealS_any,sealS_v,sealS_isl,sealS_iptr,di,dz,sealS_agg,sealS_tup,sealS_fn,purge_agg,purge_tup,purge_fn,and_self,AV.bz,AV.cq,qf0,go_sem,seval,qb5,qd4,qg5];refine mr (d:=some 20) c1 aR (by first|exact jE (by first|rfl|(simp only [go_sem,seval,dy,bl];done)|(simp only [go_sem,seval,dy,bl];rfl)|(simp [St.free,cz,AV.bz,AV.cq]))) (fun x hp hx=>?_);obtain ⟨fl,rfl,rfl⟩:=hx))|((refine cM (d:=some 25) c2 aR (fun x hx=>?_);obtain rfl:=hx))|(refine mr (d:=some 13) (yg 13000 _) aR (by first|exact jE al|(intro id hid;simp only [qc2,qf9,or_false] at hid;rcases hid with rfl|rfl|rfl|rfl<;>first|rfl|(simp only [go_sem,seval];done)|(simp only [St.free,cz,go_sem,seval];done)|(simp only [go_sem,seval];rfl)|(simp [St.free,cz,AV.bz,AV.cq];try exact ef _ _ _ fun _=>rfl))) (fun x hp hx=>?_);obtain ⟨rfl,rfl⟩:=hx)|refine ck ?_)|intro (K:St→Prop) hK|intro hc|(refine Gf 99 ?_ ?_ ?_ ?_<;>try exact VX)|fail));simp only [rD];refine qW rfl aR aR (by rw [← qb5];exact dO ints _ fun _=>rfl) ⟨_,rfl,rfl⟩
  refine bc func76 ntmps76 ?_;(repeat' (first|refine bu (fun K hK=>?_);(first|((refine fy (dL (f:=AV.int) 13006 1 8 (s.length+1) (s++[(k:Int)]) aR (by rw [jV,qb5];rfl) aC (fun _=>rfl) (fun _=>rfl) ak) ?_;simp only [AV.dT,sealS_any,sealS_v,sealS_isl,sealS_iptr,di,dz,sealS_agg,sealS_tup,sealS_fn,purge_agg,purge_tup,purge_fn,and_self,AV.bz,AV.cq,qf0,go_sem,seval,qb5,qd4,qg5];refine mr (d:=some 20) c1 aR (by first|exact jE (by first|rfl|(simp only [go_sem,seval,dy,bl];done)|(simp only [go_sem,seval,dy,bl];rfl)|(simp [St.free,cz,AV.bz,AV.cq]))) (fun x hp hx=>?_);obtain ⟨fl,rfl,rfl⟩:=hx))|((refine cM (d:=some 25) c2 aR (fun x hx=>?_);obtain rfl:=hx))|(refine mr (d:=some 13) (yg 13000 _) aR (by first|exact jE al|(intro id hid;simp only [qc2,qf9,or_false] at hid;rcases hid with rfl|rfl|rfl|rfl<;>first|rfl|(simp only [go_sem,seval];done)|(simp only [St.free,cz,go_sem,seval];done)|(simp only [go_sem,seval];rfl)|(simp [St.free,cz,AV.bz,AV.cq];try exact ef _ _ _ fun _=>rfl))) (fun x hp hx=>?_);obtain ⟨rfl,rfl⟩:=hx)|refine ck ?_)|intro (K:St→Prop) hK|intro hc|(refine Gf 99 ?_ ?_ ?_ ?_<;>try exact VX)|fail));simp only [rD];refine wK (f:=ints) (X++Y) rfl aR (by rw [rD,qb5];rfl) (by rw [qa3]) (fun _=>rfl) (fun _=>rfl) aB rfl
def qj (l:List SSet) (s:List Int):Bool:=l.any fun c=>dX c.eM s&&kx c.no s
variable {l:List SSet}
theorem oV:qj l s=true↔LB l s:=by
 unfold qj LB;rw [qi0];simp only [qa1]
theorem OR (l:List SSet) (s:List Int):bm prog 73 [wh l,ints s] (fun r=>r= .bool (qj l s)):=by
 have h1:=fun a=>oO a s;have h2:=fun a=>wa a s;refine bc func73 ntmps73 ?_;(refine bU (i:=0) rfl (fun hb=>?_);(try simp only [qa2] at hb));refine Go (fun K hK=>?_) VX VX VX;refine ba [4,5,6,7,8,9,10,11,12,13,14,15,16,17,18,19,20,21,22,23,24,25,26,27] (fun k:Nat=>k≤l.length∧∀ i (hi:i < l.length),i < k→(dX l[i].eM s&&kx l[i].no s)=false) (fun k=>l.length - k) (fun k=>[(5,.int k)]) (fun _=>[]) 0 ⟨by omega,by omega⟩ ?_ ?_
 ·refine bA ?_
  exact aZ
 rintro k ⟨hk,hn⟩ K hK;refine bA ?_;by_cases hlt:k < l.length
 ·have c1:=h1 l[k].eM
  have c2:=h2 l[k].no;have hy:(dX l[k].eM s&&kx l[k].no s)=true→qj l s=true:=fun h=>qi0.2 ⟨_,qa4 hlt,h⟩;have hst:=@cj l.length k (fun i hi=>(dX l[i].eM s&&kx l[i].no s)=false) hn;clear hn;cases e1:dX l[k].eM s with
  |false=>
   rw [e1] at c1;(repeat' (first|refine gC 77 ?_;refine bg (c1) ?_|intro (K:St→Prop) hK|intro hc|(refine Gf 99 ?_ ?_ ?_ ?_<;>try exact VX)|fail));(refine ⟨k+1,⟨by omega,hst fun _=>by rw [e1];rfl⟩,by omega,?_⟩;(refine bA ?_);(exact aZ))
  |true=>
   rw [e1] at c1;cases e2:kx l[k].no s with
   |false=>
    rw [e2] at c2;(repeat' (first|refine gC 77 ?_;refine bg (c1) ?_|refine gC 75 ?_;refine bg (c2) ?_|intro (K:St→Prop) hK|intro hc|(refine Gf 99 ?_ ?_ ?_ ?_<;>try exact VX)|fail));(refine ⟨k+1,⟨by omega,hst fun _=>by rw [e2,Bool.and_false]⟩,by omega,?_⟩;(refine bA ?_);(exact aZ))
   |true=>
    rw [e2] at c2;(repeat' (first|refine gC 77 ?_;refine bg (c1) ?_|refine gC 75 ?_;refine bg (c2) ?_|intro (K:St→Prop) hK|intro hc|(refine Gf 99 ?_ ?_ ?_ ?_<;>try exact VX)|fail));refine VY ?_;rw [hy (by rw [e1,e2];rfl)]
 refine iy (fun hc K hK=>?_) VX VX VX;refine VY ?_;rw [qj,show (l.any fun c=>dX c.eM s&&kx c.no s)=false from qi6.2 fun x hx=>by
  obtain ⟨i,hi,rfl⟩:=qa9 hx;rw [hn i hi ak];exact ql7]
def TD (t:Task) (l:List SSet) (s:List Int):Prop:=qj l s=true→¬dX t.goal s=true∧∀ m (hm:m < t.ops.length),dX t.ops[m].pre s=true→qj l (bF t.facts s t.ops[m])=true
theorem LL {t:Task} (hn:t.facts=n):sf t l↔l.length≤2000∧qj l t.init=true∧(∀ i (h:i < l.length),BF t.facts l[i]=true)∧∀ j (h:j < (mn n [] 0).length),TD t l (mn n [] 0)[j]:=by
 constructor
 ·rintro ⟨h1,h2,h3,h4⟩
  refine ⟨h1,oV.2 h2,fun i h=>h3 _ (qa4 h),fun j h hc=>?_⟩;have hs:=Dw.1 (qa4 h);rw [← hn] at hs;obtain ⟨a,b⟩:=h4 _ hs (oV.1 hc);exact ⟨a,fun m hm hp=>oV.2 (b _ (qa4 hm) hp)⟩
 rintro ⟨h1,h2,h3,h4⟩;refine ⟨h1,oV.1 h2,fun c hc=>?_,fun s hs hc=>?_⟩
 ·obtain ⟨i,hi,rfl⟩:=qa9 hc;exact h3 i hi
 rw [hn] at hs;obtain ⟨j,hj,rfl⟩:=qa9 (Dw.2 hs);obtain ⟨a,b⟩:=h4 j hj (oV.2 hc);exact ⟨a,fun o ho hp=>by
  obtain ⟨m,hm,rfl⟩:=qa9 ho;exact oV.1 (b m hm hp)⟩
theorem LM (t:Task) (hw:xZ t) (h8:t.facts≤8) (l:List SSet):bm prog 27 [t.av,wh l] (fun r=>r= .bool (Dv (sf t l))):=by
 have h40:=hw.P9;have h0:=hw.f0;obtain ⟨n,hn⟩:∃ n:Nat,t.facts=n:=⟨t.facts.toNat,(qg3 h0).symm⟩
 have hap:=fun s i hi=>sU t s i hi h40;have haf:=fun s i hi=>yp t s i hi h40 hw.f0 hw.f1;have hse:=fun s=>wb s t.facts ⟨h0,by omega⟩;have hcv:=OR l;have hsu:=fun a b=>oO a b;have hdi:=fun a b=>wa a b;have hsb:=ks (args':=[.fO,.int 0,.int (n:Int)]) ((LK n [] 0 ak aO ak).2) ⟨iO.nil 1 8,iO.ic _,by rw [ql4];exact iO.ic _,trivial⟩;have hSl:(mn n [] 0).length≤256:=by rw [qS];exact qk7 (n:=2) aB (show n≤8 by omega)
 have hP:=LL (l:=l) hn;have hno:¬(l.length≤2000∧qj l t.init=true∧(∀ i (h:i < l.length),BF t.facts l[i]=true)∧∀ j (h:j < (mn n [] 0).length),TD t l (mn n [] 0)[j])→Dv (sf t l)=false:=fun h=>zZ fun hp=>h (hP.1 hp);have hye:(l.length≤2000∧qj l t.init=true∧(∀ i (h:i < l.length),BF t.facts l[i]=true)∧∀ j (h:j < (mn n [] 0).length),TD t l (mn n [] 0)[j])→Dv (sf t l)=true:=fun h=>GF (hP.2 h);clear hP hw;generalize Dv (sf t l)=R at *;generalize mn n [] 0=S at *;have hst0:∀ s,TD t l s↔(qj l s=true→¬dX t.goal s=true∧∀ m (hm:m < t.ops.length),dX t.ops[m].pre s=true→qj l (bF t.facts s t.ops[m])=true):=fun _=>Iff.rfl;generalize TD t l=SP at *;obtain ⟨fa,cB,go,ops⟩:=t;simp only at hn;subst hn;simp only at h40 hap haf hse hno hye hst0;by_cases hl2:l.length≤2000
 ·by_cases hci:qj l cB=true
  ·have c0:=hcv cB
   rw [hci] at c0;refine bc func27 ntmps27 ?_;(repeat' (first|refine gC 73 ?_;refine bg (c0) ?_|intro (K:St→Prop) hK|intro hc|(refine Gf 99 ?_ ?_ ?_ ?_<;>try exact VX)|fail));refine ba [4,5,19,20,21,22,23,24,25,26,27,28,29,30,31,32,33,34,35,36,37,38,39,40,41,42,43,44,45,46,47,48,49,50,51,52,53,54,55,56,57,58] (fun k:Nat=>k≤l.length∧∀ i (hi:i < l.length),i < k→BF (n:Int) l[i]=true) (fun k=>l.length - k) (fun k=>[(5,.int k)]) (fun _=>[(2,⟨38,[.int (n:Int),ints cB,ints go,uk ops],true⟩)]) 0 ⟨by omega,by omega⟩ ?_ ?_
   ·refine bA ?_
    exact aZ
   rintro k ⟨hk,hm⟩ K hK;refine bA ?_;by_cases hlt:k < l.length
   ·have c1:=hse l[k].eM
    have c2:=hse l[k].no;have c3:=hdi l[k].eM l[k].no;have hok:BF (n:Int) l[k]=(isSet l[k].eM n&&isSet l[k].no n&&kx l[k].eM l[k].no):=rfl;have hb:BF (n:Int) l[k]=false→R=false:=fun h=>hno fun hh=>by have:=hh.2.2.1 k hlt;rw [h] at this;cases this
    have hst:=@cj l.length k (fun i hi=>BF (n:Int) l[i]=true) hm;clear hm hno hye hst0 hap haf hcv hsb;generalize isSet l[k].eM n=b1 at *;generalize isSet l[k].no n=b2 at *;generalize kx l[k].eM l[k].no=b3 at *;cases b1 with
    |false=>
     (repeat' (first|refine gD 6 ?_;refine Wa ?_|refine dH 74 ?_;refine bB (c1) ?_|intro (K:St→Prop) hK|intro hc|(refine Gf 99 ?_ ?_ ?_ ?_<;>try exact VX)|fail))
     all_goals (refine VY ?_)
     all_goals rw [hb hok]
    |true=>
     cases b2 with
     |false=>
      (repeat' (first|refine gD 6 ?_;refine Wa ?_|refine dH 74 ?_;refine bB (c1) ?_|refine dH 74 ?_;refine bB (c2) ?_|intro (K:St→Prop) hK|intro hc|(refine Gf 99 ?_ ?_ ?_ ?_<;>try exact VX)|fail))
      all_goals (refine VY ?_)
      all_goals rw [hb hok]
     |true=>
      cases b3 with
      |false=>
       (repeat' (first|refine gD 6 ?_;refine Wa ?_|refine dH 74 ?_;refine bB (c1) ?_|refine dH 74 ?_;refine bB (c2) ?_|refine dH 75 ?_;refine bB (c3) ?_|intro (K:St→Prop) hK|intro hc|(refine Gf 99 ?_ ?_ ?_ ?_<;>try exact VX)|fail))
       all_goals (refine VY ?_)
       all_goals rw [hb hok]
      |true=>
       (repeat' (first|refine gD 6 ?_;refine Wa ?_|refine dH 74 ?_;refine bB (c1) ?_|refine dH 74 ?_;refine bB (c2) ?_|refine dH 75 ?_;refine bB (c3) ?_|intro (K:St→Prop) hK|intro hc|(refine Gf 99 ?_ ?_ ?_ ?_<;>try exact VX)|fail));(refine ⟨k+1,⟨by omega,hst fun _=>hok⟩,by omega,?_⟩;(refine bA ?_);(exact aZ))
   have hm:=fun i (hi:i < l.length)=>hm i hi ak;have hno2:∀ j (h:j < S.length),¬SP S[j]→R=false:=fun j h hs=>hno fun hh=>hs (hh.2.2.2 j h);have hye2:(∀ j (h:j < S.length),SP S[j])→R=true:=fun h=>hye ⟨hl2,hci,hm,h⟩;clear hno hye hm hk hse hdi;(repeat' (first|refine gC 76 ?_;refine bg (hsb) ?_|intro (K:St→Prop) hK|intro hc|(refine yJ 99 ?_ ?_ ?_ ?_<;>try exact VX)|fail));refine ba [4,7,8,62,63,64,65,66,67,68,69,70,71,72,73,74,75,76,77,78,79,80,81,82,83,84,85,86,87,88,89,90,91,92,93,94,95,96,97,98,99,100,101,102,103,104,105,106,107] (fun j:Nat=>j≤S.length∧∀ i (hi:i < S.length),i < j→SP S[i]) (fun j=>S.length - j) (fun j=>[(7,.int j)]) (fun _=>[(2,⟨38,[.int (n:Int),ints cB,ints go,uk ops],true⟩)]) 0 ⟨by omega,by omega⟩ ?_ ?_
   ·refine bA ?_
    exact aZ
   rintro j ⟨hj,hm⟩ K hK;refine bA ?_;by_cases hjl:j < S.length
   ·have c1:=hcv S[j]
    have c2:=hsu go S[j];have hsp:=hst0 S[j];have hb:=hno2 j hjl;have hst:=@cj S.length j (fun i hi=>SP S[i]) hm;clear hm hno2 hye2 hst0 hsb;cases e1:qj l S[j] with
    |false=>
     rw [e1] at c1;(repeat' (first|refine gC 73 ?_;refine bg (c1) ?_|intro (K:St→Prop) hK|intro hc|(refine yJ 99 ?_ ?_ ?_ ?_<;>try exact VX)|fail));(refine ⟨j+1,⟨by omega,hst fun _=>hsp.2 fun h=>by rw [e1] at h;cases h⟩,by omega,?_⟩;(refine bA ?_);(exact aZ))
    |true=>
     rw [e1] at c1;cases e2:dX go S[j] with
     |true=>
      rw [e2] at c2;(repeat' (first|refine gD 13 ?_;refine dK (.r 0 6 (.it 6 1 .nil)) ?_|refine gC 73 ?_;refine bg (c1) ?_|refine dH 77 ?_;refine bB (c2) ?_|intro (K:St→Prop) hK|intro hc|(refine Gf 99 ?_ ?_ ?_ ?_<;>try exact VX)|fail));refine VY ?_;rw [hb fun h=>(hsp.1 h e1).1 e2]
     |false=>
      rw [e2] at c2;(repeat' (first|refine gD 13 ?_;refine dK (.r 0 6 (.it 6 1 .nil)) ?_|refine gC 73 ?_;refine bg (c1) ?_|refine dH 77 ?_;refine bB (c2) ?_|intro (K:St→Prop) hK|intro hc|(refine Gf 99 ?_ ?_ ?_ ?_<;>try exact VX)|fail));refine ba [4,8,82,83,84,85,86,87,88,89,90,91,92,93,94,95,96,97,98,99,100,101,102,103,104,105,106,107] (fun q:Nat=>q≤ops.length∧∀ m (hm:m < ops.length),m < q→dX ops[m].pre S[j]=true→qj l (bF (n:Int) S[j] ops[m])=true) (fun q=>ops.length - q) (fun q=>[(8,.int q)]) (fun _=>[(2,⟨38,[.int (n:Int),ints cB,ints go,uk ops],true⟩)]) 0 ⟨by omega,by omega⟩ ?_ ?_
      ·refine bA ?_
       exact aZ
      rintro q ⟨hq,hmq⟩ K hK;refine bA ?_;by_cases hql:q < ops.length
      ·have a1:=hap S[j] q hql
       have a2:=haf S[j] q hql;rw [bq hql] at a1 a2;have a3:=hcv (bF (n:Int) S[j] ops[q]);have hstq:=@cj ops.length q (fun m hm=>dX ops[m].pre S[j]=true→qj l (bF (n:Int) S[j] ops[m])=true) hmq;clear hmq;cases e3:dX ops[q].pre S[j] with
       |false=>
        rw [e3] at a1;(repeat' (first|refine gD 18 ?_;refine dK (.r 0 6 (.it 6 1 (.r 7 8 (.it 15 2 (.it 16 2 (.r 17 2 .nil)))))) ?_|refine dH 78 ?_;refine bB (a1) ?_|intro (K:St→Prop) hK|intro hc|(refine Gf 99 ?_ ?_ ?_ ?_<;>try exact VX)|fail));(refine ⟨q+1,⟨by omega,hstq fun _ h=>by rw [e3] at h;cases h⟩,by omega,?_⟩;(refine bA ?_);(exact aZ))
       |true=>
        rw [e3] at a1;cases e4:qj l (bF (n:Int) S[j] ops[q]) with
        |false=>
         rw [e4] at a3;(repeat' (first|refine gD 18 ?_;refine dK (.r 0 6 (.it 6 1 (.r 7 8 (.it 15 2 (.it 16 2 (.r 17 2 .nil)))))) ?_|refine dH 78 ?_;refine bB (a1) ?_|refine dH 79 ?_;refine bB (a2) ?_|refine dH 73 ?_;refine bB (a3) ?_|intro (K:St→Prop) hK|intro hc|(refine Gf 99 ?_ ?_ ?_ ?_<;>try exact VX)|fail));refine VY ?_;rw [hb fun h=>by have:=(hsp.1 h e1).2 q hql e3;rw [e4] at this;cases this]
        |true=>
         rw [e4] at a3;(repeat' (first|refine gD 18 ?_;refine dK (.r 0 6 (.it 6 1 (.r 7 8 (.it 15 2 (.it 16 2 (.r 17 2 .nil)))))) ?_|refine dH 78 ?_;refine bB (a1) ?_|refine dH 79 ?_;refine bB (a2) ?_|refine dH 73 ?_;refine bB (a3) ?_|intro (K:St→Prop) hK|intro hc|(refine Gf 99 ?_ ?_ ?_ ?_<;>try exact VX)|fail));(refine ⟨q+1,⟨by omega,hstq fun _ _=>e4⟩,by omega,?_⟩;(refine bA ?_);(exact aZ))
      have hmq:=fun m (hm:m < ops.length)=>hmq m hm ak;refine iy (fun hc K hK=>?_) VX VX VX;(refine ⟨j+1,⟨by omega,hst fun _=>hsp.2 fun _=>⟨by rw [e2];exact ql7,hmq⟩⟩,by omega,?_⟩;(refine bA ?_);(exact aZ))
   have hm:=fun i (hi:i < S.length)=>hm i hi ak;refine iy (fun hc K hK=>?_) VX VX VX;refine VY ?_;rw [hye2 hm]
  have c0:=hcv cB;rw [show qj l cB=false by simpa using hci] at c0;refine bc func27 ntmps27 ?_;(repeat' (first|refine gC 73 ?_;refine bg (c0) ?_|intro (K:St→Prop) hK|intro hc|(refine Gf 99 ?_ ?_ ?_ ?_<;>try exact VX)|fail));refine VY ?_;rw [hno fun h=>hci h.2.1]
 have c0:=hcv cB;refine bc func27 ntmps27 ?_;refine Go (fun hc K hK=>?_) VX VX VX;refine VY ?_;rw [hno fun h=>hl2 h.1]
variable {g:Bf}
theorem LN (hf:cK g.t=(0,0)) (a:BE):wi g a=(decide (a.steps.length=0∧a.bound.length=0∧a.cost=0)&&Dv (sf g.t a.never)):=by
 rw [wi];congr 1;rw [qf7,qa1,decide_eq_true_eq,← LD hf];constructor
 ·exact GF
 intro h;by_cases hp:sf g.t a.never
 ·exact hp
 rw [zZ hp] at h;cases h
theorem LO (hf:cK g.t=(0,0)) {a:BE} (h1:a.steps.length≤60) (h2:a.never.length=0) (h3:∀ x∈a.steps,0≤y6 g x):l6 g a=(jD g.t g.t.init (fZ (j5 g a.steps))&&decide (ft g.t (fZ (j5 g a.steps))=a.cost)&&Dv (yr g.t a.bound)&&decide (pV a.bound g.t.init=a.cost)):=by
 have hw:=iJ.1 hf;rw [l6,qf7,qa1,qa1,qa1];constructor
 ·intro h
  obtain ⟨_,_,_,a1,a2,a3,a4,a5⟩:=of_decide_eq_true h;have hT:=(GD hf).2 ⟨a1,a2⟩;have hok:∀ e∈a.bound,isSet e.st g.t.facts=true:=fun e he=>by
   obtain ⟨i,hi,rfl⟩:=qa9 he;exact (hT.ok i hi).1
  rw [Bo hok (fun i h=>(hT.ok i h).2.2.2) hw.init] at a5;exact ⟨⟨⟨a3,decide_eq_true a4.symm⟩,GF hT⟩,decide_eq_true ak⟩
 rintro ⟨⟨⟨a3,a4⟩,a1⟩,a5⟩;have a4:=of_decide_eq_true a4;have a5:=of_decide_eq_true a5;have hT:yr g.t a.bound:=by
  by_cases hp:yr g.t a.bound
  ·exact hp
  rw [zZ hp] at a1;cases a1
 have hok:∀ e∈a.bound,isSet e.st g.t.facts=true:=fun e he=>by
  obtain ⟨i,hi,rfl⟩:=qa9 he;exact (hT.ok i hi).1
 obtain ⟨b1,b2⟩:=(GD hf).1 hT;refine decide_eq_true ⟨h1,h2,h3,b1,b2,a3,a4.symm,?_⟩;rw [Bo hok (fun i h=>(hT.ok i h).2.2.2) hw.init];omega
theorem H9 (g:Bf) (hf:cK g.t=(0,0)) (h8:g.t.facts≤8) (hlen:g.ins.length=g.t.ops.length) (a:BE):bm prog 9 [g.av,a.av] (fun r=>r= .bool (wz g a)):=by
 have hw:=iJ.1 hf;obtain ⟨fd,st,co,bo,ne⟩:=a;cases fd with
 |false=>
  have cP:=LM g.t hw h8 ne;have hR:wz g ⟨false,st,co,bo,ne⟩=(decide (st.length=0∧bo.length=0∧co=0)&&Dv (sf g.t ne)):=LN hf ⟨false,st,co,bo,ne⟩;rw [hR];clear hR;generalize Dv (sf g.t ne)=b at *;obtain ⟨⟨fa,cB,go,ops⟩,lits,ins⟩:=g;simp only at cP;by_cases h1:st.length=0
  ·by_cases h2:bo.length=0
   ·by_cases h3:co=0
    ·rw [decide_eq_true ⟨h1,h2,h3⟩,qf4]
     subst h3;refine bc func9 ntmps9 ?_;(repeat' (first|refine gC 27 ?_;refine bg (cP) ?_|intro (K:St→Prop) hK|intro hc|(refine Gf 99 ?_ ?_ ?_ ?_<;>try exact VX)|fail))
     all_goals (refine VY ?_)
     all_goals rfl
    rw [decide_eq_false fun h=>h3 h.2.2,qm1];refine bc func9 ntmps9 ?_;refine Go (fun hc hc hc K hK=>?_) VX VX VX
    all_goals (refine VY ?_)
    all_goals rfl
   rw [decide_eq_false fun h=>h2 h.2.1,qm1];refine bc func9 ntmps9 ?_;refine Go (fun hc hc K hK=>?_) VX VX VX
   all_goals (refine VY ?_)
   all_goals rfl
  rw [decide_eq_false fun h=>h1 h.1,qm1];refine bc func9 ntmps9 ?_;refine Go (fun hc K hK=>?_) VX VX VX
  all_goals (refine VY ?_)
  all_goals rfl
 |true=>
  have hneg:∀ k (hk:k < st.length),y6 g st[k] < 0→wz g ⟨true,st,co,bo,ne⟩=false:=fun k hk h=>by
   show l6 g ⟨true,st,co,bo,ne⟩=false;rw [l6,decide_eq_false fun hh=>by have:=hh.2.2.1 _ (qa4 hk);omega]
  have hbad:¬(st.length≤60∧ne.length=0)→wz g ⟨true,st,co,bo,ne⟩=false:=fun h=>by
   show l6 g ⟨true,st,co,bo,ne⟩=false;rw [l6,decide_eq_false fun hh=>h ⟨hh.1,hh.2.1⟩]
  have hpos:st.length≤60→ne.length=0→(∀ x∈st,0≤y6 g x)→wz g ⟨true,st,co,bo,ne⟩=(jD g.t g.t.init (fZ (j5 g st))&&decide (ft g.t (fZ (j5 g st))=co)&&Dv (yr g.t bo)&&decide (pV bo g.t.init=co)):=fun h1 h2 h3=>LO hf (a:=⟨true,st,co,bo,ne⟩) h1 h2 h3;have htab:=OO g.t hw bo;have hent:=GH bo g.t.init;have hins:=OM g;have hrg:=Bp g;have hso:=Fm g.t hw (j5 g st);have hcc:=LI g.t hw (j5 g st);have hInO:(∀ x∈st,0≤y6 g x)→uw g.t (j5 g st):=fun h x hx=>by
   obtain ⟨y,hy,rfl⟩:=qe7.1 hx;have:=h y hy;have:=hrg y;omega
  have hPl:(j5 g st).length=st.length:=by simp [j5]
  have hPn:∀ {k} (h:k < st.length),(j5 g st).take (k+1)=(j5 g st).take k++[y6 g st[k]]:=fun {k} h=>by
   rw [qa5 (by simpa [j5] using h)];simp [j5]
  generalize wz g ⟨true,st,co,bo,ne⟩=R at *;generalize Dv (yr g.t bo)=bT at *;generalize pV bo g.t.init=eE at *;generalize j5 g st=PL at *;by_cases hL:st.length≤60∧ne.length=0
  ·have hpos:=hpos hL.1 hL.2
   have h60:=hL.1;have hne0:=hL.2;clear hbad;have hso:=fun h=>hso (hInO h);have hcc:=fun h=>hcc (hInO h) ak;generalize jD g.t g.t.init (fZ PL)=bW at *;generalize ft g.t (fZ PL)=cC at *;clear hInO hlen h8 hf hw;have hfr:=fun x=>(hrg x).2;clear hrg;generalize hfd:y6 g=fF at *;obtain ⟨⟨fa,cB,go,ops⟩,lits,ins⟩:=g;simp only at htab hent hso hcc;refine bc func9 ntmps9 ?_;refine Gx 5 (fun hc hc K hK=>?_) VX VX VX;(refine dZ (id:=3) (j:=1) rfl rfl (fun hbs=>?_);(try simp only [qa2] at hbs));refine Gx 6 (fun K hK K hK=>?_) VX VX VX;refine fD 5 100 1 8 3 ?_;refine Go ?_ VX VX VX;refine ba [4,5,6,7,43,44,45,46,47,48,49,50,51,52,53,54,55,56,57,58,59,60,61,62] (fun k:Nat=>k≤st.length∧∀ i (hi:i < st.length),i < k→0≤fF st[i]) (fun k=>st.length - k) (fun k=>[(6,.int k),(5,.sl 1 8 100 0 k)]) (fun k=>[(2,⟨40,[.int fa,ints cB,ints go,uk ops,b9 lits,bQ ins],true⟩),(3,⟨34,[.bool true,bQ st,.int co,yq bo,wh ne],true⟩),(100,⟨3,(PL.take k).map AV.int,false⟩)]) 0 ⟨by omega,by omega⟩ ?_ ?_
   ·rw [List.take_zero]
    refine bA ?_;exact aZ
   rintro k ⟨hk,hn⟩ K hK;have hpt:(PL.take k).length=k:=by rw [qc0];omega
   by_cases hlt:k < st.length
   ·have c1:=hins st[k]
    have hst:=hPn hlt;have hb:=hneg k hlt;have hup:=@cj st.length k (fun i hi=>0≤fF st[i]) hn;clear hn hpos hneg hso hcc htab hent hPn hfd;generalize PL.take k=P at *;generalize hz:fF st[k]=z at *;refine bA ?_;by_cases h0:z < 0
    ·(repeat' (first|refine gD 9 ?_;refine Wb ?_|refine dH 11 ?_;refine bB (c1) ?_|intro (K:St→Prop) hK|intro hc|(refine Gf 99 ?_ ?_ ?_ ?_<;>try exact VX)|fail))
     refine VY ?_;rw [hb h0]
    (repeat' (first|refine gD 9 ?_;refine Wb ?_|refine dH 11 ?_;refine bB (c1) ?_|refine bu (fun K hK=>?_);refine ck ?_|intro (K:St→Prop) hK|intro hc|(refine Gf 99 ?_ ?_ ?_ ?_<;>try exact VX)|fail));refine ⟨k+1,⟨by omega,hup fun _=>by rw [hz];omega⟩,by omega,?_⟩;rw [hst,qb5];refine bA ?_;exact aZ
   obtain rfl:k=st.length:=by omega
   have hall:∀ x∈st,0≤fF x:=fun x hx=>by
    obtain ⟨i,hi,rfl⟩:=qa9 hx;exact hn i hi hi
   have hR:=hpos hall;have hso:=hso hall;have hcc:=hcc hall;rw [qe8 ak];clear hpos hneg hn hins hfr hfd hPn hpt hall;refine bA ?_;refine HA 13 (fun hc K hK K hK=>?_) VX VX VX;(refine cE (mv 100 st.length PL aR (by exact hPl)) ?_;simp only [go_sem,seval]);cases bW with
   |false=>
    (repeat' (first|refine hK _ ?_;clear hK K|refine gD 13 ?_;refine V1 ?_|refine dH 28 ?_;refine bB (hso) ?_|refine gT ?_;refine eY ?_))
    all_goals (refine VY ?_)
    all_goals rw [hR]
    all_goals rfl
   |true=>
    by_cases h1:cC=co
    ·cases bT with
     |false=>
      (repeat' (first|refine gD 13 ?_;refine V1 ?_|refine dH 28 ?_;refine bB (hso) ?_|refine dH 29 ?_;refine bB (hcc) ?_|refine dH 30 ?_;refine bB (htab) ?_|intro (K:St→Prop) hK|intro hc|(refine rh 99 ?_ ?_ ?_ ?_<;>try exact VX)|fail))
      all_goals (refine VY ?_)
      all_goals rw [hR,decide_eq_true h1]
      all_goals rfl
     |true=>
      by_cases h2:eE=co
      ·(repeat' (first|refine gD 13 ?_;refine V1 ?_|refine dH 28 ?_;refine bB (hso) ?_|refine dH 29 ?_;refine bB (hcc) ?_|refine dH 30 ?_;refine bB (htab) ?_|refine dH 31 ?_;refine bB (hent) ?_|intro (K:St→Prop) hK|intro hc|(refine rh 99 ?_ ?_ ?_ ?_<;>try exact VX)|fail))
       all_goals (refine VY ?_)
       all_goals rw [hR,decide_eq_true h1,decide_eq_true h2]
       all_goals simp [h2]
      (repeat' (first|refine gD 13 ?_;refine V1 ?_|refine dH 28 ?_;refine bB (hso) ?_|refine dH 29 ?_;refine bB (hcc) ?_|refine dH 30 ?_;refine bB (htab) ?_|refine dH 31 ?_;refine bB (hent) ?_|intro (K:St→Prop) hK|intro hc|(refine rh 99 ?_ ?_ ?_ ?_<;>try exact VX)|fail))
      all_goals (refine VY ?_)
      all_goals rw [hR,decide_eq_true h1,decide_eq_false h2]
      all_goals simp [h2]
    (repeat' (first|refine gD 13 ?_;refine V1 ?_|refine dH 28 ?_;refine bB (hso) ?_|refine dH 29 ?_;refine bB (hcc) ?_|intro (K:St→Prop) hK|intro hc|(refine rh 99 ?_ ?_ ?_ ?_<;>try exact VX)|fail))
    all_goals (refine VY ?_)
    all_goals rw [hR,decide_eq_false h1]
    all_goals rfl
  have hR:=hbad hL;clear hpos hneg hso hcc hInO hPl hPn htab hent hins hrg hbad hf hw hlen h8;obtain ⟨⟨fa,cB,go,ops⟩,lits,ins⟩:=g;by_cases h1:st.length≤60
  ·have h2:¬ne.length=0:=fun h=>hL ⟨h1,h⟩
   refine bc func9 ntmps9 ?_;refine Go (fun hc hc K hK=>?_) VX VX VX
   all_goals (refine VY ?_)
   all_goals rw [hR]
  refine bc func9 ntmps9 ?_;refine Go (fun hc K hK=>?_) VX VX VX
  all_goals (refine VY ?_)
  all_goals rw [hR]
end
section
set_option maxRecDepth 100000
def LP (t:Nat):Option TI:=if t=235 then some ⟨false,1,16,[.v .nilIface],.other⟩
 else if t=409 then some ⟨true,4,48,[.v (.slice none 0 0),.v (.int .i64 0),.v (.int .i64 0),.v (.int .i64 0)],.st [(0,1),(1,1),(2,1),(3,1)] false⟩
 else if t=410 then some ⟨false,1,24,[.v (.slice none 0 0)],.sl 409⟩
 else if t=411 then some ⟨false,1,8,[.v (.pointer none)],.other⟩
 else if t=412 then some ⟨false,1,8,[.v (.pointer none)],.other⟩
 else if t=414 then some ⟨true,2,32,[.v (.pointer none),.v (.slice none 0 0)],.st [(0,1),(1,1)] false⟩
 else bh t
theorem U3:Tb prog LP:=⟨fun t i h=>by
 unfold LP at h;split at h
 ·rename_i e
  subst e;injection h with h
  subst h;exact ⟨.interface #[("helmsman/planner.plan", 145)], .nilIface, ⟨underlying235⟩, bJ ai, rfl, rfl, trivial⟩
 split at h
 ·rename_i e
  subst e;injection h with h
  subst h;exact Jo (z:=.agg #[.slice none 0 0,.int .i64 0,.int .i64 0,.int .i64 0]) ⟨underlying409⟩ (bJ ai) rfl rfl (QD ⟨_,underlying409,by kernel_rfl⟩)
 split at h
 ·rename_i e
  subst e;injection h with h
  subst h;exact Jo (z:=.slice none 0 0) ⟨underlying410⟩ (bJ ai) rfl rfl (rfl)
 split at h
 ·rename_i e
  subst e;injection h with h
  subst h;exact Jo (z:=.pointer none) ⟨underlying411⟩ (bJ ai) rfl rfl (trivial)
 split at h
 ·rename_i e
  subst e;injection h with h
  subst h;exact Jo (z:=.pointer none) ⟨underlying412⟩ (bJ ai) rfl rfl (trivial)
 split at h
 ·rename_i e
  subst e;injection h with h
  subst h;exact Jo (z:=.agg #[.pointer none,.slice none 0 0]) ⟨underlying414⟩ (bJ ai) rfl rfl (QD ⟨_,underlying414,by kernel_rfl⟩)
 exact Tb.ok t i h⟩
def RM (P:Program) (f:FuncId):Bool:=match P.funcs[f]? with
 | some fn => fn.body.isSome && !(fn.name == "runtime.NumGoroutine") && Nat.blt f 1000000000
 |none=>false
theorem OS {P:Program} {f:FuncId} (h:RM P f=true):cI P f:=by
 unfold RM at h;split at h
 ·rename_i fn hf
  simp only [qa1,qb7] at h;exact bd hf h.1.1 h.1.2 (by simpa [qk6] using h.2)
 cases h
def Ur:List Nat:=[3,4,5,6,7,8,9,10,11,12,13,14,15,16,17,18,19,20,21,22,23,24,25,26,27,28,29,30,31,32,33,34,35,36,37,38,39,40,41,42,43,44,45,46,47,48,49,50,51,52,53,54,55,56,57,58,59,60,61,62,63,64,65,66,67,68,69,71,72,73,74,75,76,77,78,79,80,81,82,83,84,85,86,87,88,89,90,91,92,93,94,95,96,97,98,99,100,101,102,103,104,105,106,107,108,109,110,111,112,113,114,115,116,117,118,119,120,121,122,123,124,125,126,127,128,129,130,131,132,133,134,135,136,137,138,139,140,141,142,143,145,146,147,148,149,150,151,152,153,154,155,156,157,158,159,160,161,162,163,164,165,166,167,168,169,170,171,172,173,174,175,176,177,178,179,180,181,182,183,184,185,186,187,188,189,190,191,192,193,194,195,196,199,200,201,202,203,204,205,206,207,208,209,210,211,212,213,214,215,216,217,218,219,220,221,222,223,225,226,227,228,229,230,231,232,233,234,235,236,237,238,239,240,241,242,243,244,245,246,247,248,249,250,251,252,253,254,255,256,257,258,259,260,261,262,263,264,265,266,267,268,269,270,271,272,273,274,275,276,277,278,279,280,281,282,283,284,285,286,287,288,289,290,291,309,310,311,312,313,314,315,316,317,318,319,320,321,322,323,324,325,326,427,428,429,430,431,433,434,435,436]
def U4:List Nat:=[49,52,58,63,64,68,109,111,112,121,123,124,130,131,132,133,134,139,141,152,158,159,174,175,176,180,181,182,183,186,187,188,190,192,193,194,196,197,210,211,215,216,217,219,220,221,222,223,224,239,240,241,242,243,244,245,246,247,248,251,252,253,254,255,256,257,258,259,260,268,269,270,271,272,273,274,275,276,277,279,280,281,282,283,284,286,287,288,289,290,291,308,314,318,319,321,322,323,324,399,416,424,426,429,430,431,434,435,436]
def RN:Cf:=⟨LP,Ur,U4,12,[(147,[.cD 1 8 []],.cD 1 8 [])]⟩
instance Bq:mi prog RN where
 tb:=U3
 fs:=fun f h=>OS (qc8.1 (show Ur.all (RM prog)=true by kernel_rfl) f (fS.1 h))
 mo:=by kernel_rfl
 kn:=fun e h=>by
  rw [show RN.kn=[(147,[.cD 1 8 []],.cD 1 8 [])] from rfl,qd7] at h;subst h;exact ⟨dk [],rfl⟩
end
end Go.Proofs.YtkbiagkbmodgdaaGreat
