/- Part of a proof. No condition. -/
import Derived.Test.YtkbiagkbmodgdaaGreatZph
import Derived.Test.YtkbiagkbmodgdaaGreatZdte
import Derived.Test.YtkbiagkbmodgdaaGreatZgci
import Derived.Test.YtkbiagkbmodgdaaGreatZgcj
import Derived.Test.YtkbiagkbmodgdaaGreatZgg
import Derived.Test.YtkbiagkbmodgdaaGreatZlbd
import Derived.Test.YtkbiagkbmodgdaaGreatZrfb
import Derived.Test.YtkbiagkbmodgdaaGreatZrfc
set_option linter.unusedSimpArgs false
set_option linter.unusedVariables false
namespace Go.Proofs.YtkbiagkbmodgdaaGreat
open Go.Ab
open Go Tryz
set_option maxRecDepth 10000
section
attribute [local irreducible] dP fv mu lV dj PV ff ew AW bm da en dQ cX Ab.Fin fi er gF iN RV kh Le eV fL ma iG kM dJ dt
set_option maxHeartbeats 8000000
abbrev SE (t:Task) (kv:List (Int×Int)):Hp:=RL t kv++[(601,⟨200,[.ptr 600 0],true⟩)]
def sg (t:Task) (kv:List (Int×Int)) (e:n9):Bool:=decide (pU t kv e.st < e.val)
theorem L5 (t:Task) (hw:xZ t) (kv:List (Int×Int)) (hkv:Bn kv) (e:n9) (he:SB t.facts e) :
 cX prog 175 [e.av,.ptr 601 0] (SE t kv) [] [600,601] (fun x hp=>x= .bool (sg t kv e)∧hp=SE t kv):=by
 have cw:=lJ e.st t.facts he.st hw.f1;have c1:=LA t hw kv hkv e.st he.st;unfold sg;generalize pU t kv e.st=z at *;obtain ⟨st,val⟩:=e;simp only at *;refine cA func175 ntmps175 ?_;refine Gx 1 (fun K hK=>?_) VX VX VX;(refine cE (bR 2 rfl rfl rfl) ?_;simp only [go_sem,seval]);refine pM [.bC [.int val],.int val,.ptr 600 0,.bC [ints st,.int val],ints st,u32 (dm st),.int z,.bool (decide (z < val)),.bool (decide (z < val))] [[2],[4],[1],[2],[7],[8],[6,9],[5,10],[11]] [5,6] [(0,0),(0,1),(0,2),(1,0),(1,1),(1,2),(2,0),(2,1),(3,0),(4,0),(7,2),(8,2)] [fun h=>h,fun h=>RL t kv++fT (bl (RL t kv)++[]) [600] h] aR ai aD (all_cons ⟨_,rfl,rfl,aj⟩ (all_cons ⟨_,rfl,rfl,aj⟩ (all_cons ⟨_,rfl,rfl,aj⟩ (all_cons ⟨_,rfl,rfl,ab⟩ (all_cons ⟨_,rfl,rfl,ab⟩ (all_cons ⟨_,rfl,rfl,ab⟩ (all_cons ⟨_,rfl,rfl,ab⟩ (all_cons ⟨_,rfl,rfl,ab⟩ (all_cons ⟨_,rfl,rfl,aj⟩ (all_cons ⟨_,rfl,rfl,ab⟩ (all_cons ⟨_,rfl,rfl,(by first|exact jX (QF aR aR) aR)⟩ (all_cons ⟨_,rfl,rfl,(by first|exact jX (dn) aR)⟩ all_nil)))))))))))) (eC (fun f hfl hU hfm K1 hK1=>⟨_,rfl,rfl,(by (refine cM (by rw [fE hU aR];exact cw) (by rw [fE hU aR];rfl) (fun x hx=>?_);obtain rfl:=hx;exact hK1))⟩) (eC (fun f hfl hU hfm K1 hK1=>⟨_,rfl,rfl,(by (refine bL (by rw [fE hU aR];exact c1) au (fun _ h=>by cases h) aR (fun x hp' hx=>?_);obtain ⟨rfl,rfl⟩:=hx;rw [fW hfm aA aA];exact hK1))⟩) pI)) ?_;simp only [go_sem,seval,dy,bl,F4,qb8,qf1];refine Go ?_ VX VX VX;exact VZ
theorem O3 (t:Task) (hw:xZ t) (kv:List (Int×Int)) (hkv:Bn kv) (xs:List n9) (he:∀ e∈xs,SB t.facts e) :
 cX prog 215 [yq xs,.fn 175 [.ptr 601 0]] (SE t kv) [] [600,601] (fun x hp=>x= .int (mR (sg t kv) xs)∧hp=SE t kv):=by
 refine cA func215 ntmps215 ?_;(refine bU (i:=0) rfl (fun hb=>?_);(try simp only [qa2] at hb));refine Go (fun K hK=>?_) VX VX VX;refine bP [4,5,8,9,10,11,12,13,14,15,16,17,18] (fun k:Nat=>k≤xs.length∧∀ i (hi:i < xs.length),i < k→sg t kv xs[i]=false) (fun k=>xs.length - k) (fun k=>[(8,.int k)]) (fun _=>[]) 0 ⟨by omega,by omega⟩ ?_ ?_
 ·refine bA ?_
  exact aZ
 rintro k ⟨hk,hn⟩ K hK;refine bA ?_;by_cases hlt:k < xs.length
 ·have c1:=L5 t hw kv hkv xs[k] (he _ (qa4 hlt))
  cases ho:sg t kv xs[k] with
  |true=>
   rw [ho] at c1;(repeat' (first|refine bu (fun K hK=>?_);(refine eu aR (c1) au (fun _ h=>by cases h) aR (fun x hp' hx=>?_);obtain ⟨rfl,rfl⟩:=hx<;>simp only [go_sem,seval,dy,bl])|intro (K:St→Prop) hK|intro hc|(refine Gf 99 ?_ ?_ ?_ ?_<;>try exact VX)|fail));rw [iP hlt ho hn];exact VZ
  |false=>
   rw [ho] at c1;(repeat' (first|refine bu (fun K hK=>?_);(refine eu aR (c1) au (fun _ h=>by cases h) aR (fun x hp' hx=>?_);obtain ⟨rfl,rfl⟩:=hx<;>simp only [go_sem,seval,dy,bl])|intro (K:St→Prop) hK|intro hc|(refine Gf 99 ?_ ?_ ?_ ?_<;>try exact VX)|fail));refine ⟨k+1,⟨by omega,cj hn fun _=>ho⟩,by omega,?_⟩;refine bA ?_;exact aZ
 refine iy (fun hc K hK=>?_) VX VX VX;rw [gv fun i hi=>hn i hi ak];exact VZ
theorem L6 (t:Task) (hw:xZ t) (kv:List (Int×Int)) (hkv:Bn kv) (xs:List n9) (he:∀ e∈xs,SB t.facts e) :
 cX prog 174 [yq xs,.fn 175 [.ptr 601 0]] (SE t kv) [] [600,601] (fun x hp=>x= .bool (xs.any (sg t kv))∧hp=SE t kv):=by
 have c1:=O3 t hw kv hkv xs he;rw [← jJ];generalize mR (sg t kv) xs=z at *;refine cA func174 ntmps174 ?_;(repeat' (first|refine bu (fun K hK=>?_);(refine bL (c1) au (fun _ h=>by cases h) aR (fun x hp' hx=>?_);obtain ⟨rfl,rfl⟩:=hx<;>simp only [go_sem,seval,dy,bl])|intro (K:St→Prop) hK|intro hc|(refine Gf 99 ?_ ?_ ?_ ?_<;>try exact VX)|fail));exact VZ
theorem O4 (t:Task) (hw:xZ t) (kv:List (Int×Int)) (hkv:Bn kv) (xs:List n9) (he:∀ e∈xs,SB t.facts e) :
 cX prog 124 [.ptr 600 0,yq xs] (RL t kv) [] [600] (fun x hp=>x= .bool (oT t kv xs)∧hp=RL t kv):=by
 have c1:=L6 t hw kv hkv xs he;have e:oT t kv xs= !xs.any (sg t kv):=by unfold oT sg;rw [List.any_eq_not_all_not,Bool.not_not]
 rw [e];generalize xs.any (sg t kv)=b at *;refine cA func124 ntmps124 ?_;refine Gx 0 (fun K hK=>?_) VX VX VX;refine dU ?_;refine cn rfl (fun K1 hK1=>?_);refine l9 (d:=2) 601 ah (.inl rfl) ah ?_;simp only [go_sem,seval];refine hK1 _ ?_;clear hK1 K1;refine DW ?_;refine Gx 1 (fun K hK=>?_) VX VX VX;refine dU ?_;refine cn rfl (fun K1 hK1=>?_);refine bt jh ?_;simp only [go_sem,seval];refine hK1 _ ?_;clear hK1 K1;refine cn rfl (fun K1 hK1=>?_);refine bt cL ?_;simp only [go_sem,seval];refine hK1 _ ?_;clear hK1 K1;refine DW ?_;(repeat' (first|refine bu (fun K hK=>?_);(refine bL (c1) au (fun _ h=>by cases h) aR (fun x hp' hx=>?_);obtain ⟨rfl,rfl⟩:=hx<;>simp only [go_sem,seval,dy,bl])|intro (K:St→Prop) hK|intro hc|(refine Gf 99 ?_ ?_ ?_ ?_<;>try exact VX)|fail));exact VZ
theorem O5 {t:Task} {l:List n9} {p:Int×Int} (e:je t l=p):bm prog 122 [t.av,yq l] (fun r=>r=jA p):=by
 have:=GC t l;rw [e] at this;exact this
theorem L7 (t:Task) (l:List n9) (hf:je t l≠(0,0)):bm prog 59 [t.av,yq l] (fun r=>r= .dC [.int 0,.bool false,jA (je t l)]):=by
 have hac:=Dt hf;have hv:=GC t l;refine bc func59 ntmps59 ?_;(repeat' (first|refine gD 3 ?_;refine dK (.r 0 3 (.it 3 3 .nil)) ?_|refine gC 122 ?_;refine bg (hv) ?_|refine gO ?_;refine kJ ?_|intro (K:St→Prop) hK|intro hc|(refine rh 99 ?_ ?_ ?_ ?_<;>try exact VX)|fail))
 all_goals (refine aY (Le.refl _) (tD (aW aR) (aW aR) (bn af)) ae ?_)
 all_goals rfl
theorem L8 {L:Int}:∀ (l:List n9) (kv:List (Int×Int)),(∀ e∈l,SB L e)→Bn kv→Bn (lI l kv)
 |[],kv,_,h=>h
 |e::r,kv,he,h=>L8 r _ (fun x hx=>he x (by simp [hx])) fun w v hv=>by
  have h1:=he e aC;rw [lf] at hv;split at hv
  ·injection hv with hv
   have:=h1.v1;have:=h1.v2;omega
  exact h w v hv
theorem TE (t:Task) (l:List n9) (hf:je t l=(0,0)):bm prog 59 [t.av,yq l]
 (fun r=>r= .dC [.int (if oT t (lI l []) l=true then Lv (lI l []) t.init else 0),.bool (oT t (lI l []) l),fault 0 0]):=by
 have hv:=O5 hf;obtain ⟨hw,hl2,he⟩:=Dr hf;have csp:=Lz t hw;refine bc func59 ntmps59 ?_;(repeat' (first|refine gC 122 ?_;refine bg (hv) ?_|intro (K:St→Prop) hK|intro hc|(refine Gf 4 ?_ ?_ ?_ ?_<;>try exact VX)|fail));(refine cE (bR 2 rfl rfl rfl) ?_;simp only [go_sem,seval]);(refine cE (bR 7 rfl rfl rfl) ?_;simp only [go_sem,seval]);refine dU ?_;refine cn rfl (fun K1 hK1=>?_);refine bt (rb aR aR (by first|decide|(simp;done))) ?_;simp only [go_sem,seval];refine hK1 _ ?_;clear hK1 K1;refine cn rfl (fun K1 hK1=>?_);refine bt jh ?_;simp only [go_sem,seval];refine hK1 _ ?_;clear hK1 K1;refine cn rfl (fun K0 hK0=>?_);refine pA 1000000001 func123 ntmps123 aB aB ah ah ah ?_;refine Gx 1 (fun K hK=>?_) VX VX VX;(refine cE (bR 2 rfl rfl rfl) ?_;simp only [go_sem,seval]);refine dU ?_;refine cn rfl (fun K1 hK1=>?_);refine bt (rb aR aR (by first|decide|(simp;done))) ?_;simp only [go_sem,seval];refine hK1 _ ?_;clear hK1 K1;refine cn rfl (fun K1 hK1=>?_);refine cM csp aR (fun x hx=>?_);obtain rfl:=hx;simp only [go_sem,seval];refine hK1 _ ?_;clear hK1 K1;refine cn rfl (fun K1 hK1=>?_);refine lu (d:=10) 2000000001 aB ah aU ?_;simp only [go_sem,seval];refine hK1 _ ?_;clear hK1 K1;refine cn rfl (fun K1 hK1=>?_);refine bt (tg aR) ?_;simp only [go_sem,seval];refine hK1 _ ?_;clear hK1 K1;refine cn rfl (fun K1 hK1=>?_);refine l9 (d:=12) 600 ah (.inr ⟨_,rfl⟩) ah ?_;simp only [go_sem,seval];refine hK1 _ ?_;clear hK1 K1;refine DW ?_;refine Go (fun K hK=>?_) VX VX VX;obtain ⟨RR,hRR⟩:∃ r,r=lI l []:=⟨_,rfl⟩
 refine bP [7,15,16,17,18,19,20,21,22,23,24,25,26,27,28] (fun q:Nat×List (Int×Int)=>q.1≤l.length∧lI (l.drop q.1) q.2=RR) (fun q=>l.length - q.1) (fun q=>[(15,.int q.1)]) (fun q=>[(2000000001,⟨1000000000,zq (kI .u32) q.2,false⟩)]) (0,[]) ⟨qc6 _,by rw [hRR];rfl⟩ ?_ ?_
 ·refine bA ?_
  exact aZ
 rintro ⟨k,kv⟩ ⟨hk,hr⟩ K hK;simp only at hk hr ⊢;refine bA ?_;by_cases hlt:k < l.length
 ·have hek:=he l[k] (qa4 hlt)
  have cw:=lJ l[k].st t.facts hek.st hw.f1;rw [qe2 hlt] at hr;unfold lI at hr;(repeat' (first|refine gD 5 ?_;refine dK (.r 0 6 (.r 7 2 (.it 6 1 (.it 9 3 .nil)))) ?_|refine dH 65 ?_;refine bB (cw) ?_|refine fQ (fun K hK=>?_);(refine (jF (kt:=131) (kA:=kI .u32) (kv:=kv) (k:=((dm l[k].st:Nat):Int)) aR aR aR aR ?_).1)|intro (K:St→Prop) hK|intro hc|(refine rh 99 ?_ ?_ ?_ ?_<;>try exact VX)|fail));refine ⟨(k+1,kK kv ((dm l[k].st:Nat):Int) l[k].val),⟨by simp only;omega,hr⟩,by simp only;omega,?_⟩;refine bA ?_;exact aZ
 obtain rfl:k=l.length:=by omega
 rw [qi3,lI] at hr;refine iy (fun hc K hK=>?_) VX VX VX;(refine ⟨_,_,_,Le.refl _,(aX (aW aR)),by rfl,?_⟩;simp only [go_sem,seval]);refine hK0 _ ?_;clear hK0;have ekv:=hr.trans hRR;have hkv:Bn kv:=by rw [ekv];exact L8 l [] he fun w v h=>by simp [lk] at h
 have c1:=O4 t hw kv hkv l he;have cst:=IG t;cases hh:oT t kv l with
 |false=>
  rw [hh] at c1;refine DW ?_;(repeat' (first|refine bu (fun K hK=>?_);(refine bL (c1) au (fun _ h=>by cases h) aR (fun x hp' hx=>?_);obtain ⟨rfl,rfl⟩:=hx<;>simp only [go_sem,seval,dy,bl])|intro (K:St→Prop) hK|intro hc|(refine yJ 99 ?_ ?_ ?_ ?_<;>try exact VX)|fail));refine aY (Le.refl _) (tD (aW aR) (aW aR) (bn af)) ae ?_;rw [← ekv,hh,if_neg aC];rfl
 |true=>
  rw [hh] at c1;refine DW ?_;(repeat' (first|refine gD 7 ?_;refine dK (.r 0 8 (.it 10 0 (.it 8 1 (.it 9 1 (.r 11 2 (.it 13 3 .nil)))))) ?_|refine dH 125 ?_;refine bB (cst) ?_|refine bu (fun K hK=>?_);(refine bL (c1) au (fun _ h=>by cases h) aR (fun x hp' hx=>?_);obtain ⟨rfl,rfl⟩:=hx<;>simp only [go_sem,seval,dy,bl])|refine c8 (fun K hK=>?_);(refine eF (JI (kt:=131) (kA:=kI .u32) (kv:=kv) (k:=((dm t.init:Nat):Int)) aR aR aR).1 ?_)|refine gO ?_;refine kJ ?_|intro (K:St→Prop) hK|intro hc|(refine tG 99 ?_ ?_ ?_ ?_<;>try exact VX)|fail));refine aY (Le.refl _) (tD (aW aR) (aW aR) (bn af)) ae ?_;rw [← ekv,hh,if_pos rfl];rfl
end
section
set_option maxHeartbeats 8000000
structure BE where
 found:Bool
 steps:List br
 cost:Int
 bound:List n9
 never:List SSet
abbrev BE.cs (a:BE):List AV:=[.bool a.found,bQ a.steps,.int a.cost,yq a.bound,wh a.never]
abbrev BE.av (a:BE):AV:=.agg a.cs
def uy (x y:br):Bool:=decide (x.p=y.p)&&decide (x.a=y.a)
def y6 (g:Bf) (x:br):Int:=mR (uy x) g.ins
def j5 (g:Bf) (l:List br):List Int:=l.map (y6 g)
def GN (g:Bf) (a:BE):Prop:=
 je g.t a.bound=(0,0)∧oT g.t (lI a.bound []) a.bound=true∧jD g.t g.t.init (fZ (j5 g a.steps))=true∧a.cost=ft g.t (fZ (j5 g a.steps))∧Lv (lI a.bound []) g.t.init=ft g.t (fZ (j5 g a.steps))
instance (g:Bf) (a:BE):Decidable (GN g a):=inferInstanceAs (Decidable (_∧_∧_∧_∧_))
def l6 (g:Bf) (a:BE):Bool:=decide (a.steps.length≤60∧a.never.length=0∧(∀ x∈a.steps,0≤y6 g x)∧GN g a)
def wi (g:Bf) (a:BE):Bool:=decide (a.steps.length=0∧a.bound.length=0∧a.cost=0)&&(decide (ju g.t a.never=(0,0))&&tX g.t a.never)
def wz (g:Bf) (a:BE):Bool:=if a.found=true then l6 g a else wi g a
end
section
attribute [local irreducible] dP fv mu lV dj PV ff ew AW bm da en dQ cX Ab.Fin fi er gF iN RV kh Le eV fL ma iG kM dJ dt
set_option maxHeartbeats 8000000
attribute [local go_sem] ec fm j1
theorem IQ (a b:List Int):bm prog 86 [ints a,ints b] (fun r=>r= .bool (decide (a=b))):=by
 refine bc func86 ntmps86 ?_;(refine bU (i:=0) rfl (fun hbd=>?_);(try simp only [qa2] at hbd));by_cases hl:a.length=b.length
 ·refine Go (fun hc K hK=>?_) VX VX VX
  refine ba [4,5,13,14,15,16,17,18,19,20,21,22,23,24,25] (fun k:Nat=>k≤a.length∧a.take k=b.take k) (fun k=>a.length - k) (fun k=>[(13,.int k)]) (fun _=>[]) 0 aC ?_ ?_
  ·refine bA ?_
   exact aZ
  rintro k ⟨hk,he⟩ K hK;refine bA ?_;by_cases hlt:k < a.length
  ·have hlb:k < b.length:=by omega
   (repeat' (first|refine gD 6 ?_;refine dK (.r 0 9 .nil) ?_|intro (K:St→Prop) hK|intro hc|(refine Gf 99 ?_ ?_ ?_ ?_<;>try exact VX)|fail))
   ·refine VY ?_
    rw [decide_eq_false];rintro rfl;simp_all
   refine ⟨k+1,⟨by omega,?_⟩,by omega,?_⟩
   ·rw [qa5 hlt,qa5 hlb,he]
    simp_all
   refine bA ?_;exact aZ
  obtain rfl:k=a.length:=by omega
  refine iy (fun hc K hK=>?_) VX VX VX;refine VY ?_;rw [decide_eq_true];rw [qd2] at he;rw [he,qe8 ak]
 refine Go (fun hc K hK=>?_) VX VX VX;refine VY ?_;rw [decide_eq_false];rintro rfl;exact hl rfl
theorem L9 (x:br) (l:List br):dR 85 [.bC (kG x)] br.av (uy x) l:=by
 intro y hy;obtain ⟨p,a⟩:=x;obtain ⟨q,b⟩:=y;simp only [uy];by_cases h1:p=q
 ·subst h1
  simp only [decide_true,qf4];refine bc func85 ntmps85 ?_;(repeat' (first|refine gC 86 ?_;refine bg (IQ _ _) ?_|intro (K:St→Prop) hK|intro hc|(refine Gf 99 ?_ ?_ ?_ ?_<;>try exact VX)|fail));refine VY ?_;rfl
 simp only [h1,decide_false,qm1];refine bc func85 ntmps85 ?_;refine Go (fun hc=>?_) VX VX VX;refine VY ?_;rfl
theorem O6 (xs:List br) (f:FuncId) [cI prog f] (caps:List AV) (hcap:AV.cu caps=true) (p:br→Bool) (h:dR f caps br.av p xs):bm prog 84 [bQ xs,.fn f caps] (fun r=>r= .int (mR p xs)):=by
 refine bc func84 ntmps84 ?_;(refine bU (i:=0) rfl (fun hb=>?_);(try simp only [qa2] at hb));refine Go (fun K hK=>?_) VX VX VX;refine ba [4,5,8,9,10,11,12,13,14,15,16,17,18] (fun k:Nat=>k≤xs.length∧∀ i (hi:i < xs.length),i < k→p xs[i]=false) (fun k=>xs.length - k) (fun k=>[(8,.int k)]) (fun _=>[]) 0 ⟨by omega,by omega⟩ ?_ ?_
 ·refine bA ?_
  exact aZ
 rintro k ⟨hk,hn⟩ K hK;refine bA ?_;by_cases hlt:k < xs.length
 ·(repeat' (first|refine bu (fun K hK=>?_);refine iS aR (h xs[k] (qa4 hlt)) (by simp [cv,St.eval,AV.cu,AV.gq,hcap]) (fun x hx=>?_);subst hx|intro (K:St→Prop) hK|intro hc|(refine Gf 99 ?_ ?_ ?_ ?_<;>try exact VX)|fail))
  ·refine VY ?_
   rw [iP hlt hc hn]
  refine ⟨k+1,⟨by omega,cj hn fun _=>hc⟩,by omega,?_⟩;refine bA ?_;exact aZ
 refine iy (fun hc K hK=>?_) VX VX VX;refine VY ?_;rw [gv fun i hi=>hn i hi ak]
theorem O7 (g:Bf) (x:br):bm prog 32 [g.av,x.av] (fun r=>r= .int (y6 g x)):=by
 have hi:=O6 g.ins 85 [.bC (kG x)] rfl (uy x) (L9 x g.ins);refine bc func32 ntmps32 ?_;(repeat' (first|refine gC 84 ?_;refine bg (hi) ?_|refine bu (fun K hK=>?_);refine fy (bR 3 rfl rfl rfl) ?_;simp only [go_sem,seval];refine bt cL ?_|intro (K:St→Prop) hK|intro hc|(refine Gf 99 ?_ ?_ ?_ ?_<;>try exact VX)|fail));refine VY ?_;rfl
theorem Bp (g:Bf) (x:br):-1≤y6 g x∧y6 g x < g.ins.length:=by
 unfold y6 mR;split
 ·rename_i i h
  rw [List.findIdx?_eq_some_iff_getElem] at h;obtain ⟨h1,_⟩:=h;omega
 omega
theorem DG {t:Task} (hc:∀ o∈t.ops,0≤o.cost∧o.cost≤100):∀ (plan:List Nat),0≤ft t plan∧ft t plan≤100 * plan.length
 |[]=>by simp [ft]
 |i::r=>by
  have:=DG hc r;rw [ft,qb8];cases hi:t.ops[i]? with
  |none=>simp only [hi];omega
  |some o=>
   have:=hc o (qg0 hi);simp only [hi];omega
theorem IS (g:Bf) (a:BE) (hcst:∀ o∈g.t.ops,0≤o.cost∧o.cost≤100) (hlen:g.ins.length=g.t.ops.length):bm prog 23 [g.av,a.av] (fun r=>r= .bool (l6 g a)):=by
 obtain ⟨fd,st,co,bo,ne⟩:=a;by_cases hL:st.length≤60
 ·by_cases hN:ne.length=0
  ·have hpb:l6 g ⟨fd,st,co,bo,ne⟩=decide ((∀ x∈st,0≤y6 g x)∧GN g ⟨fd,st,co,bo,ne⟩):=by simp only [l6,hL,hN,true_and]
   obtain ⟨PL,hPl,hPg,hpr⟩:∃ PL:List Int,PL.length=st.length∧(∀ k (hk:k < st.length) (h2:k < PL.length),PL[k]=y6 g st[k])∧
    GN g ⟨fd,st,co,bo,ne⟩=(je g.t bo=(0,0)∧oT g.t (lI bo []) bo=true∧jD g.t g.t.init (fZ PL)=true∧co=ft g.t (fZ PL)∧Lv (lI bo []) g.t.init=ft g.t (fZ PL)):=
    ⟨j5 g st,by simp [j5],fun k hk h2=>by simp [j5],rfl⟩
   obtain ⟨B,hB⟩:∃ B,B=l6 g ⟨fd,st,co,bo,ne⟩:=⟨_,rfl⟩
   have hBi:B=true↔(∀ x∈st,0≤y6 g x)∧je g.t bo=(0,0)∧oT g.t (lI bo []) bo=true∧jD g.t g.t.init (fZ PL)=true∧co=ft g.t (fZ PL)∧Lv (lI bo []) g.t.init=ft g.t (fZ PL):=by rw [hB,hpb,decide_eq_true_iff,hpr]
   rw [← hB];clear hB hpb hpr;refine bc func23 ntmps23 ?_;refine Gx 5 (fun hc hc K hK K hK=>?_) VX VX VX;refine fD 5 105 1 8 3 ?_;refine Gx 6 ?_ VX VX VX;refine bP (5::6::[4,5,6,8,9,26,27,28,29,30,31,32,33,34,35,36,37,38,39,40,41,42,43,44,45,46,47,48]) (fun k:Nat=>k≤st.length∧∀ i (hi:i < st.length),i < k→0≤y6 g st[i]) (fun k=>st.length - k) (fun k=>[(26,.int k),(5,.sl 1 8 105 0 k),(6,.int (ft g.t (fZ (PL.take k))))]) (fun k=>[(105,⟨3,(PL.take k).map AV.int,false⟩)]) 0 ⟨by omega,by omega⟩ ?_ ?_
   ·rw [List.take_zero]
    refine bA ?_;exact aZ
   rintro k ⟨hk,hn⟩ K hK;refine bA ?_;have hpt:(PL.take k).length=k:=by rw [qc0];omega
   by_cases hlt:k < st.length
   ·have hf:=O7 g st[k]
    have hrg:=Bp g st[k];by_cases h0:0≤y6 g st[k]
    ·obtain ⟨j,hj⟩:∃ j:Nat,y6 g st[k]=(j:Int):=⟨(y6 g st[k]).toNat,(qg3 h0).symm⟩
     have hjl:j < g.t.ops.length:=by omega
     have hkP:k < PL.length:=by omega
     have hpk:PL[k]=(j:Int):=by rw [hPg k hlt hkP,hj]
     have hcs:=IC (t:=g.t) (plan:=PL) (k:=k) hkP (by rw [hpk];omega);simp only [hpk,ql0] at hcs;have hst:PL.take (k+1)=PL.take k++[(j:Int)]:=by rw [qa5 hkP,hpk]
     have hcj:=hcst g.t.ops[j] (qa4 hjl);have hbd:=DG hcst (fZ (PL.take k));rw [fZ,qa2,hpt] at hbd;rw [← fZ] at hbd;rw [hj] at hf;(repeat' (first|refine gC 32 ?_;refine bg (hf) ?_|refine bu (fun K hK=>?_);refine ck ?_|intro (K:St→Prop) hK|intro hc|(refine Gf 99 ?_ ?_ ?_ ?_<;>try exact VX)|fail));refine ⟨k+1,⟨by omega,cj hn fun _=>h0⟩,by omega,?_⟩;rw [hcs,hst,qb5];refine bA ?_;exact aZ
    
    (repeat' (first|refine gC 32 ?_;refine bg (hf) ?_|intro (K:St→Prop) hK|intro hc|(refine Gf 99 ?_ ?_ ?_ ?_<;>try exact VX)|fail));refine VY ?_;rw [show B=false from Bool.eq_false_iff.2 fun h=>h0 ((hBi.1 h).1 _ (qa4 hlt))]
   obtain rfl:k=st.length:=by omega
   have hall:∀ x∈st,0≤y6 g x:=fun x hx=>by
    obtain ⟨i,hi,rfl⟩:=qj6.1 hx;exact hn i hi hi
   have hin:uw g.t PL:=fun x hx=>by
    obtain ⟨i,hi,rfl⟩:=qj6.1 hx;have h1:=hPg i ak hi;have h2:=Bp g st[i];have h3:=hall _ (qa4 (show i < st.length by omega));rw [h1];omega
   rw [show PL.take st.length=PL from qe8 ak,← hPl];refine HA 14 (fun hc K hK K hK=>?_) VX VX VX;(refine cE (mv 105 PL.length PL aR aN) ?_;simp only [go_sem,seval]);by_cases hf:je g.t bo=(0,0)
   ·have hlb:=TE g.t bo hf
    have hw:=(Dr hf).1;have hwk:=Lt g.t g.t.init PL hw hw.init hin ak;cases hh:oT g.t (lI bo []) bo with
    |false=>
     have hBf:B=false:=Bool.eq_false_iff.2 fun h=>by rw [hh] at hBi;exact absurd (hBi.1 h).2.2.1 aB
     rw [hh,if_neg aB] at hlb;(repeat' (first|refine gC 59 ?_;refine bg (hlb) ?_|intro (K:St→Prop) hK|intro hc|(refine Gf 99 ?_ ?_ ?_ ?_<;>try exact VX)|fail))
     all_goals (refine VY ?_)
     all_goals rw [hBf]
    |true=>
     rw [hh,if_pos rfl] at hlb;cases hwb:jD g.t g.t.init (fZ PL) with
     |false=>
      have hBf:B=false:=Bool.eq_false_iff.2 fun h=>by rw [hwb] at hBi;exact absurd (hBi.1 h).2.2.2.1 aB
      rw [hwb] at hwk;(repeat' (first|refine gC 59 ?_;refine bg (hlb) ?_|refine gC 60 ?_;refine bg (hwk) ?_|intro (K:St→Prop) hK|intro hc|(refine Gf 99 ?_ ?_ ?_ ?_<;>try exact VX)|fail))
      all_goals (refine VY ?_)
      all_goals rw [hBf]
     |true=>
      rw [hwb] at hwk;generalize ft g.t (fZ PL)=cs at *;generalize Lv (lI bo []) g.t.init=av at *;have hBe:B=(decide (co=cs)&&decide (av=cs)):=by rw [qf7,hBi,qa1,decide_eq_true_iff,decide_eq_true_iff];exact ⟨fun h=>h.2.2.2.2,fun h=>⟨hall,hf,hh,hwb,h⟩⟩
      (repeat' (first|refine gC 59 ?_;refine bg (hlb) ?_|refine gC 60 ?_;refine bg (hwk) ?_|intro (K:St→Prop) hK|intro hc|(refine Gf 99 ?_ ?_ ?_ ?_<;>try exact VX)|fail))
      all_goals (refine VY ?_)
      all_goals (rw [hBe];simp [*,AY])
   have hlb:=L7 g.t bo hf;have hac:=Dt hf;have hBf:B=false:=Bool.eq_false_iff.2 fun h=>hf (hBi.1 h).2.1;(repeat' (first|refine gC 59 ?_;refine bg (hlb) ?_|intro (K:St→Prop) hK|intro hc|(refine Gf 99 ?_ ?_ ?_ ?_<;>try exact VX)|fail))
   all_goals (refine VY ?_)
   all_goals rw [hBf]
  have hpb:l6 g ⟨fd,st,co,bo,ne⟩=false:=by simp [l6,hN]
  rw [hpb];refine bc func23 ntmps23 ?_;refine Go (fun hc hc K hK=>?_) VX VX VX;refine VY ?_;rfl
 have hpb:l6 g ⟨fd,st,co,bo,ne⟩=false:=by simp [l6];omega
 rw [hpb];refine bc func23 ntmps23 ?_;refine Go (fun hc K hK=>?_) VX VX VX;refine VY ?_;rfl
theorem GO {p:Int×Int} (h:p≠(0,0)):p.1≠0∨p.2≠0:=by
 obtain ⟨a,b⟩:=p;by_cases h1:a=0
 ·refine .inr fun h2=>h ?_
  simp only at h2;rw [h1,h2]
 exact .inl h1
theorem DH (d:cR) (h:iZ d≠(0,0)):bm prog 107 [d.av] (fun r=>r= .dC [.fO,jA (iZ d)]):=by
 have hac:=GO h;have hdv:=K2 d;generalize iZ d=p at *;refine bc func107 ntmps107 ?_;(repeat' (first|refine gD 3 ?_;refine vP (s1:=?_) (.pY 0 1 1 3 (.it 1 3 (.it 2 3 .nil)) (.it 0 1 (.it 2 3 .nil))) ?_ ?_;rotate_left|refine gC 157 ?_;refine bg (hdv) ?_|refine yP ?_;refine nR ?_|refine gO ?_;refine kJ ?_|intro (K:St→Prop) hK|intro hc|(refine rh 99 ?_ ?_ ?_ ?_<;>try exact VX)|fail))
 all_goals (refine V2 ?_)
 all_goals rfl
theorem DI (d:cR) (h:iZ d≠(0,0)):bm prog 49 [d.av] (fun r=>r= .dC [.v (.pointer none),jA (iZ d)]):=by
 have hac:=GO h;have hdv:=DH d h;generalize iZ d=p at *;refine bc func49 ntmps49 ?_;(repeat' (first|refine gD 3 ?_;refine dK (.r 0 2 (.it 2 3 .nil)) ?_|refine gC 107 ?_;refine bg (hdv) ?_|refine gO ?_;refine kJ ?_|intro (K:St→Prop) hK|intro hc|(refine rh 99 ?_ ?_ ?_ ?_<;>try exact VX)|fail))
 all_goals (refine V4 ?_)
 all_goals rfl
theorem DJ (d:cR) (h:iZ d≠(0,0)):bm prog 22 [d.av] (fun r=>r= .dC [qE,jA (iZ d)]):=by
 have hac:=GO h;have hdv:=DI d h;generalize iZ d=p at *;refine bc func22 ntmps22 ?_;(repeat' (first|refine gD 3 ?_;refine vP (s1:=?_) (.it 0 0 (.pY 1 1 2 3 (.it 2 3 (.it 3 3 .nil)) (.it 1 1 (.it 3 3 .nil)))) ?_ ?_;rotate_left|refine gC 49 ?_;refine bg (hdv) ?_|refine yP ?_;refine nR ?_|refine gO ?_;refine kJ ?_|intro (K:St→Prop) hK|intro hc|(refine rh 99 ?_ ?_ ?_ ?_<;>try exact VX)|fail))
 all_goals (refine V2 ?_)
 all_goals rfl
def yB (d:cR):Prop:=(kD d d.bV.length).length≤400∧(jC d).length≤24∧(nK d).length≤40
instance (d:cR):Decidable (yB d):=inferInstanceAs (Decidable (_∧_∧_))
def F6 (d:cR):Bf:=Fg d (jC d) (nK d)
def AJ (d:cR):Int×Int:=if iZ d≠(0,0) then iZ d else if yB d then (0,0) else (10,-8)
def NK (d:cR):AV:=if AJ d=(0,0) then .dC [(F6 d).av,fault 0 0] else .dC [qE,jA (AJ d)]
theorem z6 (d:cR):bm prog 22 [d.av] (fun r=>r=NK d):=by
 unfold NK AJ;by_cases hv:iZ d=(0,0)
 ·have h:=Lq d hv
  simp only [hv,ne_eq,not_true_eq_false,if_false];by_cases hf:yB d
  ·simp only [hf,if_true]
   rwa [Bi,if_pos hf.1,gp,if_pos hf.2] at h
  simp only [hf,if_false];rw [if_neg aB];rw [Bi] at h;by_cases h1:(kD d d.bV.length).length≤400
  ·rwa [if_pos h1,gp,if_neg (fun h2=>hf ⟨h1,h2⟩)] at h
  rwa [if_neg h1] at h
 have h:=DJ d hv;simp only [hv,ne_eq,not_false_eq_true,if_true,if_false];exact h
theorem Ma {d:cR} (h:AJ d=(0,0)):iZ d=(0,0)∧yB d:=by
 unfold AJ at h;split at h
 ·rename_i h1;exact absurd h h1
 rename_i h1;split at h
 ·rename_i h2;exact ⟨Classical.not_not.1 h1,h2⟩
 cases h
theorem yC {α:Type} [Inhabited α] {l:List α} {p:Nat→Bool} {x:α}:∀ {k:Nat},k≤l.length→x∈gV l p k→x∈l
 |0,_,h=>by cases h
 |k+1,hk,h=>by
  rw [gV,qe4] at h;rcases h with h|h
  ·exact yC ak h
  split at h
  ·rw [qd7] at h
   rw [h,bq (show k < l.length by omega)];exact qa4 _
  cases h
theorem Aa {d:cR} (hD:zE d) {x:Act}:∀ {k:Nat},k≤d.cU.length→x∈qi d k→0≤x.cost∧x.cost≤100
 |0,_,h=>by cases h
 |k+1,hk,h=>by
  rw [vu,qe4] at h;rcases h with h|h
  ·exact Aa hD ak h
  rw [qh0] at h;obtain ⟨args,_,h⟩:=h;have hs:=hD.AQ d.cU[k] (qa4 ak);rw [bq (show k < d.cU.length by omega),vt] at h;split at h
  ·cases h
  split at h
  ·cases h
  rw [qd7] at h;rw [h];exact ⟨hs.c0,hs.c1⟩
theorem DL {d:cR} (h:AJ d=(0,0)):∀ o∈(F6 d).t.ops,0≤o.cost∧o.cost≤100:=by
 intro o ho;have ho2:o∈(nK d).map (wE (jC d)):=ho;obtain ⟨x,hx,rfl⟩:=qe7.1 ho2;exact Aa (AS (Ma h).1) (qb3 _) (yC (l:=jc d) (qb3 _) hx)
theorem F7 (d:cR):(F6 d).ins.length=(F6 d).t.ops.length:=by
 show ((nK d).map jL).length=((nK d).map (wE (jC d))).length;rw [qa2,qa2]
def xY (d:cR) (a:BE):AV:=if AJ d=(0,0) then .dC [.bool (wz (F6 d) a),fault 0 0] else .dC [.bool false,jA (AJ d)]
theorem xX (d:cR) (a:BE):bm prog 7 [d.av,a.av] (fun r=>r=xY d a):=by
 have hr:=z6 d;unfold xY;by_cases hf:AJ d=(0,0)
 ·rw [if_pos hf]
  rw [NK,if_pos hf] at hr;have hp:=IS (F6 d) a (DL hf) (F7 d);generalize F6 d=g at *;obtain ⟨fd,st,co,bo,ne⟩:=a;cases fd with
  |true=>
   rw [wz,if_pos rfl];generalize l6 g ⟨true,st,co,bo,ne⟩=b at *;refine bc func7 ntmps7 ?_;(repeat' (first|refine gC 22 ?_;refine bg (hr) ?_|refine gC 23 ?_;refine bg (hp) ?_|intro (K:St→Prop) hK|intro hc|(refine Gf 99 ?_ ?_ ?_ ?_<;>try exact VX)|fail));refine V4 ?_;rfl
  |false=>
   rw [show wz g ⟨false,st,co,bo,ne⟩=wi g ⟨false,st,co,bo,ne⟩ from rfl];by_cases h0:st.length=0∧bo.length=0∧co=0
   ·have hn:wi g ⟨false,st,co,bo,ne⟩=(decide (ju g.t ne=(0,0))&&tX g.t ne):=by simp only [wi,h0,decide_true,qf4,and_self]
    rw [hn];obtain ⟨h1,h2,h3⟩:=h0;by_cases hc:ju g.t ne=(0,0)
    ·have hd:=OH g.t ne hc
     rw [decide_eq_true hc,qf4];clear hc;generalize tX g.t ne=b at *;refine bc func7 ntmps7 ?_;(repeat' (first|refine gC 22 ?_;refine bg (hr) ?_|refine gC 24 ?_;refine bg (hd) ?_|intro (K:St→Prop) hK|intro hc|(refine Gf 99 ?_ ?_ ?_ ?_<;>try exact VX)|fail))
     all_goals (refine V4 ?_)
     all_goals (first|rfl|(rw [hc];rfl))
    have hd:=Fk g.t ne hc;have hac:=zT hc;rw [decide_eq_false hc,qm1];refine bc func7 ntmps7 ?_;(repeat' (first|refine gC 22 ?_;refine bg (hr) ?_|refine gC 24 ?_;refine bg (hd) ?_|intro (K:St→Prop) hK|intro hc|(refine Gf 99 ?_ ?_ ?_ ?_<;>try exact VX)|fail))
    all_goals (refine V4 ?_)
    all_goals rfl
   have hn:wi g ⟨false,st,co,bo,ne⟩=false:=by rw [wi,decide_eq_false h0,qm1]
   rw [hn];refine bc func7 ntmps7 ?_;(repeat' (first|refine gC 22 ?_;refine bg (hr) ?_|intro (K:St→Prop) hK|intro hc|(refine Gf 99 ?_ ?_ ?_ ?_<;>try exact VX)|fail))
   all_goals (refine V4 ?_)
   all_goals rfl
 rw [if_neg hf];rw [NK,if_neg hf] at hr;have hac:=GO hf;unfold qE at hr;generalize AJ d=p at *;refine bc func7 ntmps7 ?_;(repeat' (first|refine gD 3 ?_;refine dK (.r 0 2 (.it 2 3 .nil)) ?_|refine gC 22 ?_;refine bg (hr) ?_|refine gO ?_;refine kJ ?_|intro (K:St→Prop) hK|intro hc|(refine rh 99 ?_ ?_ ?_ ?_<;>try exact VX)|fail))
 all_goals (refine V4 ?_)
 all_goals rfl
end
section
set_option maxHeartbeats 8000000
theorem Bx {ts dg:List (j7×Int)} {t o:Int}:∀ {k:Nat},o∈wB ts dg t k↔∃ j:Nat,j < k∧(j:Int)=o∧yc ts dg[j]!.2 t=true
 |0=>by simp [wB]
 |k+1=>by
  rw [wB,qe4,Bx (k:=k)];constructor
  ·rintro (⟨j,h1,h2⟩|h)
   ·exact ⟨j,by omega,h2⟩
   split at h
   ·rw [qd7] at h;exact ⟨k,by omega,h.symm,by assumption⟩
   cases h
  rintro ⟨j,h1,h2,h3⟩;rcases qc4 j k with h|h
  ·exact .inl ⟨j,h,h2,h3⟩
  obtain rfl:j=k:=by omega
  exact .inr (by rw [if_pos h3,h2];simp)
theorem DM (d:cR) (t:Int):∀ w:List Int,kO d (w++[t])=(kO d w).flatMap fun l=>(lM d t).map fun o=>l++[o]
 |[]=>by
  simp only [qk0,kO,qd5,List.flatMap_nil,qe5,qd4,qg5]
  induction lM d t with
  |nil=>rfl
  |cons a l ih=>simp [qd5,ih]
 |u::w=>by
  rw [qi8,kO,kO,DM d t w,List.flatMap_assoc];congr 1;funext o;rw [List.map_flatMap,qg9];congr 1;funext l;simp [List.map_map,Function.comp_def]
theorem rE {d:cR}:∀ {w x:List Int},x∈kO d w↔x.length=w.length∧∀ i (h:i < x.length) (h2:i < w.length),x[i]∈lM d w[i]
 |[],x=>by
  rw [kO,qd7];constructor
  ·rintro rfl;exact ⟨rfl,fun i h=>by simp at h⟩
  rintro ⟨h,_⟩;exact List.length_eq_zero_iff.1 h
 |t::w,x=>by
  rw [kO,qh0];constructor
  ·rintro ⟨o,ho,h⟩
   obtain ⟨y,hy,rfl⟩:=qe7.1 h;obtain ⟨h1,h2⟩:=rE.1 hy;refine ⟨by simp [h1],fun i hi hi2=>?_⟩;cases i with
   |zero=>exact ho
   |succ i=>simpa using h2 i (by simpa using hi) (by simpa using hi2)
  rintro ⟨h1,h2⟩;cases x with
  |nil=>simp at h1
  |cons o y=>
   refine ⟨o,h2 0 aC aC,qe7.2 ⟨y,rE.2 ⟨by simpa using h1,fun i hi hi2=>?_⟩,rfl⟩⟩;exact h2 (i+1) (by simpa using hi) (by simpa using hi2)
variable {d:cR}
theorem O8 {x:br}:∀ {k:Nat},x∈kD d k↔∃ p:Nat,p < k∧x.p=p∧x.a∈kO d d.bV[p]!.ts:=fun {k}=>by
 rw [kD,qh0];constructor
 ·rintro ⟨p,hp,h⟩
  obtain ⟨a,ha,rfl⟩:=qe7.1 h;exact ⟨p,qh2.1 hp,rfl,ha⟩
 rintro ⟨p,hp,h1,h2⟩;exact ⟨p,qh2.2 hp,qe7.2 ⟨_,h2,by rw [← h1]⟩⟩
variable {args:List Int}
theorem O9 (hD:zE d) {ps:List Int} {x:br} (hp:qH d ps) (hx:AP d ps x) (ha:args∈kO d ps):dw args x∈kD d d.bV.length:=by
 obtain ⟨hl,hm⟩:=rE.1 ha;have hxp:=hx.p1;have hp0:=hx.p0;refine O8.2 ⟨x.p.toNat,by omega,(qg3 hp0).symm,rE.2 ⟨?_,fun i hi hi2=>?_⟩⟩
 ·rw [dw,qa2];exact hx.len
 have hi':i < x.a.length:=by simpa [dw] using hi
 obtain ⟨t,ht,hs⟩:=hx.fx i hi';have hr:=hx.args i hi';rw [bq hi2] at hs;have e:(dw args x).a[i]=mZ args x.a[i]:=by simp [dw]
 rw [e,lM,Bx];unfold tY at ht;unfold mZ;by_cases hn:x.a[i] < 0
 ·rw [if_neg ak,if_pos ⟨hn,hr.1⟩] at ht
  injection ht with ht
  rw [if_pos hn];have hq:(-1 - x.a[i]).toNat < ps.length:=by omega
  have hq2:(-1 - x.a[i]).toNat < args.length:=by omega
  rw [bq hq] at ht;rw [bq hq2];have h3:=hm _ hq2 hq;rw [lM,Bx] at h3;obtain ⟨j,hj,hje,hjt⟩:=h3;refine ⟨j,hj,hje,?_⟩;have ho:=hD.obj j hj;rw [bq hj] at hjt ⊢;rw [ht] at hjt;exact zK hD.Ig _ _ (qb3 _) ak hjt hs
 rw [if_pos ⟨by omega,hr.2⟩] at ht;injection ht with ht
 rw [if_neg hn];exact ⟨x.a[i].toNat,by omega,by omega,by rw [ht];exact hs⟩
theorem By (d:cR):∀ k,rM d k=((kD d k).filter fun a=>hasB (fX d) a.p).map jB
 |0=>by simp [rM,kD]
 |k+1=>by
  rw [vq,lH,qh6,qb5,By d k];congr 1;rw [List.filter_map,List.map_map];split
  ·rename_i h
   rw [List.filter_eq_self.2 fun a _=>by simpa using h];rfl
  rename_i h;rw [List.filter_eq_nil_iff.2 fun a _=>by simpa using h];rfl
theorem Bz (d:cR):∀ k,rO d k=((kD d k).filter fun a=>hasB (fX d) a.p&&hasB (nf d) a.p).map e9
 |0=>by simp [rO,kD]
 |k+1=>by
  rw [vr,lH,qh6,qb5,Bz d k];congr 1;rw [List.filter_map,List.map_map];split
  ·rename_i h
   split
   ·rename_i h2
    rw [List.filter_eq_self.2 fun a _=>by simp [h,h2]];rfl
   rename_i h2;rw [List.filter_eq_nil_iff.2 fun a _=>by simp [h2]];rfl
  rename_i h;rw [List.filter_eq_nil_iff.2 fun a _=>by simp [h]];rfl
theorem Mb {x:bG}:x∈fq d↔x.x∈kD d d.bV.length∧hasB (fX d) x.x.p=true∧(x.neg=true→hasB (nf d) x.x.p=true):=by
 obtain ⟨n,a⟩:=x;rw [fq,qe4,By,Bz,qe7,qe7];constructor
 ·rintro (⟨b,hb,e⟩|⟨b,hb,e⟩)
  ·injection e with e1 e2
   subst e1 e2;obtain ⟨h1,h2⟩:=qh1.1 hb;exact ⟨h1,h2,fun h=>by cases h⟩
  injection e with e1 e2
  subst e1 e2;obtain ⟨h1,h2⟩:=qh1.1 hb;rw [qa1] at h2;exact ⟨h1,h2.1,fun _=>h2.2⟩
 rintro ⟨h1,h2,h3⟩;cases n with
 |false=>exact .inl ⟨a,qh1.2 ⟨h1,h2⟩,rfl⟩
 |true=>exact .inr ⟨a,qh1.2 ⟨h1,by rw [h2,h3 rfl];rfl⟩,rfl⟩
def rN (d:cR) (args:List Int) (l:List bG):List bG:=(l.map (fu args)).filter fun x=>hasB (fX d) x.x.p
def Qn (args:List Int) (s:eg):List br:=(s.del.map (dw args)).filter fun a=>!j8 (s.add.map (dw args)) a
def RU (args:List Int) (s:eg):List bG:=(s.add.map (dw args)).map jB++(Qn args s).map e9
def TF (args:List Int) (s:eg):List bG:=(s.add.map (dw args)).map e9++(Qn args s).map jB
def rP (d:cR) (args:List Int):List bG→List bG→Bool
 |[],_=>true
 |x::l,M=>if hasB (fX d) x.x.p=true then !fY M (y5 (fu args x))&&rP d args l (M++[fu args x]) else pR d (fu args x)&&rP d args l M
def yD (d:cR) (s:eg) (args:List Int):Bool:=!s.diff.any (nJ args)&&rP d args s.pre []
def DN (d:cR) (k:Nat) (s:eg) (args:List Int):Act:=⟨(k:Int),args,rN d args s.pre,RU args s,TF args s,s.cost⟩
def qU (d:cR) (k:Nat) (s:eg) (args:List Int):List Act:=if yD d s args=true then [DN d k s args] else []
def kE (d:cR) (k:Nat):List Act:=(List.range k).flatMap fun (p:Nat)=>(kO d d.cU[p]!.ts).flatMap (qU d p d.cU[p]!)
theorem yE (d:cR) (k:Nat):kE d (k+1)=kE d k++(kO d d.cU[k]!.ts).flatMap (qU d k d.cU[k]!):=by
 rw [kE,List.range_succ,qd8];simp [kE]
def jv (d:cR):List Act:=kE d d.cU.length
structure Pa (x y:Act):Prop where
 AQ:x.AQ=y.AQ
 args:x.args=y.args
 cost:x.cost=y.cost
 pre:∀ z,z∈x.pre↔z∈y.pre
 add:∀ z,z∈x.add↔z∈y.add
 del:∀ z,z∈x.del↔z∈y.del
def lL:List Act→List Act→Prop
 |[],[]=>True
 |x::a,y::b=>Pa x y∧lL a b
 |_,_=>False
theorem lL.app:∀ {a b c e:List Act},lL a b→lL c e→lL (a++c) (b++e)
 |[],[],_,_,_,h=>h
 |_::_,_::_,_,_,h1,h=>⟨h1.1,h1.2.app h⟩
theorem lL.flat {α:Type} {f g:α→List Act} (h:∀ a,lL (f a) (g a)):∀ l:List α,lL (l.flatMap f) (l.flatMap g)
 |[]=>trivial
 |a::l=>by rw [qd5,qd5];exact (h a).app (lL.flat h l)
theorem lL.len:∀ {a b:List Act},lL a b→a.length=b.length
 |[],[],_=>rfl
 |_::_,_::_,h=>by rw [qb8,qb8,h.2.len]
theorem lL.get:∀ {a b:List Act},lL a b→∀ i (h:i < a.length) (h2:i < b.length),Pa a[i] b[i]
 |x::a,y::b,h,0,_,_=>h.1
 |x::a,y::b,h,i+1,h1,h2=>h.2.get i (by simpa using h1) (by simpa using h2)
def yF (d:cR) (args:List Int) (l M:List bG):Option (List bG)→Prop
 |none=>rP d args l M=false
 |some p=>rP d args l M=true∧∀ y,y∈p↔y∈M++rN d args l
theorem yF.of {l l' M M':List bG} (h1:rP d args l M=rP d args l' M') (h2:M++rN d args l=M'++rN d args l'):∀ {o:Option (List bG)},yF d args l' M' o→yF d args l M o
 |none,h=>h1.trans h
 |some p,h=>⟨h1.trans h.1,fun y=>by rw [h2];exact h.2 y⟩
theorem uD (d:cR) (args:List Int):∀ (l out M:List bG),(∀ y,y∈out↔y∈M)→yF d args l M (nI (hasB (fX d)) d.init args l out)
 |[],out,M,h=>⟨rfl,fun y=>by rw [h];simp [rN]⟩
 |x::l,out,M,h=>by
  have hh:∀ y,fY out y=fY M y:=fun y=>by rw [qf7,ga,ga,h]
  rw [nI,hh,hh];by_cases hf:hasB (fX d) x.x.p=true
  ·have hn:rN d args (x::l)=fu args x::rN d args l:=by
    rw [rN,qd4,List.filter_cons_of_pos (by exact hf)];rfl
   have hp:rP d args (x::l) M=(!fY M (y5 (fu args x))&&rP d args l (M++[fu args x])):=by rw [rP,if_pos hf]
   rw [if_pos hf];by_cases h1:fY M (y5 (fu args x))=true
   ·rw [if_pos h1]
    show rP d args (x::l) M=false;rw [hp,h1];rfl
   rw [if_neg h1];simp only [qj7] at h1;rw [h1,Bool.not_false,qf4] at hp;by_cases h2:fY M (fu args x)=true
   ·rw [if_pos h2]
    refine yF.of hp (by rw [hn,qd6];rfl) (uD d args l out (M++[fu args x]) fun y=>?_);rw [h,qe4,qd7];exact ⟨.inl,fun h3=>h3.elim id fun e=>by rw [e];exact ga.1 h2⟩
   rw [if_neg h2];exact yF.of hp (by rw [hn,qd6];rfl) (uD d args l (out++[fu args x]) (M++[fu args x]) fun y=>by rw [qe4,qe4,h])
  have hn:rN d args (x::l)=rN d args l:=by rw [rN,qd4,List.filter_cons_of_neg (by exact hf)];rfl
  have hp:rP d args (x::l) M=((j8 d.init (dw args x.x) != x.neg)&&rP d args l M):=by rw [rP,if_neg hf];rfl
  rw [if_neg hf];by_cases h1:j8 d.init (dw args x.x)=x.neg
  ·rw [if_pos h1]
   show rP d args (x::l) M=false;rw [hp,h1];simp
  rw [if_neg h1];rw [show (j8 d.init (dw args x.x) != x.neg)=true by simpa using h1,qf4] at hp;exact yF.of hp (by rw [hn]) (uD d args l out M h)
variable {l:List br}
theorem IT {j:Nat} (h:j+1 < l.length) {x:br}:x∈we l j↔x∈l:=by
 unfold we;rw [bq (show j < l.length by omega),bq h];constructor
 ·intro hx
  rcases List.mem_or_eq_of_mem_set hx with hx|rfl
  ·rcases List.mem_or_eq_of_mem_set hx with hx|rfl
   ·exact hx
   exact qa4 _
  exact qa4 _
 intro hx;obtain ⟨i,hi,rfl⟩:=qa9 hx;by_cases h1:i=j
 ·subst h1
  exact qj6.2 ⟨i+1,by simpa using h,by simp⟩
 by_cases h2:i=j+1
 ·subst h2
  exact qj6.2 ⟨j,by simp;omega,by simp⟩
 exact qj6.2 ⟨i,by simpa using hi,by rw [List.getElem_set_ne ak,List.getElem_set_ne ak]⟩
theorem Ac {x:br}:∀ (j:Nat) (l:List br),j < l.length→(x∈sd j l↔x∈l)
 |0,_,_=>Iff.rfl
 |j+1,l,h=>by
  unfold sd;split
  ·rw [Ac j _ (by rw [vn];omega),IT h]
  rfl
theorem DO {x:br} (l:List br):∀ k,k < l.length→(x∈sS l k↔x∈l)
 |0,_=>Iff.rfl
 |k+1,h=>by rw [sS,Ac _ _ (by rw [oP];exact h),DO l k ak]
theorem yG {x:br}:∀ l:List br,x∈fH l↔x∈l
 |[]=>Iff.rfl
 |[_]=>Iff.rfl
 |y::z::r=>by
  have ih:=yG (x:=x) (z::r);unfold fH;split
  ·rename_i e;rw [ih,← e];simp
  rw [qc2,ih,qc2 (l:=z::r)]
theorem rF {y:br}:y∈j4 args l↔y∈l.map (dw args):=by
 unfold j4;rw [yG];by_cases h:(l.map (dw args)).length=0
 ·rw [h];rfl
 exact DO _ _ ak
theorem Pb (d:cR) (k:Nat) (s:eg) (args:List Int):lL (qU d k s args) (vt d k s args):=by
 have hn:=uD d args s.pre [] [] fun _=>Iff.rfl;have hm:∀ y,y∈Qn args s↔y∈eO (j4 args s.add) (j4 args s.del):=fun y=>by
  rw [Qn,eO,qh1,qh1,rF];simp only [qb7,← qj7,yz,rF]
 unfold qU vt yD;split
 ·rename_i h
  split
  ·rename_i h2;rw [h2] at h;simp at h
  rw [qa1] at h;cases hq:nI (hasB (fX d)) d.init args s.pre [] with
  |none=>rw [hq] at hn;rw [show rP d args s.pre []=false from hn] at h;exact absurd h.2 aC
  |some p=>
   rw [hq] at hn;refine ⟨⟨rfl,rfl,rfl,fun z=>?_,fun z=>?_,fun z=>?_⟩,trivial⟩
   ·show z∈rN d args s.pre↔z∈p
    exact ((hn.2 z).trans aC).symm
   ·simp only [DN,RU,Iu,qe4,qe7 (f:=jB),qe7 (f:=e9),rF,hm]
   simp only [DN,TF,Iv,qe4,qe7 (f:=jB),qe7 (f:=e9),rF,hm]
 rename_i h;split
 ·trivial
 rename_i h2;rw [show s.diff.any (nJ args)=false by simpa using h2,Bool.not_false,qf4] at h;cases hq:nI (hasB (fX d)) d.init args s.pre [] with
 |none=>trivial
 |some p=>rw [hq] at hn;exact absurd hn.1 h
theorem Mc (d:cR):lL (jv d) (jc d):=lL.flat (fun p=>lL.flat (fun a=>Pb d p _ a) _) _
variable {x:Act}
theorem vA (h:x∈jv d):∃ k:Nat,∃ hk:k < d.cU.length,∃ args,args∈kO d d.cU[k].ts∧x=DN d k d.cU[k] args:=by
 rw [jv,kE,qh0] at h;obtain ⟨k,hk,h⟩:=h;have hk:=qh2.1 hk;rw [qh0,bq hk] at h;obtain ⟨args,ha,h⟩:=h;unfold qU at h;split at h
 ·rw [qd7] at h;exact ⟨k,hk,args,ha,h⟩
 cases h
theorem Pc (hD:zE d) (hx:x∈jv d):∀ y∈x.pre,y∈fq d:=by
 obtain ⟨k,hk,args,ha,rfl⟩:=vA hx;have hs:=hD.AQ _ (qa4 hk);intro y hy;obtain ⟨h1,h2⟩:=qh1.1 hy;obtain ⟨u,hu,rfl⟩:=qe7.1 h1;refine Mb.2 ⟨O9 hD hs.ts (hs.pre u hu) ha,h2,fun hn=>(ev _ _).mpr ?_⟩;rw [nf,qe4,qh0];refine .inr ⟨_,qa4 hk,?_⟩;rw [mO,qh0];exact ⟨u,hu,by rw [if_pos hn];exact qd7.2 rfl⟩
theorem yH (facts:List bG) {a b:List bG} (h:∀ z,z∈a↔z∈b) (n:Nat):jq facts a n=jq facts b n:=by
 have e:∀ z,fY a z=fY b z:=fun z=>by rw [qf7,ga,ga,h]
 induction n with
 |zero=>rfl
 |succ n ih=>rw [jq,jq,ih,e]
theorem Pa.op {y:Act} (h:Pa x y) (l:List bG):wE l x=wE l y:=by
 show Op.mk (jq l x.pre l.length) (jq l x.add l.length) (jq l x.del l.length) x.cost=_;rw [yH l h.pre,yH l h.add,yH l h.del,h.cost];rfl
theorem lL.ops:∀ {a b:List Act},lL a b→∀ l:List bG,a.map (wE l)=b.map (wE l)∧a.map jL=b.map jL
 |[],[],_,_=>⟨rfl,rfl⟩
 |x::a,y::b,h,l=>by
  obtain ⟨h1,h2⟩:=h.2.ops l;rw [qd4,qd4,qd4,qd4,h1,h2,h.1.op l,jL,jL,h.1.AQ,h.1.args];exact ⟨rfl,rfl⟩
variable {a b:List Act}
theorem lL.build (h:lL a b) (d:cR) (l:List bG):gp d l a=gp d l b:=by
 unfold gp Fg;rw [(h.ops l).1,(h.ops l).2,h.len]
theorem lL.VB (h:lL a b) (p:Nat→Bool):∀ k,k≤a.length→lL (gV a p k) (gV b p k)
 |0,_=>trivial
 |k+1,hk=>by
  have hl:=h.len;rw [gV,gV];refine (h.VB p k ak).app ?_;split
  ·rw [bq (show k < a.length by omega),bq (show k < b.length by omega)]
   exact ⟨h.get k _ _,trivial⟩
  trivial
def BA (AL:List bG) (R:List Bool) (H:List bG):Prop:=R.length=AL.length∧∀ j (hj:j < AL.length) (h2:j < R.length),R[j]=fY H AL[j]
theorem oY {facts l:List bG} {p:Int}:∀ {k:Nat},p∈jq facts l k↔∃ j:Nat,j < k∧(j:Int)=p∧fY l facts[j]! =true
 |0=>by simp [jq]
 |k+1=>by
  rw [jq,qe4,oY (k:=k)];constructor
  ·rintro (⟨j,h1,h2⟩|h)
   ·exact ⟨j,by omega,h2⟩
   split at h
   ·rw [qd7] at h;exact ⟨k,by omega,h.symm,by assumption⟩
   cases h
  rintro ⟨j,h1,h2,h3⟩;rcases qc4 j k with h|h
  ·exact .inl ⟨j,h,h2,h3⟩
  obtain rfl:j=k:=by omega
  exact .inr (by rw [if_pos h3,h2];simp)
theorem Ad:∀ (l:List Int) (R:List Bool) (j:Nat) (h:j < R.length) (h2:j < (lZ R l).length),(∀ p∈l,0≤p)→(lZ R l)[j]=(R[j]|| hasB l (j:Int))
 |[],R,j,_,_,_=>by simp [lZ,hasB]
 |p::l,R,j,h,h2,hp=>by
  have h3:=Ad l (R.set p.toNat true) j (by simpa using h) h2 fun q hq=>hp q (qk8 _ hq);have h0:=hp p aC;show (lZ (R.set p.toNat true) l)[j]=_;rw [h3,List.getElem_set];split
  ·rename_i e
   have:hasB (p::l) (j:Int)=true:=(ev _ _).mpr (by rw [qc2];exact .inl ak)
   rw [this];simp
  rename_i e
  have:hasB (p::l) (j:Int)=hasB l (j:Int):=by rw [qf7,ev,ev,qc2];exact ⟨fun h=>h.elim (fun h=>absurd h ak) id,.inr⟩
  rw [this]
variable {AL H:List bG} {R:List Bool}
theorem IU (h:BA AL R H) {pre pre':List bG} (hs:∀ z,z∈pre'↔z∈pre) (hin:∀ z∈pre',z∈AL):(lP AL pre).any (qP R)= !(pre'.all (fY H)):=by
 have key:(lP AL pre).any (qP R)=false↔pre'.all (fY H)=true:=by
  rw [qi6,qc8];constructor
  ·intro hf z hz
   obtain ⟨j,hj,rfl⟩:=qa9 (hin z hz);have h1:=hf (j:Int) (oY.2 ⟨j,hj,rfl,by rw [bq hj];exact ga.2 ((hs _).1 hz)⟩);rw [qP,ql0,bq (by rw [h.1];exact hj),h.2 j hj (by rw [h.1];exact hj)] at h1;simpa using h1
  intro ha p hp;obtain ⟨j,hj,rfl,hq⟩:=oY.1 hp;rw [bq hj] at hq;have h1:=ha AL[j] ((hs _).2 (ga.1 hq));rw [qP,ql0,bq (by rw [h.1];exact hj),h.2 j hj (by rw [h.1];exact hj),h1];simp
 cases hq:pre'.all (fY H) with
 |true=>rw [key.2 hq];rfl
 |false=>
  cases hz:(lP AL pre).any (qP R) with
  |true=>rfl
  |false=>rw [key.1 hz] at hq;cases hq
theorem Md (h:BA AL R H) {add add':List bG} (hs:∀ z,z∈add'↔z∈add):BA AL (lZ R (lP AL add)) (H++add'):=by
 refine ⟨by rw [vw];exact h.1,fun j hj h2=>?_⟩;rw [Ad _ R j (by rw [h.1];exact hj) h2 (fun p hp=>(oS hp).1),h.2 j hj (by rw [h.1];exact hj)];rw [qf7,qe0,ga,ga,ev,qe4,hs,oY];constructor
 ·rintro (h1|⟨i,hi,e,hq⟩)
  ·exact .inl h1
  obtain rfl:i=j:=by omega
  rw [bq hj] at hq;exact .inr (ga.1 hq)
 rintro (h1|h1)
 ·exact .inl h1
 exact .inr ⟨j,hj,rfl,by rw [bq hj];exact ga.2 h1⟩
theorem wY (l x:List bG):isSet (lP l x) l.length=true:=by
 rw [ct];refine ⟨fun p hp=>oS hp,?_⟩;have key:∀ k,(jq l x k).Pairwise (· < ·):=fun k=>by
  induction k with
  |zero=>exact List.Pairwise.nil
  |succ k ih=>
   rw [jq,List.pairwise_append];refine ⟨ih,by split<;>simp,fun a ha b hb=>?_⟩;have:=oS ha;split at hb
   ·rw [qd7] at hb;omega
   cases hb
 exact key _
theorem Pd (d:cR) (l:List bG):isSet (oQ d l l.length) l.length=true:=by
 have yK:∀ k p,p∈oQ d l k→0≤p∧p < (k:Int):=fun k=>by
  induction k with
  |zero=>intro p h;cases h
  |succ k ih=>
   intro p h;rw [oQ,qe4] at h;rcases h with h|h
   ·have:=ih p h;omega
   split at h
   ·rw [qd7] at h;omega
   cases h
 rw [ct];refine ⟨fun p hp=>yK _ p hp,?_⟩;have key:∀ k,(oQ d l k).Pairwise (· < ·):=fun k=>by
  induction k with
  |zero=>exact List.Pairwise.nil
  |succ k ih=>
   rw [oQ,List.pairwise_append];refine ⟨ih,by split<;>simp,fun a ha b hb=>?_⟩;have:=yK _ a ha;split at hb
   ·rw [qd7] at hb;omega
   cases hb
 exact key _
theorem Pe {s:eg} {z:bG} (h1:z∈Iu args s) (h2:z∈Iv args s):False:=by
 rw [Iu,qe4,qe7,qe7] at h1;rw [Iv,qe4,qe7,qe7] at h2;have no:∀ a,a∈j4 args s.add→a∈eO (j4 args s.add) (j4 args s.del)→False:=fun a ha hm=>by
  have:=(qh1.1 hm).2;rw [yz.2 ha] at this;cases this
 rcases h1 with ⟨a,ha,rfl⟩|⟨a,ha,rfl⟩<;>rcases h2 with ⟨b,hb,e⟩|⟨b,hb,e⟩
 ·injection e with e1;cases e1
 ·injection e with _ e2;subst e2;exact no _ ha hb
 ·injection e with _ e2;subst e2;exact no _ hb ha
 injection e with e1;cases e1
theorem Me:∀ {k:Nat},x∈qi d k→∀ z,z∈x.add→z∈x.del→False:=fun {k} h=>by
 rw [qi,qh0] at h;obtain ⟨p,_,h⟩:=h;rw [qh0] at h;obtain ⟨args,_,h⟩:=h;unfold vt at h;split at h
 ·cases h
 split at h
 ·cases h
 rw [qd7] at h;subst h;exact fun z=>Pe
theorem Kc (h:AJ d=(0,0)):cK (F6 d).t=(0,0):=by
 obtain ⟨hv,h1,h2,h3⟩:=Ma h;refine iJ.2 ⟨Int.natCast_nonneg _,by show ((jC d).length:Int)≤24;omega,Pd d _,wY _ _,by show ((nK d).map _).length≤40;rw [qa2];exact h3,fun o ho=>⟨?_,DL h o ho⟩⟩;have ho2:o∈(nK d).map (wE (jC d)):=ho;obtain ⟨x,hx,rfl⟩:=qe7.1 ho2;have hd:=Me (yC (l:=jc d) (qb3 _) hx);show mj (wE (jC d) x) (jC d).length=true;unfold mj wE;simp only [qa1];refine ⟨⟨⟨wY _ _,wY _ _⟩,wY _ _⟩,im.2 fun p hp hq=>?_⟩;obtain ⟨i,hi,rfl,h4⟩:=oY.1 hp;obtain ⟨j,hj,e,h5⟩:=oY.1 hq;obtain rfl:j=i:=by omega
 exact hd _ (ga.1 h4) (ga.1 h5)
end
section
attribute [local irreducible] dP fv mu lV dj PV ff ew AW bm da en dQ cX Ab.Fin fi er gF iN RV kh Le eV fL ma iG kM dJ dt
set_option maxHeartbeats 4000000
attribute [local go_sem] ec fm
theorem Mf (l:List Int) (n:Int) (hl:l.length≤1000):bm prog 102 [ints l,.int n] (fun r=>r=ints (l++[n])):=by
 refine bc func102 ntmps102 ?_;(repeat' (first|refine bu (fun K hK=>?_);(first|(refine mr (d:=some 6) (yg 6000 _) aR (by first|exact jE al|(intro id hid;simp only [qc2,qf9,or_false] at hid;rcases hid with rfl|rfl|rfl|rfl<;>first|rfl|(simp only [go_sem,seval];done)|(simp only [St.free,cz,go_sem,seval];done)|(simp only [go_sem,seval];rfl)|(simp [St.free,cz,AV.bz,AV.cq];try exact ef _ _ _ fun _=>rfl))) (fun x hp hx=>?_);obtain ⟨rfl,rfl⟩:=hx)|refine ck ?_)|intro (K:St→Prop) hK|intro hc|(refine Gf 99 ?_ ?_ ?_ ?_<;>try exact VX)|fail));refine kj (l++[n]) rfl (by first|rfl|(simp only [qa3,qb4];rfl)) (by first|rfl|(simp only [qb5,qd4,qg5];rfl)) rfl (fun _=>rfl) (fun _=>rfl) rfl
abbrev GI (l:List (List Int)):AV:=.cD 1 24 (l.map ints)
theorem rD (l:List (List Int)):(l.map ints).flatMap AV.cells=l.map ints:=by rw [qg9];induction l with
 |nil=>rfl
 |cons a l ih=>rw [qd5,ih];rfl
theorem Pf {f:List AV} {hp:Hp} (i:Nat) {x y:AV} (hx:f[i]?=some x) (h:iO x y):Le ⟨f,hp⟩ ⟨f.set i y,hp⟩:=by
 unfold Le;intro R β G a w hr;refine ⟨β,G,hr.defers,by simpa using hr.size,fun j x' y' hj hy=>?_,hr.hp⟩;rw [qi2] at hj;by_cases hij:i=j
 ·subst hij
  simp only [if_true] at hj;split at hj<;>simp at hj;subst hj;exact h _ _ _ (hr.fr i _ y' hx hy)
 simp only [hij,if_false] at hj;exact hr.fr j x' y' hj hy
def Mg (d:cR) (t:Int) (l:List (List Int)):List (List Int):=l.flatMap fun x=>(lM d t).map fun o=>x++[o]
theorem Pg (d:cR) (t:Int) (l:List (List Int)):(Mg d t l).length=l.length * (lM d t).length:=vv _ _ (fun _=>by rw [qa2]) l
theorem Mh {d:cR} {t:Int} {l:List (List Int)} {j:Nat} (h:j < l.length):Mg d t (l.take (j+1))=Mg d t (l.take j)++(lM d t).map fun o=>l[j]++[o]:=by
 rw [qa5 h,Mg,qd8];simp [Mg]
theorem Mi {d:cR} {w:List Int} {i:Nat} (h:i < w.length):kO d (w.take (i+1))=Mg d w[i] (kO d (w.take i)):=by
 rw [qa5 h,DM];rfl
theorem uE {d:cR} (h8:d.dg.length≤8) {w:List Int} (hw:w.length≤3):(kO d w).length≤512:=
 qd3 (Be d h8 w) (qd3 (qk7 aB hw) aB)
def I4 (X:List (List Int)) (c:List Int) (O:List Int) (k:Nat):List (List Int):=X++(O.take k).map fun o=>c++[o]
theorem Mj (X:List (List Int)) (c O:List Int):I4 X c O 0=X:=by simp [I4]
theorem Mk {X:List (List Int)} {c O:List Int} {k:Nat} (h:k < O.length):I4 X c O (k+1)=I4 X c O k++[c++[O[k]]]:=by
 rw [I4,qa5 h,qb5,← qd6];rfl
theorem Ph (X:List (List Int)) (c O:List Int):I4 X c O O.length=X++O.map fun o=>c++[o]:=by rw [I4,qd2]
theorem Pj (X:List (List Int)) (c O:List Int) (k:Nat):(I4 X c O k).length≤X.length+k:=by
 rw [I4,qa3,qa2,qc0];omega
theorem DP (d:cR) (w:List Int) (hl:nZ d.types) (ho:nB d.types d.dg) (h8:d.dg.length≤8) (hw:w.length≤3):bm prog 44 [d.av,ints w] (fun r=>r=GI (kO d w)):=by
 have hof:=fun t=>nH d.types d.dg t d.dg.length;have hL:=fun i=>uE (d:=d) h8 (w:=w.take i) (by rw [qc0];omega);have hst:=fun {i} h=>@Mi d w i h;have hoe:∀ t,wB d.types d.dg t d.dg.length=lM d t:=fun _=>rfl;have hz:kO d (w.take 0)=[[]]:=rfl;have hend:kO d (w.take w.length)=kO d w:=by rw [qd2]
 have hel:=Pg d;have hex:=@Mh d;have hml:∀ i,∀ x∈kO d (w.take i),x.length≤3:=fun i x hx=>by
  have:=(rE.1 hx).1;rw [this,qc0];omega
 have hm:=fun t=>OV d.types d.dg t hl ho h8;simp only [hoe] at hof hm;obtain ⟨ty,ob,pr,sc,cB,go⟩:=d;simp only at hof hL h8 hm;generalize kO ⟨ty,ob,pr,sc,cB,go⟩ w=R at *;refine bc func44 ntmps44 ?_;refine Go (fun K hK=>?_) VX VX VX;refine cE (Pf 5 rfl (iO.cD (sz:=1) (bw:=24) (es:=[.fO]) (fs:=[ints []]) rfl (by simp [AV.cells]) ⟨iO.nil 1 8,trivial⟩)) ?_;refine ba [5,6,7,8,9,10,12,13,14,15,16,17,18,19,20,21,22,23,24,25,26,27,28,29,30,31,32,33,34,35,36,37,38,39,40,41,42,43,44,45,46,47,48,49,50,51] (fun i:Nat=>i≤w.length) (fun i=>w.length - i) (fun i=>[(6,.int i),(5,GI (kO ⟨ty,ob,pr,sc,cB,go⟩ (w.take i)))]) (fun _=>[(2,⟨29,[cW ty,cW ob,cY pr,dV sc,bQ cB,b9 go],true⟩)]) 0 (qc6 _) ?_ ?_
 ·refine bA ?_
  exact aZ
 rintro i hi K hK;refine bA ?_;by_cases hlt:i < w.length
 ·have hs:=hst hlt
  have hmi:=hm w[i];have hoi:=hof w[i];have hli:=hL i;have hsl:=hL (i+1);have hm3:=hml i;rw [hs] at hsl;have he2:=hel w[i] (kO ⟨ty,ob,pr,sc,cB,go⟩ (w.take i));have hxs:=fun {j} h=>@hex w[i] (kO ⟨ty,ob,pr,sc,cB,go⟩ (w.take i)) j h;have htl:=fun j=>hel w[i] ((kO ⟨ty,ob,pr,sc,cB,go⟩ (w.take i)).take j);have hdf:∀ l,Mg ⟨ty,ob,pr,sc,cB,go⟩ w[i] l=Mg ⟨ty,ob,pr,sc,cB,go⟩ w[i] l:=fun _=>rfl;generalize lM ⟨ty,ob,pr,sc,cB,go⟩ w[i]=O at *;generalize kO ⟨ty,ob,pr,sc,cB,go⟩ (w.take i)=C at *;(repeat' (first|refine gD 5 ?_;refine dK (.r 0 8 (.it 8 1 (.it 9 0 .nil))) ?_|refine dH 101 ?_;refine bB (hmi) ?_|intro (K:St→Prop) hK|intro hc|(refine Gf 7 ?_ ?_ ?_ ?_<;>try exact VX)|fail));refine fD 8 100 1 24 35 ?_;refine Go ?_ VX VX VX;refine ba [8,9,10,27,28,29,30,31,32,33,34,35,36,37,38,39,40,41,42,43,44,45,46,47,48,49,50] (fun j:Nat=>j≤C.length) (fun j=>C.length - j) (fun j=>[(9,.int j),(8,.sl 1 24 100 0 (Mg ⟨ty,ob,pr,sc,cB,go⟩ w[i] (C.take j)).length)]) (fun j=>[(2,⟨29,[cW ty,cW ob,cY pr,dV sc,bQ cB,b9 go],true⟩),(100,⟨35,(Mg ⟨ty,ob,pr,sc,cB,go⟩ w[i] (C.take j)).map ints,false⟩)]) 0 (qc6 _) ?_ ?_
  ·refine bA ?_
   exact aZ
  rintro j hj K hK;refine bA ?_;by_cases hjl:j < C.length
  ·have hx2:=hxs hjl
   have htj:=htl j;have htj2:=htl (j+1);have hle3:=hm3 _ (qa4 hjl);have hmul:(C.take j).length * O.length≤512 * 8:=Nat.mul_le_mul (by rw [qc0];omega) ak;generalize hX:Mg ⟨ty,ob,pr,sc,cB,go⟩ w[i] (C.take j)=X at *;refine Go (fun hc K hK=>?_) VX VX VX;refine ba [8,10,33,34,35,36,37,38,39,40,41,42,43,44,45,46,47,48,49,50] (fun k:Nat=>k≤O.length) (fun k=>O.length - k) (fun k=>[(10,.int k),(8,.sl 1 24 100 0 (I4 X C[j] O k).length)]) (fun k=>[(2,⟨29,[cW ty,cW ob,cY pr,dV sc,bQ cB,b9 go],true⟩),(100,⟨35,(I4 X C[j] O k).map ints,false⟩)]) 0 (qc6 _) ?_ ?_
   ·rw [Mj]
    refine bA ?_;exact aZ
   rintro k hk K hK;refine bA ?_;by_cases hkk:k < O.length
   ·have hmo:=Mf C[j] O[k] ak
    have hst2:=Mk (X:=X) (c:=C[j]) hkk;have hyl:=Pj X C[j] O k;generalize I4 X C[j] O k=Y at *;(repeat' (first|refine gD 13 ?_;refine dK (.r 0 9 (.it 9 1 (.it 10 1 (.it 11 3 (.it 12 1 .nil))))) ?_|refine dH 102 ?_;refine bB (hmo) ?_|refine c8 (fun K hK=>?_);refine cN (d:=49) aJ aR aR aR aR ?_|refine yP ?_;refine nR ?_|refine fQ (fun K hK=>?_);refine ck ?_|intro (K:St→Prop) hK|intro hc|(refine rh 99 ?_ ?_ ?_ ?_<;>try exact VX)|fail));refine ⟨k+1,by omega,by omega,?_⟩;rw [hst2,qa3,qb4,qb5];refine bA ?_;exact aZ
   obtain rfl:k=O.length:=by omega
   rw [Ph,← hx2];refine iy (fun hc K hK=>?_) VX VX VX;(refine ⟨j+1,by omega,by omega,?_⟩;(refine bA ?_);(exact aZ))
  obtain rfl:j=C.length:=by omega
  rw [qd2,← hs];rw [← hs] at hsl;generalize hDe:kO ⟨ty,ob,pr,sc,cB,go⟩ (w.take (i+1))=D at *;refine HA 14 (fun hc K hK=>?_) VX VX VX;(refine cE (cV (f:=ints) 100 1 24 D.length D aR (rD _) aN (fun _=>rfl) (fun _=>rfl) ak) ?_;try simp only [go_sem,seval]);refine iy ?_ VX VX VX;refine ⟨i+1,by omega,by omega,?_⟩;rw [hDe];refine bA ?_;exact aZ
 obtain rfl:i=w.length:=by omega
 rw [hend];refine iy (fun hc K hK=>?_) VX VX VX;refine VY ?_;rfl
theorem wZ {d:cR} (h:zE d):∀ k,k≤d.bV.length→(kD d k).length≤k * 512
 |0,_=>by simp [kD]
 |k+1,hk=>by
  have h1:=wZ h k ak;have hp:=h.Ua d.bV[k] (qa4 ak);have h2:=uE (d:=d) h.o8 hp.1;rw [lH,qa3,qa2,bq (show k < d.bV.length by omega)];omega
def I5 (A:List br) (p:Nat) (C:List (List Int)) (k:Nat):List br:=A++(C.take k).map fun a=>⟨(p:Int),a⟩
theorem Ml (A:List br) (p:Nat) (C:List (List Int)):I5 A p C 0=A:=by simp [I5]
theorem Mm {A:List br} {p:Nat} {C:List (List Int)} {k:Nat} (h:k < C.length):I5 A p C (k+1)=I5 A p C k++[⟨(p:Int),C[k]⟩]:=by
 rw [I5,qa5 h,qb5,← qd6];rfl
theorem Pk (A:List br) (p:Nat) (C:List (List Int)) (k:Nat):(I5 A p C k).length≤A.length+k:=by
 rw [I5,qa3,qa2,qc0];omega
theorem Pl (d:cR) {k:Nat} (h:k < d.bV.length):I5 (kD d k) k (kO d d.bV[k].ts) (kO d d.bV[k].ts).length=kD d (k+1):=by
 rw [I5,qd2,lH,bq h]
theorem GP (d:cR) (h:zE d):bm prog 41 [d.av] (fun r=>r=bQ (kD d d.bV.length)):=by
 have hp:=h.Ua;have hal:=fun k hk=>wZ h k hk;have hpa:=@Pl d;have hag:=fun w hw=>DP d w h.Ig h.obj h.o8 hw;have hcl:=fun w hw=>uE (d:=d) (w:=w) h.o8 hw;have hp8:=h.p8;clear h;obtain ⟨ty,ob,pr,sc,cB,go⟩:=d;simp only at hp hal hpa hp8 ⊢;refine bc func41 ntmps41 ?_;refine Go (fun K hK=>?_) VX VX VX;refine fD 3 100 2 32 66 ?_;refine ba [3,4,5,6,7,8,9,10,11,12,13,14,15,16,17,18,19,20,21,22,23,24,25,26,27,28,29,30,31,32,33,34,35,36] (fun k:Nat=>k≤pr.length) (fun k=>pr.length - k) (fun k=>[(4,.int k),(3,.sl 2 32 100 0 (kD ⟨ty,ob,pr,sc,cB,go⟩ k).length)]) (fun k=>[(1,⟨29,[cW ty,cW ob,cY pr,dV sc,bQ cB,b9 go],true⟩),(100,⟨66,E8 (kD ⟨ty,ob,pr,sc,cB,go⟩ k),false⟩)]) 0 (qc6 _) ?_ ?_
 ·refine bA ?_
  exact aZ
 rintro p hk K hK;refine bA ?_;by_cases hlt:p < pr.length
 ·have hts:=(hp _ (qa4 hlt)).1
  have ha:=hag _ hts;have hc:=hcl _ hts;have hpp:=hpa hlt;have hl1:=hal p ak;generalize kO ⟨ty,ob,pr,sc,cB,go⟩ pr[p].ts=C at *;generalize kD ⟨ty,ob,pr,sc,cB,go⟩ p=A at *;(repeat' (first|refine gD 5 ?_;refine dK (.r 0 7 (.it 7 1 (.it 8 0 .nil))) ?_|refine dH 44 ?_;refine bB (ha) ?_|intro (K:St→Prop) hK|intro hc|(refine Gf 99 ?_ ?_ ?_ ?_<;>try exact VX)|fail));refine ba [3,6,22,23,24,25,26,27,28,29,30,31,32,33,34,35,36] (fun k:Nat=>k≤C.length) (fun k=>C.length - k) (fun k=>[(6,.int k),(3,.sl 2 32 100 0 (I5 A p C k).length)]) (fun k=>[(1,⟨29,[cW ty,cW ob,cY pr,dV sc,bQ cB,b9 go],true⟩),(100,⟨66,E8 (I5 A p C k),false⟩)]) 0 (qc6 _) ?_ ?_
  ·rw [Ml]
   refine bA ?_;exact aZ
  rintro k hk K hK;refine bA ?_;by_cases hkk:k < C.length
  ·have hst2:=Mm (A:=A) (p:=p) hkk
   have hyl:=Pk A p C k;generalize I5 A p C k=Y at *;refine Go (fun _ hc=>?_) VX VX VX;refine ⟨k+1,by omega,by omega,?_⟩;rw [hst2,qa3,qb4];refine bA ?_;exact aZ
  obtain rfl:k=C.length:=by omega
  rw [hpp];refine iy (fun hc K hK=>?_) VX VX VX;(refine ⟨p+1,by omega,by omega,?_⟩;(refine bA ?_);(exact aZ))
 obtain rfl:p=pr.length:=by omega
 generalize kD ⟨ty,ob,pr,sc,cB,go⟩ pr.length=A at *;refine HA 10 (fun hc K hK K hK=>?_) VX VX VX;(refine cE (cV (f:=br.av) 100 2 32 A.length A aR (mS _) aN (fun _=>rfl) (fun _=>rfl) ak) ?_;try simp only [go_sem,seval]);refine Go ?_ VX VX VX;refine VY ?_;rfl
theorem GQ (d:cR) (p:Int):bm prog 42 [d.av,.int p] (fun r=>r= .bool (hasB (fX d) p)):=by
 obtain ⟨ty,ob,pr,sc,cB,go⟩:=d;have hy:p∈fX ⟨ty,ob,pr,sc,cB,go⟩→hasB (fX ⟨ty,ob,pr,sc,cB,go⟩) p=true:=(ev _ _).mpr;have hz:¬p∈fX ⟨ty,ob,pr,sc,cB,go⟩→hasB (fX ⟨ty,ob,pr,sc,cB,go⟩) p=false:=(ky _ _).mpr;have hF:p∈fX ⟨ty,ob,pr,sc,cB,go⟩↔(∃ x∈go,x.x.p=p)∨∃ s∈sc,(∃ x∈s.add,x.p=p)∨∃ x∈s.del,x.p=p:=by simp only [fX,qe4,qe7,qh0]
 rw [hF] at hy hz;clear hF;generalize hasB (fX ⟨ty,ob,pr,sc,cB,go⟩) p=R at *;refine bc func42 ntmps42 ?_;refine Gx 1 (fun K hK K hK=>?_) VX VX VX;(refine dZ (id:=2) (j:=3) rfl rfl (fun hbs=>?_);(try simp only [qa2] at hbs));(refine dZ (id:=2) (j:=5) rfl rfl (fun hbg=>?_);(try simp only [qa2] at hbg));refine Go ?_ VX VX VX;refine ba [4,5,10,11,12,13,14,15,16,17,18,19,20,21,22,23,24,25] (fun k:Nat=>k≤go.length∧∀ i (hi:i < go.length),i < k→¬go[i].x.p=p) (fun k=>go.length - k) (fun k=>[(5,.int k)]) (fun _=>[(2,⟨29,[cW ty,cW ob,cY pr,dV sc,bQ cB,b9 go],true⟩)]) 0 ⟨by omega,by omega⟩ ?_ ?_
 ·refine bA ?_
  exact aZ
 rintro k ⟨hk,hn⟩ K hK;refine bA ?_;by_cases hlt:k < go.length
 ·refine Go (fun _ hc hc K hK=>?_) (fun _ hc hc=>?_) VX VX
  ·refine VY ?_
   rw [hy (.inl ⟨_,qa4 hlt,by assumption⟩)]
  (refine ⟨k+1,⟨by omega,cj hn fun _=>by assumption⟩,by omega,?_⟩;(refine bA ?_);(exact aZ))
 have hg:¬∃ x∈go,x.x.p=p:=by rintro ⟨x,hx,e⟩;obtain ⟨i,hi,rfl⟩:=qa9 hx;exact hn i hi ak e
 clear hn;refine iy (fun hc K hK K hK=>?_) VX VX VX;refine ba [4,6,7,8,9,26,27,28,29,30,31,32,33,34,35,36,37,38,39,40,41,42,43,44,45,46,47,48,49,50,51,52,53,54,55,56,57,58,59,60,61,62,63,64,65,66,67] (fun k:Nat=>k≤sc.length∧∀ i (hi:i < sc.length),i < k→¬((∃ x∈sc[i].add,x.p=p)∨∃ x∈sc[i].del,x.p=p)) (fun k=>sc.length - k) (fun k=>[(6,.int k)]) (fun _=>[(2,⟨29,[cW ty,cW ob,cY pr,dV sc,bQ cB,b9 go],true⟩)]) 0 ⟨by omega,by omega⟩ ?_ ?_
 ·refine bA ?_
  exact aZ
 rintro k ⟨hk,hn⟩ K hK;refine bA ?_;by_cases hlt:k < sc.length
 ·have hys:((∃ x∈sc[k].add,x.p=p)∨∃ x∈sc[k].del,x.p=p)→R=true:=fun h=>hy (.inr ⟨_,qa4 hlt,h⟩)
  have hns:=@cj sc.length k (fun i hi=>¬((∃ x∈sc[i].add,x.p=p)∨∃ x∈sc[i].del,x.p=p)) hn;clear hn hy hz;refine Gx 10 (fun _ hc K hK K hK K hK=>?_) VX VX VX;generalize hsk:sc[k]=s at *;obtain ⟨nm,ts,df,pre,ad,de,co⟩:=s;simp only at hys hns;(refine dZ (id:=7) (j:=4) rfl rfl (fun hba=>?_);(try simp only [qa2] at hba));(refine dZ (id:=7) (j:=5) rfl rfl (fun hbd=>?_);(try simp only [qa2] at hbd));refine Go ?_ VX VX VX;refine ba [4,8,38,39,40,41,42,43,44,45,46,47,48,49,50,51,52] (fun j:Nat=>j≤ad.length∧∀ i (hi:i < ad.length),i < j→¬ad[i].p=p) (fun j=>ad.length - j) (fun j=>[(8,.int j)]) (fun _=>[(2,⟨29,[cW ty,cW ob,cY pr,dV sc,bQ cB,b9 go],true⟩),(7,⟨100,[str nm,ints ts,qg df,b9 pre,bQ ad,bQ de,.int co],true⟩)]) 0 ⟨by omega,by omega⟩ ?_ ?_
  ·refine bA ?_
   exact aZ
  rintro j ⟨hj,hm⟩ K hK;refine bA ?_;by_cases hjl:j < ad.length
  ·refine Go (fun _ hc hc K hK=>?_) (fun _ hc hc=>?_) VX VX
   ·refine VY ?_
    rw [hys (.inl ⟨_,qa4 hjl,by assumption⟩)]
   (refine ⟨j+1,⟨by omega,cj hm fun _=>by assumption⟩,by omega,?_⟩;(refine bA ?_);(exact aZ))
  have hga:¬∃ x∈ad,x.p=p:=by rintro ⟨x,hx,e⟩;obtain ⟨i,hi,rfl⟩:=qa9 hx;exact hm i hi ak e
  clear hm;refine iy (fun hc K hK=>?_) VX VX VX;refine ba [4,9,53,54,55,56,57,58,59,60,61,62,63,64,65,66,67] (fun j:Nat=>j≤de.length∧∀ i (hi:i < de.length),i < j→¬de[i].p=p) (fun j=>de.length - j) (fun j=>[(9,.int j)]) (fun _=>[(2,⟨29,[cW ty,cW ob,cY pr,dV sc,bQ cB,b9 go],true⟩),(7,⟨100,[str nm,ints ts,qg df,b9 pre,bQ ad,bQ de,.int co],true⟩)]) 0 ⟨by omega,by omega⟩ ?_ ?_
  ·refine bA ?_
   exact aZ
  rintro j ⟨hj,hm⟩ K hK;refine bA ?_;by_cases hjl:j < de.length
  ·refine Go (fun _ hc hc K hK=>?_) (fun _ hc hc=>?_) VX VX
   ·refine VY ?_
    rw [hys (.inr ⟨_,qa4 hjl,by assumption⟩)]
   (refine ⟨j+1,⟨by omega,cj hm fun _=>by assumption⟩,by omega,?_⟩;(refine bA ?_);(exact aZ))
  have hgd:¬∃ x∈de,x.p=p:=by rintro ⟨x,hx,e⟩;obtain ⟨i,hi,rfl⟩:=qa9 hx;exact hm i hi ak e
  refine iy (fun hc K hK=>?_) VX VX VX;(refine ⟨k+1,⟨by omega,hns fun _=>by rw [hsk];exact fun h=>h.elim hga hgd⟩,by omega,?_⟩;(refine bA ?_);(exact aZ))
 have hs:¬∃ s∈sc,(∃ x∈s.add,x.p=p)∨∃ x∈s.del,x.p=p:=by rintro ⟨x,hx,e⟩;obtain ⟨i,hi,rfl⟩:=qa9 hx;exact hn i hi ak e
 refine iy (fun hc K hK=>?_) VX VX VX;refine VY ?_;rw [hz fun h=>h.elim hg hs]
theorem Pm (d:cR) (p:Int):bm prog 43 [d.av,.int p] (fun r=>r= .bool (hasB (nf d) p)):=by
 obtain ⟨ty,ob,pr,sc,cB,go⟩:=d;have hy:p∈nf ⟨ty,ob,pr,sc,cB,go⟩→hasB (nf ⟨ty,ob,pr,sc,cB,go⟩) p=true:=(ev _ _).mpr;have hz:¬p∈nf ⟨ty,ob,pr,sc,cB,go⟩→hasB (nf ⟨ty,ob,pr,sc,cB,go⟩) p=false:=(ky _ _).mpr;have hL:∀ l:List bG,p∈mO l↔∃ x∈l,x.neg=true∧x.x.p=p:=fun l=>by
  rw [mO,qh0];refine exists_congr fun x=>and_congr_right fun _=>?_;by_cases h:x.neg=true
  ·rw [if_pos h,qd7];exact ⟨fun e=>⟨h,e.symm⟩,fun e=>e.2.symm⟩
  rw [if_neg h];exact ⟨fun e=>(by cases e),fun e=>absurd e.1 h⟩
 have hF:p∈nf ⟨ty,ob,pr,sc,cB,go⟩↔(∃ x∈go,x.neg=true∧x.x.p=p)∨∃ s∈sc,∃ x∈s.pre,x.neg=true∧x.x.p=p:=by simp only [nf,qe4,qh0,hL]
 rw [hF] at hy hz;clear hF hL;generalize hasB (nf ⟨ty,ob,pr,sc,cB,go⟩) p=R at *;refine bc func43 ntmps43 ?_;refine Gx 1 (fun K hK K hK=>?_) VX VX VX;(refine dZ (id:=2) (j:=3) rfl rfl (fun hbs=>?_);(try simp only [qa2] at hbs));(refine dZ (id:=2) (j:=5) rfl rfl (fun hbg=>?_);(try simp only [qa2] at hbg));refine Go ?_ VX VX VX;refine ba [4,5,8,9,10,11,12,13,14,15,16,17,18,19,20,21,22,23,24,25,26,27,28,29,30,31] (fun k:Nat=>k≤go.length∧∀ i (hi:i < go.length),i < k→¬(go[i].neg=true∧go[i].x.p=p)) (fun k=>go.length - k) (fun k=>[(5,.int k)]) (fun _=>[(2,⟨29,[cW ty,cW ob,cY pr,dV sc,bQ cB,b9 go],true⟩)]) 0 ⟨by omega,by omega⟩ ?_ ?_
 ·refine bA ?_
  exact aZ
 rintro k ⟨hk,hn⟩ K hK;refine bA ?_;by_cases hlt:k < go.length
 ·refine Go (fun _ _ hc hc hc K hK=>?_) (fun _ _ hc hc hc=>?_) (fun _ hc hc=>?_) VX
  all_goals first
   |((refine VY ?_);rw [hy (.inl ⟨_,qa4 hlt,by assumption,by assumption⟩)];done)
   |(refine ⟨k+1,⟨by omega,cj hn fun _ h=>?_⟩,by omega,?_⟩;rotate_left;((refine bA ?_);(exact aZ)))
  all_goals (first|exact absurd h.2 aE|exact absurd h.1 (by simp only [*];exact Bool.noConfusion))
 have hg:¬∃ x∈go,x.neg=true∧x.x.p=p:=by rintro ⟨x,hx,e⟩;obtain ⟨i,hi,rfl⟩:=qa9 hx;exact hn i hi ak e
 clear hn;refine iy (fun hc K hK K hK=>?_) VX VX VX;refine ba [4,6,7,32,33,34,35,36,37,38,39,40,41,42,43,44,45,46,47,48,49,50,51,52,53,54,55,56,57,58,59,60,61,62,63,64,65,66,67,68,69,70,71,72,73,74] (fun k:Nat=>k≤sc.length∧∀ i (hi:i < sc.length),i < k→¬(∃ x∈sc[i].pre,x.neg=true∧x.x.p=p)) (fun k=>sc.length - k) (fun k=>[(6,.int k)]) (fun _=>[(2,⟨29,[cW ty,cW ob,cY pr,dV sc,bQ cB,b9 go],true⟩)]) 0 ⟨by omega,by omega⟩ ?_ ?_
 ·refine bA ?_
  exact aZ
 rintro k ⟨hk,hn⟩ K hK;refine bA ?_;by_cases hlt:k < sc.length
 ·have hys:(∃ x∈sc[k].pre,x.neg=true∧x.x.p=p)→R=true:=fun h=>hy (.inr ⟨_,qa4 hlt,h⟩)
  have hns:=@cj sc.length k (fun i hi=>¬(∃ x∈sc[i].pre,x.neg=true∧x.x.p=p)) hn;clear hn hy hz;refine Go (fun hc K hK=>?_) VX VX VX;refine ba [4,7,39,40,41,42,43,44,45,46,47,48,49,50,51,52,53,54,55,56,57,58,59,60,61,62,63,64,65,66,67,68,69,70,71,72,73,74] (fun j:Nat=>j≤sc[k].pre.length∧∀ i (hi:i < sc[k].pre.length),i < j→¬(sc[k].pre[i].neg=true∧sc[k].pre[i].x.p=p)) (fun j=>sc[k].pre.length - j) (fun j=>[(7,.int j)]) (fun _=>[(2,⟨29,[cW ty,cW ob,cY pr,dV sc,bQ cB,b9 go],true⟩)]) 0 ⟨by omega,by omega⟩ ?_ ?_
  ·refine bA ?_
   exact aZ
  rintro j ⟨hj,hm⟩ K hK;refine bA ?_;by_cases hjl:j < sc[k].pre.length
  ·refine Gx 12 (fun _ hc K hK K hK=>?_) VX VX VX
   (refine bU (i:=45) rfl (fun hbp=>?_);(try simp only [qa2] at hbp));refine Go (fun _ _ _ _ hc hc=>?_) (fun _ _ _ _ hc hc=>?_) (fun _ _ hc=>?_) VX
   all_goals first
    |((refine VY ?_);rw [hys ⟨_,qa4 hjl,by assumption,by assumption⟩];done)
    |(refine ⟨j+1,⟨by omega,cj hm fun _ h=>?_⟩,by omega,?_⟩;rotate_left;((refine bA ?_);(exact aZ)))
   all_goals (first|exact absurd h.2 aE|exact absurd h.1 (by simp only [*];exact Bool.noConfusion))
  have hgd:¬∃ x∈sc[k].pre,x.neg=true∧x.x.p=p:=by rintro ⟨x,hx,e⟩;obtain ⟨i,hi,rfl⟩:=qa9 hx;exact hm i hi ak e
  refine iy (fun _ hc K hK=>?_) VX VX VX;(refine ⟨k+1,⟨by omega,hns fun _=>hgd⟩,by omega,?_⟩;(refine bA ?_);(exact aZ))
 have hs:¬∃ s∈sc,∃ x∈s.pre,x.neg=true∧x.x.p=p:=by rintro ⟨x,hx,e⟩;obtain ⟨i,hi,rfl⟩:=qa9 hx;exact hn i hi ak e
 refine iy (fun hc K hK=>?_) VX VX VX;refine VY ?_;rw [hz fun h=>h.elim hg hs]
theorem yI (d:cR) (x:bG):bm prog 19 [d.av,x.av] (fun r=>r= .bool (pR d x)):=by
 have hh:=DE d.init x.x;obtain ⟨neg,a⟩:=x;unfold pR;obtain ⟨ty,ob,pr,sc,cB,go⟩:=d;simp only at hh ⊢;generalize j8 cB a=b at *;refine bc func19 ntmps19 ?_;(repeat' (first|refine gD 1 ?_;refine dK (.r 0 4 (.r 5 2 (.it 4 1 (.r 7 2 .nil)))) ?_|refine dH 46 ?_;refine bB (hh) ?_|intro (K:St→Prop) hK|intro hc|(refine Gf 99 ?_ ?_ ?_ ?_<;>try exact VX)|fail));refine VY ?_;rfl
theorem u7 {d:cR} (h:(iZ d).1=0):iZ d=(0,0):=by
 unfold iZ at h ⊢;split
 ·rename_i h1
  rw [if_pos h1] at h;exact absurd (yA h) h1
 rename_i h1;rw [if_neg h1] at h;split
 ·rename_i h2
  rw [if_pos h2] at h;exact absurd (z8 h) h2
 rename_i h2;rw [if_neg h2] at h;split
 ·rename_i h3;rw [if_pos h3] at h;cases h
 rename_i h3;rw [if_neg h3] at h;cases hp:bx (vg d) d.bV.length with
 |some q=>
  rw [hp] at h;obtain ⟨i,_,hg⟩:=dh hp;unfold vg at hg;split at hg
  ·rename_i h4;injection hg with hg;subst hg;exact absurd h h4
  cases hg
 |none=>
  rw [hp,qi1] at h;rw [qi1];split
  ·rename_i h4;rw [if_pos h4] at h;cases h
  rename_i h4;rw [if_neg h4] at h;cases hs:bx (vi d) d.cU.length with
  |some q=>
   rw [hs] at h;obtain ⟨i,_,hg⟩:=dh hs;unfold vi at hg;split at hg
   ·rename_i h5;injection hg with hg;subst hg;exact absurd h h5
   cases hg
  |none=>
   rw [hs,qi1] at h;rw [qi1];split
   ·rename_i h5;rw [if_pos h5] at h;exact absurd h h5
   rename_i h5;rw [if_neg h5] at h;split
   ·rename_i h6;rw [if_pos h6] at h;exact absurd h h6
   rfl
def rQ (d:cR):Int×Int:=if iZ d≠(0,0) then iZ d else if (kD d d.bV.length).length≤400 then (0,0) else (10,-8)
theorem GR (d:cR):bm prog 16 [d.av] (fun r=>r=jA (rQ d)):=by
 have hd:=O2 d;have hc:=@u7 d;have hl:=fun h=>wZ (d:=d) h d.bV.length (qb3 _);have ha:=fun h=>GP d h;have hok:=@AS d;unfold rQ;by_cases hv:iZ d=(0,0)
 ·have hD:=hok hv
  have hp8:=hD.p8;have ha:=ha hD;have hl:=hl hD;rw [hv] at hd;rw [if_neg (by simp [hv])];generalize kD d d.bV.length=A at *;refine bc func16 ntmps16 ?_;(repeat' (first|refine gC 40 ?_;refine bg (hd) ?_|refine gC 41 ?_;refine bg (ha) ?_|refine gC 12 ?_;refine We ?_|intro (K:St→Prop) hK|intro hc|(refine Gf 99 ?_ ?_ ?_ ?_<;>try exact VX)|fail))
  ·refine V0 ?_
   rw [if_neg ak];rfl
  refine V0 ?_;rw [if_pos ak];rfl
 have h1:(iZ d).1≠0:=fun h=>hv (hc h);rw [if_pos hv];clear hc ha hl hok;generalize iZ d=p at *;refine bc func16 ntmps16 ?_;(repeat' (first|refine gC 40 ?_;refine bg (hd) ?_|intro (K:St→Prop) hK|intro hc|(refine Gf 99 ?_ ?_ ?_ ?_<;>try exact VX)|fail))
 all_goals (refine V0 ?_)
 all_goals rfl
def Fv (d:cR) (A:List br) (k:Nat):List bG:=((A.take k).filter fun a=>hasB (fX d) a.p).map jB
def I6 (d:cR) (A:List br) (F:List bG) (k:Nat):List bG:=F++((A.take k).filter fun a=>hasB (fX d) a.p&&hasB (nf d) a.p).map e9
theorem Mn {d:cR} {A:List br} {k:Nat} (h:k < A.length):Fv d A (k+1)=Fv d A k++if hasB (fX d) A[k].p=true then [jB A[k]] else []:=by
 rw [Fv,qa5 h,qh6,qb5];congr 1;by_cases h1:hasB (fX d) A[k].p=true<;>simp [h1]
theorem Mo {d:cR} {A:List br} {F:List bG} {k:Nat} (h:k < A.length):I6 d A F (k+1)=I6 d A F k++if (hasB (fX d) A[k].p&&hasB (nf d) A[k].p)=true then [e9 A[k]] else []:=by
 rw [I6,qa5 h,qh6,qb5,← qd6];congr 1;by_cases h1:(hasB (fX d) A[k].p&&hasB (nf d) A[k].p)=true<;>simp [h1]
theorem Pn (d:cR) (A:List br) (k:Nat):(Fv d A k).length≤A.length:=by
 rw [Fv,qa2];exact qd3 (qh8 _ _) (by rw [qc0];omega)
theorem Po (d:cR) (A:List br) (F:List bG) (k:Nat):(I6 d A F k).length≤F.length+A.length:=by
 rw [I6,qa3,qa2];have:=qh8 (fun a:br=>hasB (fX d) a.p&&hasB (nf d) a.p) (A.take k);rw [qc0] at this;omega
theorem RW (d:cR):I6 d (kD d d.bV.length) (Fv d (kD d d.bV.length) (kD d d.bV.length).length) (kD d d.bV.length).length=fq d:=by
 rw [I6,Fv,qd2,fq,By,Bz]
theorem IV (d:cR) (h:zE d):bm prog 17 [d.av] (fun r=>r=b9 (fq d)):=by
 have hl:=wZ (d:=d) h d.bV.length (qb3 _);have hp8:=h.p8;have hl:(kD d d.bV.length).length≤4096:=by omega
 have ha:=GP d h;have hf:=GQ d;have hn:=Pm d;have hfa:=RW d;have s1:=@Mn d (kD d d.bV.length);have s2:=@Mo d (kD d d.bV.length);have l1:=Pn d (kD d d.bV.length);have l2:=Po d (kD d d.bV.length);generalize fq d=R at *;generalize kD d d.bV.length=A at *;obtain ⟨ty,ob,pr,sc,cB,go⟩:=d;refine bc func17 ntmps17 ?_;(repeat' (first|refine gC 41 ?_;refine bg (ha) ?_|intro (K:St→Prop) hK|intro hc|(refine Gf 99 ?_ ?_ ?_ ?_<;>try exact VX)|fail));refine fD 3 100 3 40 68 ?_;refine ba [3,5,9,10,11,12,13,14,15,16,17,18,19,20,21,22,23,24,25,26,27,28,29] (fun k:Nat=>k≤A.length) (fun k=>A.length - k) (fun k=>[(5,.int k),(3,.sl 3 40 100 0 (Fv ⟨ty,ob,pr,sc,cB,go⟩ A k).length)]) (fun k=>[(1,⟨29,[cW ty,cW ob,cY pr,dV sc,bQ cB,b9 go],true⟩),(100,⟨68,(Fv ⟨ty,ob,pr,sc,cB,go⟩ A k).flatMap lN,false⟩)]) 0 (qc6 _) ?_ ?_
 ·refine bA ?_
  exact aZ
 rintro k hk K hK;refine bA ?_;by_cases hlt:k < A.length
 ·have hst:=s1 hlt
  have hfk:=hf A[k].p;have hlk:=l1 k;generalize hasB (fX ⟨ty,ob,pr,sc,cB,go⟩) A[k].p=b at *;generalize Fv ⟨ty,ob,pr,sc,cB,go⟩ A k=X at *;cases b with
  |true=>
   simp only [if_true] at hst;(repeat' (first|refine gD 6 ?_;refine dK (.r 0 6 (.it 6 1 .nil)) ?_|refine dH 42 ?_;refine bB (hfk) ?_|refine bu (fun K hK=>?_);refine ck ?_|intro (K:St→Prop) hK|intro hc|(refine Gf 99 ?_ ?_ ?_ ?_<;>try exact VX)|fail));refine ⟨k+1,by omega,by omega,?_⟩;rw [hst,qa3,qb4];refine bA ?_;exact aZ
  |false=>
   simp only [qa8,if_false,qe5] at hst;(repeat' (first|refine gD 6 ?_;refine dK (.r 0 6 (.it 6 1 .nil)) ?_|refine dH 42 ?_;refine bB (hfk) ?_|intro (K:St→Prop) hK|intro hc|(refine Gf 99 ?_ ?_ ?_ ?_<;>try exact VX)|fail));refine ⟨k+1,by omega,by omega,?_⟩;rw [hst];refine bA ?_;exact aZ
 obtain rfl:k=A.length:=by omega
 have l2:=l2 (Fv ⟨ty,ob,pr,sc,cB,go⟩ A A.length);have l3:=l1 A.length;have s2:=fun {k} h=>@s2 (Fv ⟨ty,ob,pr,sc,cB,go⟩ A A.length) k h;have z2:I6 ⟨ty,ob,pr,sc,cB,go⟩ A (Fv ⟨ty,ob,pr,sc,cB,go⟩ A A.length) 0=Fv ⟨ty,ob,pr,sc,cB,go⟩ A A.length:=by simp [I6]
 clear s1 l1;generalize Fv ⟨ty,ob,pr,sc,cB,go⟩ A A.length=F at *;refine iy (fun hc K hK K hK=>?_) VX VX VX;refine ba [3,6,30,31,32,33,34,35,36,37,38,39,40,41,42,43,44,45,46,47,48,49,50,51,52,53,54,55,56,57,58,59] (fun k:Nat=>k≤A.length) (fun k=>A.length - k) (fun k=>[(6,.int k),(3,.sl 3 40 100 0 (I6 ⟨ty,ob,pr,sc,cB,go⟩ A F k).length)]) (fun k=>[(1,⟨29,[cW ty,cW ob,cY pr,dV sc,bQ cB,b9 go],true⟩),(100,⟨68,(I6 ⟨ty,ob,pr,sc,cB,go⟩ A F k).flatMap lN,false⟩)]) 0 (qc6 _) ?_ ?_
 ·rw [z2]
  refine bA ?_;exact aZ
 rintro k hk K hK;refine bA ?_;by_cases hlt:k < A.length
 ·have hst:=s2 hlt
  have hfk:=hf A[k].p;have hnk:=hn A[k].p;have hlk:=l2 k;generalize hasB (fX ⟨ty,ob,pr,sc,cB,go⟩) A[k].p=b at *;generalize hasB (nf ⟨ty,ob,pr,sc,cB,go⟩) A[k].p=c at *;generalize I6 ⟨ty,ob,pr,sc,cB,go⟩ A F k=X at *;by_cases hbc:(b&&c)=true
  ·rw [if_pos hbc] at hst
   rw [qa1] at hbc;obtain ⟨rfl,rfl⟩:=hbc;(repeat' (first|refine gD 11 ?_;refine dK (.r 0 6 (.it 6 1 (.r 7 7 (.it 14 2 (.it 15 0 .nil))))) ?_|refine dH 42 ?_;refine bB (hfk) ?_|refine dH 43 ?_;refine bB (hnk) ?_|refine bu (fun K hK=>?_);refine ck ?_|intro (K:St→Prop) hK|intro hc|(refine Gf 99 ?_ ?_ ?_ ?_<;>try exact VX)|fail));refine ⟨k+1,by omega,by omega,?_⟩;rw [hst,qa3,qb4];refine bA ?_;exact aZ
  rw [if_neg hbc,qe5] at hst;cases b<;>cases c
  all_goals (try (exfalso;exact hbc rfl))
  all_goals (repeat' (first|refine gD 11 ?_;refine dK (.r 0 6 (.it 6 1 (.r 7 7 (.it 14 2 (.it 15 0 .nil))))) ?_|refine dH 42 ?_;refine bB (hfk) ?_|refine dH 43 ?_;refine bB (hnk) ?_|intro (K:St→Prop) hK|intro hc|(refine Gf 99 ?_ ?_ ?_ ?_<;>try exact VX)|fail))
  all_goals (refine ⟨k+1,by omega,by omega,?_⟩;rw [hst];(refine bA ?_);(exact aZ))
 obtain rfl:k=A.length:=by omega
 rw [hfa];have hRl:=l2 A.length;rw [hfa] at hRl;refine HA 13 (fun hc K hK K hK=>?_) VX VX VX;(refine cE (cV (f:=bG.av) 100 3 40 R.length R aR (dS _) aN (fun _=>rfl) (fun _=>rfl) ak) ?_;try simp only [go_sem,seval]);refine Go ?_ VX VX VX;refine VY ?_;rfl
theorem Pp (x:Int) (args:List Int) (h:-(args.length:Int)≤x):bm prog 155 [.int x,ints args] (fun r=>r= .int (mZ args x)):=by
 have e1:(-x - 1).toNat=(-1 - x).toNat:=by omega
 refine bc func155 ntmps155 ?_;(refine bU (i:=1) rfl (fun hb=>?_);(try simp only [qa2] at hb));refine Go (fun _ hc K hK=>?_) (fun hc=>?_) VX VX
 all_goals (refine VY ?_)
 ·rw [mZ,if_pos ak,← e1,bq ak]
 rw [mZ,if_neg ak]
theorem vB (x:br) (args:List Int) (h:sQ args.length x):bm prog 103 [x.av,ints args] (fun r=>r=(dw args x).av):=by
 obtain ⟨p,a⟩:=x;refine bc func103 ntmps103 ?_;refine Go (fun K hK=>?_) VX VX VX;(refine dZ (id:=2) (j:=1) rfl rfl (fun hba=>?_);(try simp only [qa2] at hba));(refine cE (fe 5 1 100 1 8 3 aR aR al) ?_;simp only [go_sem,seval]);refine ba [6,10,11,12,13,14,15,16,17,18,19,20,21,22,23,24,25,26,27,28] (fun k:Nat=>k≤a.length) (fun k=>a.length - k) (fun k=>[(6,.int k)]) (fun k=>[(2,⟨66,[.int p,ints a],true⟩),(4,⟨66,[.v (.int .i64 0),.v (.slice none 0 0)],true⟩),(5,⟨66,[.int p,.sl 1 8 100 0 k],true⟩),(100,⟨3,((a.take k).map (mZ args)).map AV.int,false⟩)]) 0 ak ?_ ?_
 ·refine bA ?_
  exact aZ
 rintro k hk K hK;refine bA ?_;by_cases hlt:k < a.length
 ·have hv:=Pp a[k] args (h k hlt)
  have hs:(a.take (k+1)).map (mZ args)=(a.take k).map (mZ args)++[mZ args a[k]]:=by rw [qa5 hlt,qb5];rfl
  have hlk:((a.take k).map (mZ args)).length=k:=by simp;omega
  generalize (a.take k).map (mZ args)=l at *;(repeat' (first|refine gD 5 ?_;refine dK (.r 0 8 (.it 8 1 (.it 9 1 (.it 10 3 (.it 11 1 (.it 12 3 .nil)))))) ?_|refine dH 155 ?_;refine bB (hv) ?_|refine c8 (fun K hK=>?_);(first|refine eF (cf aR aR az) ?_|refine cN (d:=26) aJ aR aR aR aR ?_)|refine fQ (fun K hK=>?_);refine ck ?_|refine gO ?_;refine kJ ?_|intro (K:St→Prop) hK|intro hc|(refine rh 99 ?_ ?_ ?_ ?_<;>try exact VX)|fail));refine ⟨k+1,by omega,by omega,?_⟩;rw [hs];refine bA ?_;exact aZ
 obtain rfl:k=a.length:=by omega
 rw [qd2];refine HA 6 (fun hc K hK K hK=>?_) VX VX VX;(refine cE (mv 100 a.length (a.map (mZ args)) aR aN) ?_;simp only [go_sem,seval]);refine Go ?_ VX VX VX;refine V0 ?_;rfl
theorem BB (x:bG):bm prog 104 [x.av] (fun r=>r=(y5 x).av):=by
 refine bc func104 ntmps104 ?_;refine Go ?_ VX VX VX;refine V0 ?_;rfl
end
end Go.Proofs.YtkbiagkbmodgdaaGreat
