/- Part of a proof. No condition. -/
import Derived.Test.YtkbiagkbmodgdaaGreatZph
import Derived.Test.YtkbiagkbmodgdaaGreatZabr
import Derived.Test.YtkbiagkbmodgdaaGreatZdgx
import Derived.Test.YtkbiagkbmodgdaaGreatZdte
import Derived.Test.YtkbiagkbmodgdaaGreatZgg
set_option linter.unusedSimpArgs false
set_option linter.unusedVariables false
namespace Go.Proofs.YtkbiagkbmodgdaaGreat
open Go.Ab
open Go Tryz
set_option maxRecDepth 10000
section
attribute [local irreducible] dP fv mu lV dj PV ff ew AW bm da en dQ cX Ab.Fin fi er gF iN RV kh Le eV fL ma iG kM dJ dt
set_option maxHeartbeats 8000000
theorem K3 {L:Int} (hL:L≤24) {m:Nat} (h:m+CU≤DB):m+2 ^ L.toNat≤DB:=by have:=sL hL;omega
theorem A8 (L:Int) (h0L:0≤L) (hL:L≤24) (S:fp) (a b:Int) (h:nX L S) (va:Vd S.ns a) (vb:Vd S.ns b) (hb:S.ns.length+CU≤DB) :
 cX prog 63 [.ptr 700 0,.int a,.int b] (kF L S) [] [700] (fun x hp=>x= .int (gK L 0 S a b).2∧hp=kF L (gK L 0 S a b).1):=by
 have c:=KB L h0L L.toNat S a b h va vb (nY h0L h va vb) (K3 hL hb);unfold gK;generalize dE L 0 L.toNat S a b=z at *;refine cA func63 ntmps63 ?_;(repeat' (first|refine bu (fun K hK=>?_);(refine bL (c) au (fun _ h=>by cases h) aR (fun x hp' hx=>?_);obtain ⟨rfl,rfl⟩:=hx<;>simp only [go_sem,seval,dy,bl])|intro (K:St→Prop) hK|intro hc|(refine Gf 99 ?_ ?_ ?_ ?_<;>try exact VX)|fail));exact VZ
theorem Tl (L:Int) (h0L:0≤L) (hL:L≤24) (S:fp) (a b:Int) (h:nX L S) (va:Vd S.ns a) (vb:Vd S.ns b) (hb:S.ns.length+CU≤DB) :
 cX prog 131 [.ptr 700 0,.int a,.int b] (kF L S) [] [700] (fun x hp=>x= .int (gK L 1 S a b).2∧hp=kF L (gK L 1 S a b).1):=by
 have c:=KC L h0L L.toNat S a b h va vb (nY h0L h va vb) (K3 hL hb);unfold gK;generalize dE L 1 L.toNat S a b=z at *;refine cA func131 ntmps131 ?_;(repeat' (first|refine bu (fun K hK=>?_);(refine bL (c) au (fun _ h=>by cases h) aR (fun x hp' hx=>?_);obtain ⟨rfl,rfl⟩:=hx<;>simp only [go_sem,seval,dy,bl])|intro (K:St→Prop) hK|intro hc|(refine Gf 99 ?_ ?_ ?_ ?_<;>try exact VX)|fail));exact VZ
theorem K4 (L:Int) (S:fp) (p:Int) (pos:Bool) (hb:S.ns.length≤DB):cX prog 181 [.ptr 700 0,.int p,.bool pos] (kF L S) [] [700] (fun x hp=>x= .int (qI S p pos).2∧hp=kF L (qI S p pos).1):=by
 cases pos with
 |true=>
  have c:=nF L S p 0 1 hb;rw [qI,if_pos rfl];generalize eW S p 0 1=z at *;refine cA func181 ntmps181 ?_;(repeat' (first|refine bu (fun K hK=>?_);(refine bL (c) au (fun _ h=>by cases h) aR (fun x hp' hx=>?_);obtain ⟨rfl,rfl⟩:=hx<;>simp only [go_sem,seval,dy,bl])|intro (K:St→Prop) hK|intro hc|(refine Gf 99 ?_ ?_ ?_ ?_<;>try exact VX)|fail));exact VZ
 |false=>
  have c:=nF L S p 1 0 hb;rw [qI,if_neg aC];generalize eW S p 1 0=z at *;refine cA func181 ntmps181 ?_;(repeat' (first|refine bu (fun K hK=>?_);(refine bL (c) au (fun _ h=>by cases h) aR (fun x hp' hx=>?_);obtain ⟨rfl,rfl⟩:=hx<;>simp only [go_sem,seval,dy,bl])|intro (K:St→Prop) hK|intro hc|(refine Gf 99 ?_ ?_ ?_ ?_<;>try exact VX)|fail));exact VZ
theorem Oh (L:Int) (h0L:0≤L):∀ (n:Nat) (S:fp) (kn:List (Int×Int)) (k:Int),nX L S→GY L S kn→Vd S.ns k→L - lvl L S.ns k≤(n:Int)→S.ns.length+2 ^ n≤DB→
 cX prog 188 [.int k,.ptr 5 0,.ptr 2 0,.ptr 6 0] (kF L S++MJ kn) [] [700,2,5,6]
  (fun x hp=>x= .int (lR n S kn k).2∧hp=kF L (lR n S kn k).1.1++MJ (lR n S kn k).1.2):=by
 intro n
 induction n with
 |zero=>
  intro S kn k h hk hv hn hb;have r:=sO h0L 0 S kn k h hk hv hn;have h2:k < 2:=by
   by_cases h2:k < 2
   ·exact h2
   have:=jz h.no ak hv.2;omega
  have h0:=hv.1;obtain ⟨o,ho⟩:∃ o,lk kn k=some o:=by
   rcases (by omega:k=0∨k=1) with rfl|rfl
   ·exact ⟨_,hk.z⟩
   exact ⟨_,hk.o⟩
  unfold lR;rw [ho];refine cA func188 ntmps188 ?_;(repeat' (first|refine bu (fun K hK=>?_);(refine bt (mh (kt:=3) ho aR aR aR).2 ?_)|intro (K:St→Prop) hK|intro hc|(refine Gf 99 ?_ ?_ ?_ ?_<;>try exact VX)|fail));exact VZ
 |succ n ih=>
  intro S kn k h hk hv hn hb;cases ho:lk kn k with
  |some o=>
   have e:lR (n+1) S kn k=((S,kn),o):=by unfold lR;rw [ho]
   rw [e];refine cA func188 ntmps188 ?_;(repeat' (first|refine bu (fun K hK=>?_);(refine bt (mh (kt:=3) ho aR aR aR).2 ?_)|intro (K:St→Prop) hK|intro hc|(refine Gf 99 ?_ ?_ ?_ ?_<;>try exact VX)|fail));exact VZ
  |none=>
   have h0:=hv.1;have hk2:=hv.2;have h2:2≤k:=by
    by_cases h2:2≤k
    ·exact h2
    rcases (by omega:k=0∨k=1) with rfl|rfl
    ·rw [hk.z] at ho;cases ho
    rw [hk.o] at ho;cases ho
   have hnd:=h.no k h2 hv.2;have hl:lvl L S.ns k=(nd S.ns k).1:=by unfold lvl;rw [if_neg ak]
   have hL:Ti (k - 2).toNat S.ns:=⟨by omega⟩
   have e:lR (n+1) S kn k=(let m:=nd S.ns k;let x:=lR n S kn m.2.1;let y:=lR n x.1.1 x.1.2 m.2.2;let z:=eW y.1.1 m.1 x.2 y.2;((z.1,kK y.1.2 k z.2),z.2)):=by conv=>lhs;unfold lR;rw [ho]
   simp only at e;have em:nd S.ns k=S.ns[(k - 2).toNat]!:=rfl;obtain ⟨w0,wL,l0,l1,g0,g1,ne,ll,lh⟩:=hnd;generalize nd S.ns k=m at *;have hp2:=ud n;have hb5:S.ns.length≤5000000000000:=by unfold DB at hb;omega
   have vl:Vd S.ns m.2.1:=⟨l0,by omega⟩
   have vh:Vd S.ns m.2.2:=⟨g0,by omega⟩
   have r1:=sO h0L n S kn m.2.1 h hk vl ak;have c1:=ih S kn m.2.1 h hk vl ak ak;generalize lR n S kn m.2.1=x at e r1 c1;have q1:=r1.gr.len;have hl2:L - lvl L x.1.1.ns m.2.2≤(n:Int):=by rw [r1.gr.lvl L vh];omega
   have r2:=sO h0L n x.1.1 x.1.2 m.2.2 r1.ok r1.kn (r1.gr.vd vh) hl2;have c2:=ih x.1.1 x.1.2 m.2.2 r1.ok r1.kn (r1.gr.vd vh) hl2 ak;generalize lR n x.1.1 x.1.2 m.2.2=y at e r2 c2;have q2:=r2.gr.len;have c3:=KA L y.1.1 m.1 x.2 y.2 y.1.2 ak;generalize eW y.1.1 m.1 x.2 y.2=z at e c3;rw [e];refine cA func188 ntmps188 ?_;(repeat' (first|refine bu (fun K hK=>?_);(refine bt (qB (kt:=3) ho aR aR aR).2 ?_)|intro (K:St→Prop) hK|intro hc|(refine Gf 4 ?_ ?_ ?_ ?_<;>try exact VX)|fail));rw [← em];refine oC [10,20,23] ?_;simp only [kN,List.set_cons_succ,List.set_cons_zero];refine pM [.ptr 700 0,.ptr 8 0,.int m.1,.fn 188 [.ptr 5 0,.ptr 2 0,.ptr 6 0],.ptr 8 1,.int m.2.1,.int x.2,.fn 188 [.ptr 5 0,.ptr 2 0,.ptr 6 0],.ptr 8 2,.int m.2.2,.int y.2,.int z.2,.int z.2] [[2],[8],[26],[3],[8],[29],[28,30],[3],[8],[33],[32,34],[25,27,31,35],[36]] [6,10,11] [(0,0),(0,1),(0,2),(1,0),(1,1),(1,2),(2,0),(2,1),(2,2),(3,0),(4,0),(5,0),(7,0),(7,1),(8,0),(8,1),(9,0),(9,1),(12,3)] [fun h=>kF L x.1.1++MJ x.1.2++fT (bl (kF L S++MJ kn)++[]) [700,2,5,6] h,fun h=>kF L y.1.1++MJ y.1.2++fT (bl (kF L x.1.1++MJ x.1.2)++[]) [700,2,5,6] h,fun h=>kF L z.1++MJ y.1.2++fT (bl (kF L y.1.1++MJ y.1.2)++[]) [700,2,5,6] h] aR ai aD (all_cons ⟨_,rfl,rfl,ab⟩ (all_cons ⟨_,rfl,rfl,ab⟩ (all_cons ⟨_,rfl,rfl,ab⟩ (all_cons ⟨_,rfl,rfl,aj⟩ (all_cons ⟨_,rfl,rfl,aj⟩ (all_cons ⟨_,rfl,rfl,aj⟩ (all_cons ⟨_,rfl,rfl,ab⟩ (all_cons ⟨_,rfl,rfl,ab⟩ (all_cons ⟨_,rfl,rfl,ab⟩ (all_cons ⟨_,rfl,rfl,ab⟩ (all_cons ⟨_,rfl,rfl,aj⟩ (all_cons ⟨_,rfl,rfl,ab⟩ (all_cons ⟨_,rfl,rfl,ab⟩ (all_cons ⟨_,rfl,rfl,ab⟩ (all_cons ⟨_,rfl,rfl,aj⟩ (all_cons ⟨_,rfl,rfl,aj⟩ (all_cons ⟨_,rfl,rfl,ab⟩ (all_cons ⟨_,rfl,rfl,ab⟩ (all_cons ⟨_,rfl,rfl,(by first|exact jX (dn) aR)⟩ all_nil))))))))))))))))))) (eC (fun f hfl hU hfm K1 hK1=>⟨_,rfl,rfl,(by (refine eu (by rw [pJ hU aR];rfl) (by rw [fE hU aR];exact c1) au (fun _ h=>by cases h) aR (fun x hp' hx=>?_);obtain ⟨rfl,rfl⟩:=hx;rw [fW hfm aA aA];exact hK1))⟩) (eC (fun f hfl hU hfm K1 hK1=>⟨_,rfl,rfl,(by (refine eu (by rw [pJ hU aR];rfl) (by rw [fE hU aR];exact c2) au (fun _ h=>by cases h) aR (fun x hp' hx=>?_);obtain ⟨rfl,rfl⟩:=hx;rw [fW hfm aA aA];exact hK1))⟩) (eC (fun f hfl hU hfm K1 hK1=>⟨_,rfl,rfl,(by (refine bL (by rw [fE hU aR];exact c3) au (fun _ h=>by cases h) aR (fun x hp' hx=>?_);obtain ⟨rfl,rfl⟩:=hx;rw [fW hfm aA aA];exact hK1))⟩) pI))) ?_;simp only [go_sem,seval,dy,bl,F4,qb8,qf1];(repeat' (first|refine bu (fun K hK=>?_);(refine (jF (kt:=3) (kv:=y.1.2) (k:=k) aR aR aR aR ?_).1)|intro (K:St→Prop) hK|intro hc|(refine Gf 99 ?_ ?_ ?_ ?_<;>try exact VX)|fail));exact VZ
theorem Rq (L:Int) (h0L:0≤L) (hL:L≤24) (S:fp) (a:Int) (h:nX L S) (va:Vd S.ns a) (hb:S.ns.length+CU≤DB) :
 cX prog 139 [.ptr 700 0,.int a] (kF L S) [] [700] (fun x hp=>x= .int (AU L S a).2∧hp=kF L (AU L S a).1):=by
 have la:=sN h.no h0L va;have c:=Oh L h0L L.toNat S Ky a h (E0 h0L) va ak (K3 hL hb);unfold AU;generalize lR L.toNat S Ky a=z at *;refine cA func139 ntmps139 ?_;refine Gx 1 (fun K hK=>?_) VX VX VX;refine dU ?_;refine cn rfl (fun K1 hK1=>?_);refine lu (d:=7) 2000000003 aB aR aU ?_;simp only [go_sem,seval];refine hK1 _ ?_;clear hK1 K1;refine cn rfl (fun K1 hK1=>?_);refine (jF (kt:=3) (kA:=kI .i64) (kv:=[]) (k:=0) (v:=1) aR aR aR aR ?_).2;simp only [go_sem,seval];refine hK1 _ ?_;clear hK1 K1;refine cn rfl (fun K1 hK1=>?_);refine (jF (kt:=3) (kA:=kI .i64) (kv:=[(0,1)]) (k:=1) (v:=0) aR aR aR aR ?_).2;simp only [go_sem,seval];refine hK1 _ ?_;clear hK1 K1;refine DW ?_;refine Gx 3 (fun K hK=>?_) VX VX VX;refine dU ?_;refine cn rfl (fun K1 hK1=>?_);refine bt cL ?_;simp only [go_sem,seval];refine hK1 _ ?_;clear hK1 K1;refine DW ?_;(repeat' (first|refine bu (fun K hK=>?_);(refine eu aR (c) au (fun _ h=>by cases h) aR (fun x hp' hx=>?_);obtain ⟨rfl,rfl⟩:=hx<;>simp only [go_sem,seval,dy,bl])|intro (K:St→Prop) hK|intro hc|(refine Gf 99 ?_ ?_ ?_ ?_<;>try exact VX)|fail));exact VZ
theorem Oi {w m:Nat} (hw:w < 2 ^ 24):bits .and .u32 ((w:Int) / 2 ^ m) 1=if w.testBit m=true then 1 else 0:=by
 have e:(w:Int) / 2 ^ m=((w / 2 ^ m:Nat):Int):=by rw [Int.natCast_ediv,Int.natCast_pow];rfl
 have h1:w / 2 ^ m < 2 ^ 32:=Nat.lt_of_le_of_lt (Nat.div_le_self _ _) ak;have h2:=(bits_nat .u32 32 aB rj (w / 2 ^ m) 1 h1 aB).1;rw [e];refine Eq.trans h2 ?_;rw [Nat.and_one_is_mod,Nat.testBit_eq_decide_div_mod_eq]
 have:(w / 2 ^ m) % 2=0∨(w / 2 ^ m) % 2=1:=by omega
 rcases this with h|h<;>simp [h]
theorem Oj (L:Nat) (hL:L≤24) (w:Nat) (S:fp) (h:nX L S) (hw:w < 2 ^ 24) (hb:S.ns.length+24≤DB) :
 cX prog 64 [.ptr 700 0,.v (.int .u32 w)] (kF L S) [] [700] (fun x hp=>x= .int (lD (fun i=>w.testBit i) L S 1).2∧hp=kF L (lD (fun i=>w.testBit i) L S 1).1):=by
 refine cA func64 ntmps64 ?_;refine Go (fun K hK=>?_) VX VX VX;refine ba [5,6,12,13,14,15,16,17,18,19,20,21,22,23,24,25,26,27,28] (fun q:Nat×fp×Int=>q.1≤L∧nX L q.2.1∧Vd q.2.1.ns q.2.2∧(q.1:Int)≤lvl L q.2.1.ns q.2.2∧lD (fun i=>w.testBit i) q.1 q.2.1 q.2.2=lD (fun i=>w.testBit i) L S 1∧q.2.1.ns.length+q.1≤DB) (fun q=>q.1) (fun q=>[(6,.int ((q.1:Int) - 1)),(5,.int q.2.2)]) (fun q=>kF L q.2.1++[(1000000000,⟨1000000000,[.ptr 700 0],false⟩)]) (L,S,1) ⟨qb3 _,h,v1 _,by rw [jo _ _ aQ];exact Int.le_refl _,rfl,by simp only;omega⟩ ?_ ?_
 ·refine bA ?_
  exact aZ
 rintro ⟨m,T,k⟩ ⟨hm,hT,hk,hl,he,hb2⟩ K hK;simp only at hm hT hk hl he hb2;refine bA ?_;cases m with
 |zero=>
  (repeat' (first|refine hK _ ?_;clear hK K|refine bH (fun K hK=>?_)|refine gR ?_;refine bY ?_|refine gQ ?_;refine ed ?_|refine gX ?_;refine fb ?_|refine gT ?_;refine eY ?_|apply_assumption (exfalso:=false) (symm:=false)));rw [← he];exact VZ
 |succ m=>
  rw [show ((m+1:Nat):Int) - 1=(m:Int) by omega];have hbit:=Oi (m:=m) hw;obtain ⟨Rr,hR⟩:∃ r,r=lD (fun i=>w.testBit i) L S 1:=⟨_,rfl⟩
  rw [← hR] at he;unfold lD at he;simp only at he;cases hx:w.testBit m with
  |true=>
   rw [hx,if_pos rfl] at he;rw [hx,if_pos rfl] at hbit;have r:=nE hT (lv:=m) (lo:=0) (hi:=k) ak ak (v0 _) hk (by first|omega|(rw [jo _ _ ak];omega)) (by first|omega|(rw [jo _ _ ak];omega));have c:=nF L T m 0 k ak;have g:=r.gr.len;have lz:=r.le;generalize eW T m 0 k=z at *;(repeat' (first|refine hK _ ?_;clear hK K|refine bH (fun K hK=>?_)|refine gR ?_;refine bY ?_|refine bu (fun K hK=>?_);(refine bL (c) au (fun _ h=>by cases h) aR (fun x hp' hx=>?_);obtain ⟨rfl,rfl⟩:=hx<;>simp only [go_sem,seval,dy,bl])|refine gE ?_;refine iv ?_|refine gQ ?_;(first|refine fc ?_|refine cZ (fun hc=>?_) (fun hc=>?_)<;>(try (first|contradiction|omega)))|refine gW ?_;refine eo ?_|refine bE ?_|refine gS ?_;refine cS ?_));refine ⟨(m,z.1,z.2),⟨by simp only;omega,r.ok,r.vd,by simp only;omega,by rw [← hR];exact he,by simp only;omega⟩,by simp only;omega,?_⟩;refine bA ?_;exact aZ
  |false=>
   rw [hx,if_neg aC] at he;rw [hx,if_neg aC] at hbit;have r:=nE hT (lv:=m) (lo:=k) (hi:=0) ak ak hk (v0 _) (by first|omega|(rw [jo _ _ ak];omega)) (by first|omega|(rw [jo _ _ ak];omega));have c:=nF L T m k 0 ak;have g:=r.gr.len;have lz:=r.le;generalize eW T m k 0=z at *;(repeat' (first|refine hK _ ?_;clear hK K|refine bH (fun K hK=>?_)|refine gR ?_;refine bY ?_|refine bu (fun K hK=>?_);(refine bL (c) au (fun _ h=>by cases h) aR (fun x hp' hx=>?_);obtain ⟨rfl,rfl⟩:=hx<;>simp only [go_sem,seval,dy,bl])|refine gE ?_;refine iv ?_|refine gQ ?_;(first|refine fc ?_|refine cZ (fun hc=>?_) (fun hc=>?_)<;>(try (first|contradiction|omega)))|refine gW ?_;refine eo ?_|refine bE ?_|refine gS ?_;refine cS ?_));refine ⟨(m,z.1,z.2),⟨by simp only;omega,r.ok,r.vd,by simp only;omega,by rw [← hR];exact he,by simp only;omega⟩,by simp only;omega,?_⟩;refine bA ?_;exact aZ
end
section
attribute [local irreducible] PV ff ew AW bm da en Ab.Fin fi gF RV kh Le eV fL ma iG kM dJ dt
set_option maxHeartbeats 2000000
structure Op where
 pre:List Int
 add:List Int
 del:List Int
 cost:Int
 deriving Inhabited,DecidableEq
structure Task where
 facts:Int
 init:List Int
 goal:List Int
 ops:List Op
 deriving Inhabited,DecidableEq
abbrev Op.av (o:Op):AV:=.agg [ints o.pre,ints o.add,ints o.del,.int o.cost]
abbrev v7 (o:Op):List AV:=[ints o.pre,ints o.add,ints o.del,.int o.cost]
abbrev uk (l:List Op):AV:=.cD 4 80 (l.map Op.av)
abbrev Task.av (t:Task):AV:=.agg [.int t.facts,ints t.init,ints t.goal,uk t.ops]
abbrev Task.cs (t:Task):List AV:=[.int t.facts,ints t.init,ints t.goal,uk t.ops]
abbrev jA (p:Int×Int):AV:=fault p.1 p.2
@[go_sem] theorem Da (l:List Op):(l.map Op.av).flatMap AV.cells=l.flatMap v7:=by rw [qg9];rfl
@[go_sem] theorem Uf (a b:List Op):(a++b).flatMap v7=a.flatMap v7++b.flatMap v7:=qd8
@[go_sem] theorem Ug (l:List Op):(l.flatMap v7).length=l.length * 4:=by
 induction l with
 |nil=>rfl
 |cons w l ih=>simp [qd5,ih];omega
@[go_sem] theorem Sn (id:Nat) (l:List Op):AV.cG id (l.flatMap v7)=l.flatMap v7:=ir id v7 l fun _=>rfl
@[go_sem] theorem Tm (id:Nat) (l:List Op):AV.bz id (l.flatMap v7)=false:=ef id v7 l fun _=>rfl
theorem Ol (l:List Op):AV.cu (l.flatMap v7)=true:=gu v7 l fun _=>rfl
@[go_sem] theorem Sp (id sz bw n:Nat) (es:List AV) (l:List Op):AV.dM id sz bw n es (l.flatMap v7)=l.flatMap v7:=e8 (Ol l)
def mj (o:Op) (n:Int):Bool:=isSet o.pre n&&isSet o.add n&&isSet o.del n&&kx o.add o.del
def EM (o:Op) (n:Int):Int:=if mj o n=false then 5 else if o.cost < 0∨100 < o.cost then 3 else 0
theorem rA (a b:List Int) (n:Int) (hs:isSet b n=true):bm prog 66 [ints a,ints b] (fun r=>r= .bool (!kx a b)):=KH a b (ct.1 hs).2
theorem qJ (o:Op) (n:Int):bm prog 179 [o.av,.int n] (fun r=>r= .int (EM o n)):=by
 refine bc func179 ntmps179 ?_;(repeat' (first|refine gC 129 ?_;refine bg (mQ _ _) ?_|refine gC 66 ?_;refine bg (rA _ _ n aE) ?_|refine bu (fun K hK=>?_);(first|refine bt (cf aR aR az) ?_|refine bt (cQ aR aR az) ?_)|intro (K:St→Prop) hK|intro hc|(refine yJ 99 ?_ ?_ ?_ ?_<;>try exact VX)|fail))
 all_goals (refine VY ?_)
 all_goals (simp_all [EM,mj];done)
def CN (n:Int) (l:List Op) (i:Nat):Option (Int×Int):=if EM l[i]! n=0 then none else some (EM l[i]! n,i)
def cK (t:Task):Int×Int:=
 if t.facts < 0∨24 < t.facts then (3,-1) else if isSet t.init t.facts=false then (5,-2) else if isSet t.goal t.facts=false then (5,-3) else if 40 < t.ops.length then (2,-1) else (bx (CN t.facts t.ops) t.ops.length).getD (0,0)
variable {t:Task}
theorem Tn (h:t.facts < 0∨24 < t.facts):cK t=(3,-1):=by rw [cK,if_pos h]
theorem UX (h:¬(t.facts < 0∨24 < t.facts)) (h2:isSet t.init t.facts=false):cK t=(5,-2):=by rw [cK,if_neg h,if_pos h2]
theorem UY (h:¬(t.facts < 0∨24 < t.facts)) (h2:isSet t.init t.facts=true) (h3:isSet t.goal t.facts=false):cK t=(5,-3):=by rw [cK,if_neg h,if_neg (by simp [h2]),if_pos h3]
theorem UZ (h:¬(t.facts < 0∨24 < t.facts)) (h2:isSet t.init t.facts=true) (h3:isSet t.goal t.facts=true) (h4:40 < t.ops.length):cK t=(2,-1):=by rw [cK,if_neg h,if_neg (by simp [h2]),if_neg (by simp [h3]),if_pos h4]
theorem Te (h:¬(t.facts < 0∨24 < t.facts)) (h2:isSet t.init t.facts=true) (h3:isSet t.goal t.facts=true) (h4:¬40 < t.ops.length):cK t=(bx (CN t.facts t.ops) t.ops.length).getD (0,0):=by
 rw [cK,if_neg h,if_neg (by simp [h2]),if_neg (by simp [h3]),if_neg h4]
theorem tS {n:Int} {l:List Op} {k:Nat} (h:k < l.length):CN n l k=if EM l[k] n=0 then none else some (EM l[k] n,(k:Int)):=by simp [CN,h]
theorem qL (t:Task):bm prog 128 [t.av] (fun r=>r=jA (cK t)):=by
 refine bc func128 ntmps128 ?_;(repeat' (first|refine gC 129 ?_;refine bg (mQ _ _) ?_|refine gC 179 ?_;refine bg (qJ _ _) ?_|refine bu (fun K hK=>?_);(first|refine bt (cf aR aR az) ?_|refine bt (cQ aR aR az) ?_|refine bt (pv_neq aR aR) ?_|refine bt (pg aR aR) ?_|refine bt (pj aR aR ai) ?_)|intro (K:St→Prop) hK|intro hc|(refine yJ 99 ?_ ?_ ?_ ?_<;>try exact VX)|fail))
 ·refine V0 ?_
  rw [Tn ak];rfl
 ·refine V0 ?_
  rw [Tn ak];rfl
 ·refine V0 ?_
  rw [UX ak aE];rfl
 ·refine V0 ?_
  rw [UY ak aE aE];rfl
 ·refine V0 ?_
  rw [UZ ak aE aE ak];rfl
 have e:=Te (t:=t) ak aE aE ak;refine ba [3,4,5,41,42,43,44,45,46,47,48,49,50,51,52,53,54,55] (fun k:Nat=>k≤t.ops.length∧bx (CN t.facts t.ops) k=none) (fun k=>t.ops.length - k) (fun k=>[(41,.int k)]) (fun _=>[(1,⟨38,t.cs,true⟩),(2,⟨42,[.int 0,.int 0],true⟩)]) 0 ⟨by omega,rfl⟩ ?_ ?_
 ·refine bA ?_
  exact aZ
 rintro k ⟨hk,hn⟩ K hK;refine bA ?_;by_cases hlt:k < t.ops.length
 ·have hkk:=tS (n:=t.facts) hlt
  (repeat' (first|refine gC 129 ?_;refine bg (mQ _ _) ?_|refine gC 179 ?_;refine bg (qJ _ _) ?_|refine bu (fun K hK=>?_);(first|refine bt (cf aR aR az) ?_|refine bt (cQ aR aR az) ?_|refine bt (pv_neq aR aR) ?_|refine bt (pg aR aR) ?_|refine bt (pj aR aR ai) ?_)|intro (K:St→Prop) hK|intro hc|(refine yJ 99 ?_ ?_ ?_ ?_<;>try exact VX)|fail))
  ·refine V0 ?_
   rw [e,cp hn (by rw [hkk,if_neg hc]) hlt];rfl
  (refine ⟨k+1,⟨by omega,cJ hn (by rw [hkk,if_pos hc])⟩,by omega,?_⟩;(refine bA ?_);(exact aZ))
 obtain rfl:k=t.ops.length:=by omega
 (repeat' (first|refine gC 129 ?_;refine bg (mQ _ _) ?_|refine gC 179 ?_;refine bg (qJ _ _) ?_|refine bu (fun K hK=>?_);(first|refine bt (cf aR aR az) ?_|refine bt (cQ aR aR az) ?_|refine bt (pv_neq aR aR) ?_|refine bt (pg aR aR) ?_|refine bt (pj aR aR ai) ?_)|intro (K:St→Prop) hK|intro hc|(refine yJ 99 ?_ ?_ ?_ ?_<;>try exact VX)|fail));refine V0 ?_;rw [e,hn];rfl
end
section
attribute [local irreducible] dP fv mu lV dj PV ff ew AW bm da en dQ cX Ab.Fin fi er gF iN RV kh Le eV fL ma iG kM dJ dt
set_option maxHeartbeats 8000000
@[local go_sem] theorem Tp (i g:Nat) (y:cF):AV.cq i (.yl g y)=(g == i):=rfl
@[local go_sem] theorem Sq (i g:Nat) (y:cF):AV.dN i (.yl g y)=if (g == i)=true then .any else .yl g y:=rfl
mutual
theorem Ir {id:Nat} {cs:List AV}:∀ {x:AV},x.gq=true→AV.js id cs x=x
 | .agg l,h=>by simp only [AV.js];rw [iK (by simpa [AV.gq] using h)]
 | .dC l,h=>by simp only [AV.js];rw [iK (by simpa [AV.gq] using h)]
 | .fn f l,h=>by simp only [AV.js];rw [iK (by simpa [AV.gq] using h)]
 | .ptr i o,h=>by simp [AV.gq] at h
 | .yl i y,h=>by simp [AV.gq] at h
 | .sl a b i o k,h=>by simp [AV.gq] at h
 | .any,_=>rfl
 | .v x,_=>rfl
 | .cD a b l,_=>rfl
 | .bC l,_=>rfl
theorem iK {id:Nat} {cs:List AV}:∀ {l:List AV},AV.cu l=true→AV.fC id cs l=l
 |[],_=>rfl
 |x::r,h=>by
  simp only [AV.cu,qa1] at h;simp only [AV.fC];rw [Ir h.1,iK h.2]
end
def lA:Hp→Hp→Hp
 |[],h=>h
 |(i,b)::r,h=>lA r (cP h i b)
@[go_sem] theorem HK (h:Hp):lA [] h=h:=rfl
@[go_sem] theorem Ev (i:Nat) (b:iB) (r h:Hp):lA ((i,b)::r) h=lA r (cP h i b):=rfl
theorem bP {P:Program} {ι:Type} {c:Code} {fr:List AV} {hp:Hp} {Q:Exit→St→Prop} (ws:List Nat) (C:ι→Prop) (μ:ι→Nat) (sl:ι→List (Nat×AV)) (ms:ι→Hp) (i0:ι) (h0:C i0)
 (hs:Le ⟨fr,hp⟩ ⟨ib (sl i0) (kN ws fr),lA (ms i0) hp⟩)
 (hr:∀ i,C i→∀ K:St→Prop,(∀ s',(∃ j,C j∧μ j < μ i∧Le s' ⟨ib (sl j) (kN ws fr),lA (ms j) hp⟩)→K s')→AW P c ⟨ib (sl i) (kN ws fr),lA (ms i) hp⟩ (vG K Q)):AW P (.loop c) ⟨fr,hp⟩ Q:=
 ba ws C μ sl (fun i=>lA (ms i) hp) i0 h0 hs hr
abbrev SSet.av (c:SSet):AV:=.agg [ints c.eM,ints c.no]
@[go_sem] theorem Tq (id:Nat) (c:List AV) (l:List I3):AV.fC id c (wA l)=wA l:=iK (E1 l)
@[go_sem] theorem Sr {κ:Type} {kA:κ→AV} [hp:vR kA] (id:Nat) (c:List AV) (kv:List (κ×Int)):AV.fC id c (zq kA kv)=zq kA kv:=iK (tI kv)
abbrev Om (L:Int) (S:fp) (all:Int):Hp:=(702,⟨129,[.ptr 700 0,.int all],true⟩)::kF L S
theorem wc (xs:List Int):bm prog 180 [ints xs] (fun r=>r= .fn 216 [.bC [ints xs]]):=by
 refine bc func180 ntmps180 ?_;(repeat' (first|refine bu (fun K hK=>?_);refine fy (bR 1 rfl rfl rfl) ?_;simp only [go_sem,seval];refine bt cL ?_|intro (K:St→Prop) hK|intro hc|(refine Gf 99 ?_ ?_ ?_ ?_<;>try exact VX)|fail));refine VY ?_;rfl
theorem Db (L:Int) (h0L:0≤L) (hL:L≤24) (S:fp) (all:Int) (c:SSet) (hc:Sg L c) (h:nX L S) (hb:S.ns.length+1200+CU≤DB) :
 cX prog 132 [.ptr 702 0,c.av] (Om L S all) [] [702,700] (fun x hp=>x= .int (oN L c S).2∧hp=Om L (oN L c S).1 all):=by
 have hcl1:=hc.l1;have hcl2:=hc.l2;refine cA func132 ntmps132 ?_;(repeat' (first|refine hK _ ?_;clear hK K|refine bH (fun K hK=>?_)|refine gR ?_;refine bY ?_|refine gC 180 ?_;refine bg (wc _) ?_|refine gE ?_;refine iv ?_|refine bE ?_));(refine cE (bR 3 rfl rfl rfl) ?_;simp only [go_sem,seval]);have hK9:=hK;refine kX 1000000001 aR aB ah ah ah func216 ntmps216 aR aR (fun y hyp hya hyb=>?_);simp only [go_sem,seval,dy,bl,qb8,qf1,qg6,qh3,Nat.reduceSub];refine Go ?_ VX VX VX;obtain ⟨Rr,hR⟩:∃ r,r=lY L true c.eM.reverse S 1:=⟨_,rfl⟩
 refine bP [3,7,8,9,10,11,12,13,14,15,16,17,18] (fun q:Nat×fp×Int=>q.1≤c.eM.length∧nX L q.2.1∧Vd q.2.1.ns q.2.2∧ee q.2.1.ns q.2.2∧lY L true (c.eM.take q.1).reverse q.2.1 q.2.2=Rr∧q.2.1.ns.length+q.1 * 25≤S.ns.length+c.eM.length * 25) (fun q=>q.1) (fun q=>[(3,.int ((q.1:Int) - 1))]) (fun q=>kF L q.2.1++[(5,⟨3,[.int q.2.2],true⟩)]) (c.eM.length,S,1) ⟨qb3 _,h,v1 _,.one,by rw [hR];simp only [qd2],by simp only;omega⟩ ?_ ?_
 ·refine bA ?_
  exact aZ
 rintro ⟨j,T,k⟩ ⟨hj,hT,hk,hch,he,hl⟩ K hK;simp only at hj hT hk hch he hl ⊢;refine bA ?_;cases j with
 |zero=>
  simp only [List.take_zero,List.reverse_nil,lY] at he;simp only [show ((0:Nat):Int) - 1= -1 from rfl];(repeat' (first|refine hK _ ?_;clear hK K|refine bH (fun K hK=>?_)|refine gR ?_;refine bY ?_|refine gQ ?_;refine ed ?_|refine gX ?_;refine fb ?_));refine ⟨_,_,.normal,1000000001,_,Le.refl _,iI,rfl,by rfl,?_⟩;simp only [go_sem,seval,dy,bl];refine hK9 _ ?_;clear hK9 hK;(repeat' (first|refine hK _ ?_;clear hK K|refine bH (fun K hK=>?_)|refine gR ?_;refine bY ?_|refine gC 180 ?_;refine bg (wc _) ?_|refine bE ?_));have he1:=he.trans hR;clear he hR;have hK9:=hK;refine kX 1000000001 aR aB ah ah ah func216 ntmps216 aR aR (fun y hyp hya hyb=>?_);simp only [go_sem,seval,dy,bl,qb8,qf1,qg6,qh3,Nat.reduceSub];(repeat' (first|refine hK _ ?_;clear hK K|refine bH (fun K hK=>?_)|refine gR ?_;refine bY ?_|refine gE ?_;refine iv ?_|refine bE ?_));obtain ⟨Rr,hR⟩:∃ r,r=lY L false c.no.reverse T k:=⟨_,rfl⟩
  refine bP [3,7,8,9,10,11,12,13,14,15,16,17,18] (fun q:Nat×fp×Int=>q.1≤c.no.length∧nX L q.2.1∧Vd q.2.1.ns q.2.2∧ee q.2.1.ns q.2.2∧lY L false (c.no.take q.1).reverse q.2.1 q.2.2=Rr∧q.2.1.ns.length+q.1 * 25≤S.ns.length+(c.eM.length * 25+c.no.length * 25)) (fun q=>q.1) (fun q=>[(3,.int ((q.1:Int) - 1))]) (fun q=>kF L q.2.1++[(5,⟨3,[.int q.2.2],true⟩)]) (c.no.length,T,k) ⟨qb3 _,hT,hk,hch,by rw [hR];simp only [qd2],by simp only;omega⟩ ?_ ?_
  ·refine bA ?_
   exact aZ
  rintro ⟨j,T,k⟩ ⟨hj,hT,hk,hch,he,hl⟩ K hK;simp only at hj hT hk hch he hl ⊢;refine bA ?_;cases j with
  |zero=>
   simp only [List.take_zero,List.reverse_nil,lY] at he;simp only [show ((0:Nat):Int) - 1= -1 from rfl];(repeat' (first|refine hK _ ?_;clear hK K|refine bH (fun K hK=>?_)|refine gR ?_;refine bY ?_|refine gQ ?_;refine ed ?_|refine gX ?_;refine fb ?_));refine ⟨_,_,.normal,1000000001,_,Le.refl _,iI,rfl,by rfl,?_⟩;simp only [go_sem,seval,dy,bl];refine hK9 _ ?_;clear hK9 hK;(repeat' (first|refine hK _ ?_;clear hK K|refine bH (fun K hK=>?_)|refine gR ?_;refine bY ?_|refine gT ?_;refine eY ?_));have e:oN L c S=(T,k):=by unfold oN;simp only;rw [← he1];exact (he.trans hR).symm
   rw [e];exact VZ
  |succ j=>
   simp only [show ((j+1:Nat):Int) - 1=(j:Int) by omega];have hjl:j < c.no.length:=by omega
   have hp:=hc.n2 c.no[j] (qa4 hjl);have hst:(c.no.take (j+1)).reverse=c.no[j]::(c.no.take j).reverse:=by rw [qa5 hjl,List.reverse_append];rfl
   rw [hst] at he;unfold lY at he;simp only at he;(repeat' (first|refine hK _ ?_;clear hK K|refine bH (fun K hK=>?_)|refine tu 3 aR ?_;refine bY ?_|refine gQ ?_;refine fc ?_|refine bE ?_|refine gS ?_;refine cS ?_));refine fU ?_;iterate 6 ((refine bD rfl rfl (fun K1 hK1=>?_));(first|refine bt jh ?_|refine bt (td aR aR aR) ?_|refine bt (rU aR aR ak aL) ?_);(try simp only [go_sem]);refine hK1 _ ?_;clear hK1 K1)
   refine b8 1000000002 hyp hya hyb aR aR aR aR aR aB aB aB aR ah aR aR ?_;simp only [go_sem,seval];refine gR ?_;refine bY ?_;refine ⟨_,_,Le.refl _,by rfl,by rfl,?_⟩;simp only [go_sem,seval];(repeat' (first|refine tu 7 aR ?_;refine bY ?_|refine bE ?_));have r1:=AX hT hp.1 hp.2 false;have c1:=K4 L T c.no[j] false ak;generalize qI T c.no[j] false=l at r1 c1 he;obtain ⟨l1,l2,l3,l4,l5⟩:=r1;have gl:=l2.len;have c2:=A8 L h0L hL l.1 l.2 k l1 l3 (l2.vd hk) ak;have r2:=gk h0L (.inl rfl) L.toNat l.1 l.2 k l1 l3 (l2.vd hk) (nY h0L l1 l3 (l2.vd hk));have ez:dE L 0 L.toNat l.1 l.2 k=gK L 0 l.1 l.2 k:=rfl;rw [ez] at r2;generalize gK L 0 l.1 l.2 k=z at r2 c2 he;obtain ⟨k1,k2⟩:=r2.ch rfl l4 (l2.chain hch);have gz:=k2.len;refine pM [.ptr 702 0,.ptr 702 0,.ptr 702 0,.ptr 700 0,.ptr 702 0,.ptr 702 0,.ptr 702 0,.ptr 700 0,.int c.no[j],.int l.2,.int k,.int z.2,.any] [[2],[32],[33],[34],[2],[36],[37],[38],[9],[39,40],[5],[35,41,42],[5,43]] [9,11,12] [(0,0),(0,1),(1,0),(1,1),(2,0),(2,1),(3,0),(3,1),(4,0),(5,0),(6,0),(7,0),(8,0),(10,0),(10,1)] [fun h=>kF L l.1++fT (bl (kF L T)++[]) [700] h,fun h=>kF L z.1++fT (bl (kF L l.1)++[]) [700] h,fun h=>cP h 5 ⟨3,[.int z.2],true⟩] aR ai aD (all_cons ⟨_,rfl,rfl,ab⟩ (all_cons ⟨_,rfl,rfl,ab⟩ (all_cons ⟨_,rfl,rfl,ax⟩ (all_cons ⟨_,rfl,rfl,ax⟩ (all_cons ⟨_,rfl,rfl,aj⟩ (all_cons ⟨_,rfl,rfl,aj⟩ (all_cons ⟨_,rfl,rfl,ab⟩ (all_cons ⟨_,rfl,rfl,ab⟩ (all_cons ⟨_,rfl,rfl,ab⟩ (all_cons ⟨_,rfl,rfl,ax⟩ (all_cons ⟨_,rfl,rfl,aj⟩ (all_cons ⟨_,rfl,rfl,ab⟩ (all_cons ⟨_,rfl,rfl,aG⟩ (all_cons ⟨_,rfl,rfl,ab⟩ (all_cons ⟨_,rfl,rfl,ab⟩ all_nil))))))))))))))) (eC (fun f hfl hU hfm K1 hK1=>⟨_,rfl,rfl,(by (refine bL (by rw [fE hU aR];exact c1) au (fun _ h=>by cases h) aR (fun x hp' hx=>?_);obtain ⟨rfl,rfl⟩:=hx;rw [fW hfm aA aA];exact hK1))⟩) (eC (fun f hfl hU hfm K1 hK1=>⟨_,rfl,rfl,(by (refine bL (by rw [fE hU aR];exact c2) au (fun _ h=>by cases h) aR (fun x hp' hx=>?_);obtain ⟨rfl,rfl⟩:=hx;rw [fW hfm aA aA];exact hK1))⟩) (eC (fun f hfl hU hfm K1 hK1=>⟨_,rfl,rfl,(by (refine sI (by rw [pJ hU aR];exact rfl) (by first|exact pJ hU aR|rfl) aR aR (by first|exact .inl rfl|exact .inr ⟨_,rfl⟩) aR (by exact of_decide_eq_true aR) ?_;exact hK1))⟩) pI))) ?_;simp only [go_sem,seval,dy,bl,F4,qb8,qf1];refine ⟨_,_,_,1000000001,Le.refl _,by rfl,by rfl,by rfl,rfl,?_⟩;simp only [go_sem,seval];refine bD rfl rfl (fun K1 hK1=>?_);refine bt (sk aR) ?_;simp only [go_sem,seval];refine hK1 _ ?_;clear hK1 K1;refine cH ?_;(repeat' (first|refine hK _ ?_;clear hK K|refine gR ?_;refine bY ?_|refine gE ?_;refine iv ?_|refine gQ ?_;refine ed ?_|refine gS ?_;refine cS ?_));refine ⟨(j,z.1,z.2),⟨by simp only;omega,r2.ok,r2.vd,k1,he,by simp only;omega⟩,by simp only;omega,?_⟩;refine bA ?_;exact aZ
 |succ j=>
  simp only [show ((j+1:Nat):Int) - 1=(j:Int) by omega];have hjl:j < c.eM.length:=by omega
  have hp:=hc.n1 c.eM[j] (qa4 hjl);have hst:(c.eM.take (j+1)).reverse=c.eM[j]::(c.eM.take j).reverse:=by rw [qa5 hjl,List.reverse_append];rfl
  rw [hst] at he;unfold lY at he;simp only at he;(repeat' (first|refine hK _ ?_;clear hK K|refine bH (fun K hK=>?_)|refine tu 3 aR ?_;refine bY ?_|refine gQ ?_;refine fc ?_|refine bE ?_|refine gS ?_;refine cS ?_));refine fU ?_;iterate 6 ((refine bD rfl rfl (fun K1 hK1=>?_));(first|refine bt jh ?_|refine bt (td aR aR aR) ?_|refine bt (rU aR aR ak aL) ?_);(try simp only [go_sem]);refine hK1 _ ?_;clear hK1 K1)
  refine b8 1000000002 hyp hya hyb aR aR aR aR aR aB aB aB aR ah aR aR ?_;simp only [go_sem,seval];refine gR ?_;refine bY ?_;refine ⟨_,_,Le.refl _,by rfl,by rfl,?_⟩;simp only [go_sem,seval];(repeat' (first|refine tu 4 aR ?_;refine bY ?_|refine bE ?_));have r1:=AX hT hp.1 hp.2 true;have c1:=K4 L T c.eM[j] true ak;generalize qI T c.eM[j] true=l at r1 c1 he;obtain ⟨l1,l2,l3,l4,l5⟩:=r1;have gl:=l2.len;have c2:=A8 L h0L hL l.1 l.2 k l1 l3 (l2.vd hk) ak;have r2:=gk h0L (.inl rfl) L.toNat l.1 l.2 k l1 l3 (l2.vd hk) (nY h0L l1 l3 (l2.vd hk));have ez:dE L 0 L.toNat l.1 l.2 k=gK L 0 l.1 l.2 k:=rfl;rw [ez] at r2;generalize gK L 0 l.1 l.2 k=z at r2 c2 he;obtain ⟨k1,k2⟩:=r2.ch rfl l4 (l2.chain hch);have gz:=k2.len;refine pM [.ptr 702 0,.ptr 702 0,.ptr 702 0,.ptr 700 0,.ptr 702 0,.ptr 702 0,.ptr 702 0,.ptr 700 0,.int c.eM[j],.int l.2,.int k,.int z.2,.any] [[2],[15],[16],[17],[2],[19],[20],[21],[7],[22,23],[5],[18,24,25],[5,26]] [9,11,12] [(0,0),(0,1),(1,0),(1,1),(2,0),(2,1),(3,0),(3,1),(4,0),(5,0),(6,0),(7,0),(8,0),(10,0),(10,1)] [fun h=>kF L l.1++fT (bl (kF L T)++[]) [700] h,fun h=>kF L z.1++fT (bl (kF L l.1)++[]) [700] h,fun h=>cP h 5 ⟨3,[.int z.2],true⟩] aR ai aD (all_cons ⟨_,rfl,rfl,ab⟩ (all_cons ⟨_,rfl,rfl,ab⟩ (all_cons ⟨_,rfl,rfl,ax⟩ (all_cons ⟨_,rfl,rfl,ax⟩ (all_cons ⟨_,rfl,rfl,aj⟩ (all_cons ⟨_,rfl,rfl,aj⟩ (all_cons ⟨_,rfl,rfl,ab⟩ (all_cons ⟨_,rfl,rfl,ab⟩ (all_cons ⟨_,rfl,rfl,ab⟩ (all_cons ⟨_,rfl,rfl,ax⟩ (all_cons ⟨_,rfl,rfl,aj⟩ (all_cons ⟨_,rfl,rfl,ab⟩ (all_cons ⟨_,rfl,rfl,aG⟩ (all_cons ⟨_,rfl,rfl,ab⟩ (all_cons ⟨_,rfl,rfl,ab⟩ all_nil))))))))))))))) (eC (fun f hfl hU hfm K1 hK1=>⟨_,rfl,rfl,(by (refine bL (by rw [fE hU aR];exact c1) au (fun _ h=>by cases h) aR (fun x hp' hx=>?_);obtain ⟨rfl,rfl⟩:=hx;rw [fW hfm aA aA];exact hK1))⟩) (eC (fun f hfl hU hfm K1 hK1=>⟨_,rfl,rfl,(by (refine bL (by rw [fE hU aR];exact c2) au (fun _ h=>by cases h) aR (fun x hp' hx=>?_);obtain ⟨rfl,rfl⟩:=hx;rw [fW hfm aA aA];exact hK1))⟩) (eC (fun f hfl hU hfm K1 hK1=>⟨_,rfl,rfl,(by (refine sI (by rw [pJ hU aR];exact rfl) (by first|exact pJ hU aR|rfl) aR aR (by first|exact .inl rfl|exact .inr ⟨_,rfl⟩) aR (by exact of_decide_eq_true aR) ?_;exact hK1))⟩) pI))) ?_;simp only [go_sem,seval,dy,bl,F4,qb8,qf1];refine ⟨_,_,_,1000000001,Le.refl _,by rfl,by rfl,by rfl,rfl,?_⟩;simp only [go_sem,seval];refine bD rfl rfl (fun K1 hK1=>?_);refine bt (sk aR) ?_;simp only [go_sem,seval];refine hK1 _ ?_;clear hK1 K1;refine cH ?_;(repeat' (first|refine hK _ ?_;clear hK K|refine gR ?_;refine bY ?_|refine gE ?_;refine iv ?_|refine gQ ?_;refine ed ?_|refine gS ?_;refine cS ?_));refine ⟨(j,z.1,z.2),⟨by simp only;omega,r2.ok,r2.vd,k1,he,by simp only;omega⟩,by simp only;omega,?_⟩;refine bA ?_;exact aZ
end
section
attribute [local irreducible] dP fv mu lV dj PV ff ew AW bm da en dQ cX Ab.Fin fi er gF iN RV kh Le eV fL ma iG kM dJ dt
set_option maxHeartbeats 8000000
attribute [local go_sem] ec
@[local go_sem] theorem Dc (i g:Nat) (y:cF):AV.cq i (.yl g y)=(g == i):=rfl
@[local go_sem] theorem zM (i g:Nat) (y:cF):AV.dN i (.yl g y)=if (g == i)=true then .any else .yl g y:=rfl
def lM (d:cR) (t:Int):List Int:=wB d.types d.dg t d.dg.length
def kO (d:cR):List Int→List (List Int)
 |[]=>[[]]
 |t::r=>(lM d t).flatMap fun o=>(kO d r).map (o::·)
def E7 (d:cR) (pre r:List Int):List (List Int):=(kO d r).map (pre++·)
theorem A9 (d:cR) (pre:List Int):E7 d pre []=[pre]:=by simp [E7,kO]
def Gp (d:cR) (pre:List Int) (t:Int) (r:List Int) (k:Nat):List (List Int):=((lM d t).take k).flatMap fun o=>E7 d (pre++[o]) r
theorem yi (d:cR) (pre:List Int) (t:Int) (r:List Int):Gp d pre t r 0=[]:=by simp [Gp]
variable {pre r:List Int} {t:Int} {k:Nat}
theorem yj {d:cR} (h:k < (lM d t).length):Gp d pre t r (k+1)=Gp d pre t r k++E7 d (pre++[(lM d t)[k]]) r:=by
 rw [Gp,qa5 h,qd8];simp [Gp]
theorem wU (d:cR) (pre:List Int) (t:Int) (r:List Int):Gp d pre t r (lM d t).length=E7 d pre (t::r):=by
 rw [Gp,qd2,E7,kO,List.map_flatMap];congr 1;funext o;simp [E7,List.map_map,Function.comp_def]
theorem sP (d:cR) (w:List Int):bm prog 109 [d.av,ints w] (fun r=>r= .fn 158 [.bC [ints w],.bC d.cs]):=by
 refine bc func109 ntmps109 ?_;(repeat' (first|refine bu (fun K hK=>?_);refine fy (.trans (bR 3 rfl rfl rfl) (bR 2 rfl rfl rfl)) ?_;simp only [go_sem,seval];refine bt cL ?_|intro (K:St→Prop) hK|intro hc|(refine Gf 99 ?_ ?_ ?_ ?_<;>try exact VX)|fail));refine VY ?_;rfl
abbrev E8 (l:List br):List AV:=l.flatMap kG
@[go_sem] theorem Uh (ids pins:List Nat) (l:List br):AV.jP ids pins (l.flatMap kG)=l.flatMap kG:=mK (ui l)
@[go_sem] theorem Ui (ids:List Nat) (l:List br):AV.j6 ids (l.flatMap kG)=true:=oB (ui l)
@[go_sem] theorem Ss (id:Nat) (c:List AV) (l:List br):AV.fC id c (l.flatMap kG)=l.flatMap kG:=iK (ui l)
def kD (d:cR) (k:Nat):List br:=(List.range k).flatMap fun (p:Nat)=>(kO d d.bV[p]!.ts).map fun a=>⟨(p:Int),a⟩
theorem lH (d:cR) (k:Nat):kD d (k+1)=kD d k++(kO d d.bV[k]!.ts).map fun a=>⟨(k:Int),a⟩:=by
 rw [kD,List.range_succ,qd8];simp [kD]
def aF (d:cR) (k:Nat) (pre r:List Int) (A:List br):List br:=A++(E7 d pre r).map fun a=>⟨(k:Int),a⟩
def aK (d:cR) (k:Nat) (pre:List Int) (t:Int) (r:List Int) (A:List br) (j:Nat):List br:=A++(Gp d pre t r j).map fun a=>⟨(k:Int),a⟩
theorem Rs (d:cR) (k:Nat) (pre:List Int) (A:List br):aF d k pre [] A=A++[⟨(k:Int),pre⟩]:=by rw [aF,A9];rfl
theorem Gq (d:cR) (k:Nat) (pre:List Int) (t:Int) (r:List Int) (A:List br):aK d k pre t r A 0=A:=by rw [aK,yi,qg5,qe5]
variable {j:Nat}
theorem On {d:cR} {A:List br} (h:j < (lM d t).length):aF d k (pre++[(lM d t)[j]]) r (aK d k pre t r A j)=aK d k pre t r A (j+1):=by
 rw [aF,aK,aK,qd6,← qb5,← yj h]
theorem K5 (d:cR) (k:Nat) (pre:List Int) (t:Int) (r:List Int) (A:List br):aK d k pre t r A (lM d t).length=aF d k pre (t::r) A:=by rw [aK,wU,aF]
theorem Ba (d:cR) (pre:List Int) (t:Int) (r:List Int) (j:Nat):Gp d pre t r j <+:E7 d pre (t::r):=by
 rw [← wU,Gp,Gp,qd2]
 conv=>rhs;rw [← qk3 j (lM d t),qd8]
 exact List.prefix_append _ _
theorem Rt (d:cR) (k:Nat) (pre:List Int) (t:Int) (r:List Int) (A:List br) (j:Nat):aK d k pre t r A j <+:aF d k pre (t::r) A:=by
 obtain ⟨u,hu⟩:=Ba d pre t r j;exact ⟨u.map fun a=>⟨(k:Int),a⟩,by rw [aK,aF,← hu,qb5,qd6]⟩
@[local go_sem] theorem j1:AV.dY .nilFunc= .v .nilFunc:=rfl
theorem Dd (d:cR) {n:Nat} (h:j≤n):(kD d j).length≤(kD d n).length:=by
 induction n with
 |zero=>
  obtain rfl:j=0:=by omega
  exact qb3 _
 |succ n ih=>
  by_cases hj:j=n+1
  ·rw [hj];exact qb3 _
  have:=ih ak;rw [lH,qa3];omega
variable {P:Program} {bh:Nat→Option TI} {all:Array Oper} {rest:List Oper} {d:Option Tmp} {op:Go.Op} {ty:TypeId} {pos:String} {bF:Array Edge} {s:St} {K:St→Prop}
theorem bN [hT:Tb P bh] (x:AV) (h:oZ bh op s= .ok x) (k:dj P all rest (s.put d x) K) (hnd:iL [(⟨d,op,ty,pos,bF,none⟩:Oper)]=true:=by rfl):dj P all (⟨d,op,ty,pos,bF,none⟩::rest) s K:=
 bD rfl hnd fun K1 hK1=>bt (by have:=mG (P:=P) (bh:=bh) op s;rw [h] at this;exact this) (hK1 _ k)
theorem bO [hT:Tb P bh] {c:Prop} {dc:Decidable c} {f:c→AV} (h:oZ bh op s=@PR.ex c dc f) (hc:c) (k:dj P all rest (s.put d (f hc)) K) (hnd:iL [(⟨d,op,ty,pos,bF,none⟩:Oper)]=true:=by rfl):dj P all (⟨d,op,ty,pos,bF,none⟩::rest) s K:=
 bD rfl hnd fun K1 hK1=>bt (by have:=mG (P:=P) (bh:=bh) op s;rw [h] at this;exact this hc) (hK1 _ k)
theorem K6 (d:cR) (h:zE d) (hv:iZ d=(0,0)):bm prog 107 [d.av] (fun r=>r= .dC (if (kD d d.bV.length).length≤400 then [bQ (kD d d.bV.length),fault 0 0] else [.fO,fault 10 (-8)])):=by
 have hdv:=K2 d;rw [hv] at hdv;have hp8:=h.p8;have hhi:=h.Ig;have hob:=h.obj;have ho8:=h.o8;refine bc func107 ntmps107 ?_;(repeat' (first|refine gC 157 ?_;refine bg (hdv) ?_|intro (K:St→Prop) hK|intro hc|(refine Gf 5 ?_ ?_ ?_ ?_<;>try exact VX)|fail));(refine cE (bR 1 rfl rfl rfl) ?_;simp only [go_sem,seval]);(refine cE (fe 5 0 500 2 32 66 aR aR al) ?_;simp only [go_sem,seval]);refine gR ?_;refine bY ?_;refine Go ?_ VX VX VX;refine bP (0::4::9::10::11::12::13::14::15::[6,7,8,18,19,20,21,22,23,24,25,26,28,29,30,31,32,33,34,35,36,37,38]) (fun k:Nat=>k≤d.bV.length∧(kD d k).length≤400) (fun k=>d.bV.length - k) (fun k=>[(18,.int k)]) (fun k=>[(5,⟨26,[.sl 2 32 500 0 (kD d k).length],true⟩),(500,⟨66,E8 (kD d k),false⟩)]) 0 ⟨qc6 _,by simp [kD]⟩ ?_ ?_
 ·refine bA ?_
  exact aZ
 rintro k ⟨hk,h400⟩ K hK;refine bA ?_;by_cases hlt:k < d.bV.length
 ·refine Gx 8 (fun _ hc K hK K hK=>?_) VX VX VX
  (refine cE (bR 6 rfl rfl rfl) ?_;simp only [go_sem,seval]);(refine cE (bR 7 rfl rfl rfl) ?_;simp only [go_sem,seval]);refine gR ?_;refine bY ?_;(repeat' (first|refine hK _ ?_;clear hK K|refine gC 109 ?_;refine bg (sP _ _) ?_|refine bE ?_));refine oC [0,4,7,9,10,11,12,13,14,15,19,20,21,22,23,24,25] ?_;simp only [kN,List.set_cons_succ,List.set_cons_zero];have hp:=h.Ua d.bV[k] (qa4 hlt);generalize hw:d.bV[k].ts=w at *;have hK9:=hK;refine kX 1000000001 aR aB ah ah ah func158 ntmps158 aR aR (fun y hyp hya hyb=>?_);simp only [go_sem,seval,dy,bl,qb8,qf1,qg6,qh3,Nat.reduceSub];have key:∀ (r pre:List Int) (A:List br),w=w.take pre.length++r→pre.length+r.length=w.length→A.length≤400→
   cX prog 159 [ints pre,.bC [ints w],.ptr 703 0,.bC d.cs,.ptr 704 0] [(2,⟨26,[.fO],true⟩),(3,⟨42,[.int 0,.int 0],true⟩),(5,⟨26,[.sl 2 32 500 0 A.length],true⟩),(500,⟨66,E8 A,false⟩),(1000000001,⟨1000000001,[.any,.bC d.cs,.ptr 2 0,.ptr 3 0,.any,.ptr 5 0,.bC [.int (k:Int)],.any,.any,.any,.any,.any,.any,.any,.any,.any,cY d.bV,.int (d.bV.length:Int),.int (k:Int),.any,.any,.any,.any,.any,.any,.any,.fn 158 [.bC [ints w],.bC d.cs],.any,.any,.any,.any,.any,.any,.any,.any,.any,.any,.any,.any,.any,.any],false⟩),(703,⟨246,[.yl 1000000001 y],true⟩),(704,⟨246,[.fn 159 [.bC [ints w],.ptr 703 0,.bC d.cs,.ptr 704 0]],true⟩)] [] [703,704]
    (fun x hp=>if (aF d k pre r A).length≤400 then x= .bool true∧hp=[(2,⟨26,[.fO],true⟩),(3,⟨42,[.int 0,.int 0],true⟩),(5,⟨26,[.sl 2 32 500 0 (aF d k pre r A).length],true⟩),(500,⟨66,E8 (aF d k pre r A),false⟩),(1000000001,⟨1000000001,[.any,.bC d.cs,.ptr 2 0,.ptr 3 0,.any,.ptr 5 0,.bC [.int (k:Int)],.any,.any,.any,.any,.any,.any,.any,.any,.any,cY d.bV,.int (d.bV.length:Int),.int (k:Int),.any,.any,.any,.any,.any,.any,.any,.fn 158 [.bC [ints w],.bC d.cs],.any,.any,.any,.any,.any,.any,.any,.any,.any,.any,.any,.any,.any,.any],false⟩),(703,⟨246,[.yl 1000000001 y],true⟩),(704,⟨246,[.fn 159 [.bC [ints w],.ptr 703 0,.bC d.cs,.ptr 704 0]],true⟩)]
     else x= .bool false∧hp=[(2,⟨26,[.fO],true⟩),(3,⟨42,[.int 10,.int (-8)],true⟩),(5,⟨26,[.sl 2 32 500 0 ((aF d k pre r A).take 400).length],true⟩),(500,⟨66,E8 ((aF d k pre r A).take 400),false⟩),(1000000001,⟨1000000003,[.any,.bC d.cs,.ptr 2 0,.ptr 3 0,.any,.ptr 5 0,.bC [.int (k:Int)],.any,.any,.any,.any,.any,.any,.any,.any,.any,cY d.bV,.int (d.bV.length:Int),.int (k:Int),.any,.any,.any,.any,.any,.any,.any,.fn 158 [.bC [ints w],.bC d.cs],.any,.any,.any,.any,.any,.any,.any,.any,.any,.any,.any,.any,.any,.any],false⟩),(703,⟨246,[.yl 1000000001 y],true⟩),(704,⟨246,[.fn 159 [.bC [ints w],.ptr 703 0,.bC d.cs,.ptr 704 0]],true⟩)]):=by
   intro r
   induction r with
   |nil=>
    intro pre A hr hl hA;rw [Rs];simp only [qf1,Nat.add_zero] at hl;by_cases h4:A.length=400
    ·have hcond:¬(A++[(⟨(k:Int),pre⟩:br)]).length≤400:=by rw [qa3,qb4];omega
     have htk:(A++[(⟨(k:Int),pre⟩:br)]).take 400=A:=List.take_left' h4;simp only [hcond,if_false,htk];refine cA func159 ntmps159 ?_;refine Gx 2 (fun hc K hK K hK=>?_) VX VX VX;refine jQ aR ?_;intro o ho;have ho2:o∈[[0,1,2,3,4],[1,0,2,3,4],[1,2,0,3,4]]:=by refine Eq.mp (congrArg (o∈·) ?_) ho;kernel_rfl
     simp only [qc2,qf9,or_false] at ho2;rcases ho2 with rfl|rfl|rfl
     ·simp only [qe3,qe9,qa0,qb9,qb2]
      (first|refine bN _ ay ?_|refine bO ay aH ?_);simp only [go_sem,seval,dy,bl];(first|refine bN _ ay ?_|refine bO ay aH ?_);simp only [go_sem,seval,dy,bl];refine bD rfl rfl (fun K1 hK1=>?_);refine cM (dk _) aR (fun x hx=>?_);obtain rfl:=hx;simp only [go_sem,seval];refine hK1 _ ?_;clear hK1 K1;refine b8 1000000002 hyp hya hyb aR aR aR aR aR aB aB aB aR ah aR aR ?_;simp only [go_sem,seval];refine gR ?_;refine bY ?_;refine ⟨_,_,Le.refl _,by rfl,by rfl,?_⟩;simp only [go_sem,seval];refine Go (fun hc K hK=>?_) VX VX VX;refine ⟨_,_,_,1000000003,Le.refl _,by rfl,by rfl,by rfl,rfl,?_⟩;simp only [go_sem,seval];refine bD rfl rfl (fun K1 hK1=>?_);refine bt dn ?_;simp only [go_sem,seval];refine hK1 _ ?_;clear hK1 K1;refine cH ?_;refine iy ?_ VX VX VX;exact VZ
     ·simp only [qe3,qe9,qa0,qb9,qb2]
      (first|refine bN _ ay ?_|refine bO ay aH ?_);simp only [go_sem,seval,dy,bl];(first|refine bN _ ay ?_|refine bO ay aH ?_);simp only [go_sem,seval,dy,bl];refine bD rfl rfl (fun K1 hK1=>?_);refine cM (dk _) aR (fun x hx=>?_);obtain rfl:=hx;simp only [go_sem,seval];refine hK1 _ ?_;clear hK1 K1;refine b8 1000000002 hyp hya hyb aR aR aR aR aR aB aB aB aR ah aR aR ?_;simp only [go_sem,seval];refine gR ?_;refine bY ?_;refine ⟨_,_,Le.refl _,by rfl,by rfl,?_⟩;simp only [go_sem,seval];refine Go (fun hc K hK=>?_) VX VX VX;refine ⟨_,_,_,1000000003,Le.refl _,by rfl,by rfl,by rfl,rfl,?_⟩;simp only [go_sem,seval];refine bD rfl rfl (fun K1 hK1=>?_);refine bt dn ?_;simp only [go_sem,seval];refine hK1 _ ?_;clear hK1 K1;refine cH ?_;refine iy ?_ VX VX VX;exact VZ
     simp only [qe3,qe9,qa0,qb9,qb2];(first|refine bN _ ay ?_|refine bO ay aH ?_);simp only [go_sem,seval,dy,bl];refine bD rfl rfl (fun K1 hK1=>?_);refine cM (dk _) aR (fun x hx=>?_);obtain rfl:=hx;simp only [go_sem,seval];refine hK1 _ ?_;clear hK1 K1;(first|refine bN _ ay ?_|refine bO ay aH ?_);simp only [go_sem,seval,dy,bl];refine b8 1000000002 hyp hya hyb aR aR aR aR aR aB aB aB aR ah aR aR ?_;simp only [go_sem,seval];refine gR ?_;refine bY ?_;refine ⟨_,_,Le.refl _,by rfl,by rfl,?_⟩;simp only [go_sem,seval];refine Go (fun hc K hK=>?_) VX VX VX;refine ⟨_,_,_,1000000003,Le.refl _,by rfl,by rfl,by rfl,rfl,?_⟩;simp only [go_sem,seval];refine bD rfl rfl (fun K1 hK1=>?_);refine bt dn ?_;simp only [go_sem,seval];refine hK1 _ ?_;clear hK1 K1;refine cH ?_;refine iy ?_ VX VX VX;exact VZ
    have hcond:(A++[(⟨(k:Int),pre⟩:br)]).length≤400:=by rw [qa3,qb4];omega
    simp only [hcond,if_true];refine cA func159 ntmps159 ?_;refine Gx 2 (fun hc K hK K hK=>?_) VX VX VX;refine jQ aR ?_;intro o ho;have ho2:o∈[[0,1,2,3,4],[1,0,2,3,4],[1,2,0,3,4]]:=by refine Eq.mp (congrArg (o∈·) ?_) ho;kernel_rfl
    simp only [qc2,qf9,or_false] at ho2;rcases ho2 with rfl|rfl|rfl
    ·simp only [qe3,qe9,qa0,qb9,qb2]
     (first|refine bN _ ay ?_|refine bO ay aH ?_);simp only [go_sem,seval,dy,bl];(first|refine bN _ ay ?_|refine bO ay aH ?_);simp only [go_sem,seval,dy,bl];refine bD rfl rfl (fun K1 hK1=>?_);refine cM (dk _) aR (fun x hx=>?_);obtain rfl:=hx;simp only [go_sem,seval];refine hK1 _ ?_;clear hK1 K1;refine b8 1000000002 hyp hya hyb aR aR aR aR aR aB aB aB aR ah aR aR ?_;simp only [go_sem,seval];refine gR ?_;refine bY ?_;refine ⟨_,_,Le.refl _,by rfl,by rfl,?_⟩;simp only [go_sem,seval];refine Go (fun hc=>?_) VX VX VX;(try simp only [Nat.reduceBEq,qc1,qc5,qa8,reduceIte]);refine ⟨_,_,_,1000000001,Le.refl _,by rfl,by rfl,by rfl,rfl,?_⟩;simp only [go_sem,seval];refine bD rfl rfl (fun K1 hK1=>?_);refine bt dn ?_;simp only [go_sem,seval];refine hK1 _ ?_;clear hK1 K1;refine cH ?_;refine Go ?_ VX VX VX;exact VZ
    ·simp only [qe3,qe9,qa0,qb9,qb2]
     (first|refine bN _ ay ?_|refine bO ay aH ?_);simp only [go_sem,seval,dy,bl];(first|refine bN _ ay ?_|refine bO ay aH ?_);simp only [go_sem,seval,dy,bl];refine bD rfl rfl (fun K1 hK1=>?_);refine cM (dk _) aR (fun x hx=>?_);obtain rfl:=hx;simp only [go_sem,seval];refine hK1 _ ?_;clear hK1 K1;refine b8 1000000002 hyp hya hyb aR aR aR aR aR aB aB aB aR ah aR aR ?_;simp only [go_sem,seval];refine gR ?_;refine bY ?_;refine ⟨_,_,Le.refl _,by rfl,by rfl,?_⟩;simp only [go_sem,seval];refine Go (fun hc=>?_) VX VX VX;(try simp only [Nat.reduceBEq,qc1,qc5,qa8,reduceIte]);refine ⟨_,_,_,1000000001,Le.refl _,by rfl,by rfl,by rfl,rfl,?_⟩;simp only [go_sem,seval];refine bD rfl rfl (fun K1 hK1=>?_);refine bt dn ?_;simp only [go_sem,seval];refine hK1 _ ?_;clear hK1 K1;refine cH ?_;refine Go ?_ VX VX VX;exact VZ
    simp only [qe3,qe9,qa0,qb9,qb2];(first|refine bN _ ay ?_|refine bO ay aH ?_);simp only [go_sem,seval,dy,bl];refine bD rfl rfl (fun K1 hK1=>?_);refine cM (dk _) aR (fun x hx=>?_);obtain rfl:=hx;simp only [go_sem,seval];refine hK1 _ ?_;clear hK1 K1;(first|refine bN _ ay ?_|refine bO ay aH ?_);simp only [go_sem,seval,dy,bl];refine b8 1000000002 hyp hya hyb aR aR aR aR aR aB aB aB aR ah aR aR ?_;simp only [go_sem,seval];refine gR ?_;refine bY ?_;refine ⟨_,_,Le.refl _,by rfl,by rfl,?_⟩;simp only [go_sem,seval];refine Go (fun hc=>?_) VX VX VX;(try simp only [Nat.reduceBEq,qc1,qc5,qa8,reduceIte]);refine ⟨_,_,_,1000000001,Le.refl _,by rfl,by rfl,by rfl,rfl,?_⟩;simp only [go_sem,seval];refine bD rfl rfl (fun K1 hK1=>?_);refine bt dn ?_;simp only [go_sem,seval];refine hK1 _ ?_;clear hK1 K1;refine cH ?_;refine Go ?_ VX VX VX;exact VZ
   |cons t r ih=>
    intro pre A hr hl hA;have hlen:(t::r).length=r.length+1:=rfl;rw [hlen] at hl;have hne:¬((pre.length:Int)=(w.length:Int)):=by omega
    have hwt:w[pre.length]?=some t:=by
     have h1:(w.take pre.length).length=pre.length:=by rw [qc0];omega
     have h2:(w.take pre.length++t::r)[pre.length]?=some t:=by rw [qc7 (Nat.le_of_eq h1),h1,qm0];rfl
     rwa [← hr] at h2
    have hpw:pre.length < w.length:=by omega
    have hwe:w[pre.length]=t:=by rw [qa7 hpw] at hwt;exact ql1 hwt
    refine cA func159 ntmps159 ?_;(repeat' (first|refine gD 3 ?_;refine Wf ?_|refine dH 160 ?_;refine bB (KV _ _ _ aE aE aE) ?_|intro (K:St→Prop) hK|intro hc|(refine Gf 99 ?_ ?_ ?_ ?_<;>try exact VX)|fail));have hoe:wB d.types d.dg t d.dg.length=lM d t:=rfl;simp only [hwe,hoe];have hof:=nH d.types d.dg t d.dg.length;rw [hoe] at hof;refine bP [6,8,29,30,31,32,33,34,35,36,37,38,39,40,41] (fun j:Nat=>j≤(lM d t).length∧(aK d k pre t r A j).length≤400) (fun j=>(lM d t).length - j) (fun j=>[(29,.int j)]) (fun j=>[(5,⟨26,[.sl 2 32 500 0 (aK d k pre t r A j).length],true⟩),(500,⟨66,E8 (aK d k pre t r A j),false⟩)]) 0 ⟨qc6 _,by rw [Gq];exact hA⟩ ?_ ?_
    ·rw [Gq]
     refine bA ?_;exact aZ
    rintro j ⟨hj,hj4⟩ K hK;refine bA ?_;by_cases hlt:j < (lM d t).length
    ·have ihj:=ih (pre++[(lM d t)[j]]) (aK d k pre t r A j) (by
      rw [qa3,qb4,List.take_add_one,hwt,Option.toList_some,qd6];exact hr) (by rw [qa3,qb4];omega) hj4
     rw [On hlt] at ihj;by_cases hle:(aK d k pre t r A (j+1)).length≤400
     ·simp only [hle,if_true] at ihj
      have hprb:(pre.length+1) * 8≤140737488355328:=by omega
      simp only [ints,qb5,qd4,qg5] at ihj;refine Gx 6 (fun _ hc K hK K hK=>?_) VX VX VX;(repeat' (first|refine gD 6 ?_;refine vP (s1:=?_) (.it 1 0 (.it 3 0 (.Aj 0 2 4 (.fk 2 4 (.it 4 1 (.it 5 3 (.it 6 3 (.it 7 1 .nil)))) (.it 2 1 (.it 5 3 (.it 6 3 (.it 7 1 .nil))))) (.fk 0 4 (.it 4 1 (.it 5 3 (.it 6 3 (.it 7 1 .nil)))) (.pY 0 1 5 3 (.it 5 3 (.it 6 3 (.it 7 1 .nil))) (.it 0 1 (.it 6 3 (.it 7 1 .nil))))) (.fk 0 2 (.it 2 1 (.it 5 3 (.it 6 3 (.it 7 1 .nil)))) (.pY 0 1 5 3 (.it 5 3 (.it 6 3 (.it 7 1 .nil))) (.it 0 1 (.it 6 3 (.it 7 1 .nil)))))))) ?_ ?_;rotate_left|refine c8 (fun K hK=>?_);(first|(refine mB (d:=some 35) (rv 35000 _) aR (by first|exact jE al|(intro id hid;simp only [qc2,qf9,or_false] at hid;rcases hid with rfl|rfl|rfl|rfl<;>first|rfl|(simp only [go_sem,seval];done)|(simp only [St.free,cz,go_sem,seval];done)|(simp only [go_sem,seval];rfl)|(simp [St.free,cz,AV.bz,AV.cq];try exact ef _ _ _ fun _=>rfl))) (fun x hp hx=>?_);obtain ⟨rfl,rfl⟩:=hx)|refine cN (d:=37) aJ aR aR aR aR ?_)|refine yP ?_;refine nR ?_|refine fQ (fun K hK=>?_);refine ck ?_|intro (K:St→Prop) hK|intro hc|(refine tG 99 ?_ ?_ ?_ ?_<;>try exact VX)|fail))
      all_goals (try (refine fQ (fun K hK=>?_);(try simp only [Nat.reduceBEq,qc5,qc1,qa8,reduceIte]);refine fy (dL (f:=AV.int) 35005 1 8 (pre.length+1) (pre++[(lM d t)[j]]) aR (by rw [jV,qb5];rfl) aC (fun _=>rfl) (fun _=>rfl) ak) ?_;simp only [AV.dT,sealS_any,sealS_v,sealS_isl,sealS_iptr,di,dz,sealS_agg,sealS_tup,sealS_fn,purge_agg,purge_tup,purge_fn,and_self,AV.bz,AV.cq,qf0,go_sem,seval,qb5,qd4,qg5];(refine eu aR (ihj) au (fun _ h=>by cases h) aR (fun x hp' hx=>?_);obtain ⟨rfl,rfl⟩:=hx<;>simp only [go_sem,seval,dy,bl]);refine hK _ ?_;clear hK K;refine HB VX VX VX VX))
      refine iy ?_ VX VX VX;refine ⟨j+1,⟨by omega,hle⟩,by omega,?_⟩;refine bA ?_;exact aZ
     simp only [hle,if_false] at ihj;obtain ⟨u,hu⟩:=Rt d k pre t r A (j+1);have hgt:¬(aF d k pre (t::r) A).length≤400:=by rw [← hu,qa3];omega
     have htk:(aK d k pre t r A (j+1)).take 400=(aF d k pre (t::r) A).take 400:=by rw [← hu,List.take_append_of_le_length ak]
     rw [htk] at ihj;have hprb:(pre.length+1) * 8≤140737488355328:=by omega
     simp only [ints,qb5,qd4,qg5] at ihj;refine Gx 6 (fun _ hc K hK K hK=>?_) VX VX VX;(repeat' (first|refine gD 6 ?_;refine vP (s1:=?_) (.it 1 0 (.it 3 0 (.Aj 0 2 4 (.fk 2 4 (.it 4 1 (.it 5 3 (.it 6 3 (.it 7 1 .nil)))) (.it 2 1 (.it 5 3 (.it 6 3 (.it 7 1 .nil))))) (.fk 0 4 (.it 4 1 (.it 5 3 (.it 6 3 (.it 7 1 .nil)))) (.pY 0 1 5 3 (.it 5 3 (.it 6 3 (.it 7 1 .nil))) (.it 0 1 (.it 6 3 (.it 7 1 .nil))))) (.fk 0 2 (.it 2 1 (.it 5 3 (.it 6 3 (.it 7 1 .nil)))) (.pY 0 1 5 3 (.it 5 3 (.it 6 3 (.it 7 1 .nil))) (.it 0 1 (.it 6 3 (.it 7 1 .nil)))))))) ?_ ?_;rotate_left|refine c8 (fun K hK=>?_);(first|(refine mB (d:=some 35) (rv 35000 _) aR (by first|exact jE al|(intro id hid;simp only [qc2,qf9,or_false] at hid;rcases hid with rfl|rfl|rfl|rfl<;>first|rfl|(simp only [go_sem,seval];done)|(simp only [St.free,cz,go_sem,seval];done)|(simp only [go_sem,seval];rfl)|(simp [St.free,cz,AV.bz,AV.cq];try exact ef _ _ _ fun _=>rfl))) (fun x hp hx=>?_);obtain ⟨rfl,rfl⟩:=hx)|refine cN (d:=37) aJ aR aR aR aR ?_)|refine yP ?_;refine nR ?_|refine fQ (fun K hK=>?_);refine ck ?_|intro (K:St→Prop) hK|intro hc|(refine tG 99 ?_ ?_ ?_ ?_<;>try exact VX)|fail))
     all_goals (try (refine fQ (fun K hK=>?_);(try simp only [Nat.reduceBEq,qc5,qc1,qa8,reduceIte]);refine fy (dL (f:=AV.int) 35005 1 8 (pre.length+1) (pre++[(lM d t)[j]]) aR (by rw [jV,qb5];rfl) aC (fun _=>rfl) (fun _=>rfl) ak) ?_;simp only [AV.dT,sealS_any,sealS_v,sealS_isl,sealS_iptr,di,dz,sealS_agg,sealS_tup,sealS_fn,purge_agg,purge_tup,purge_fn,and_self,AV.bz,AV.cq,qf0,go_sem,seval,qb5,qd4,qg5];(refine eu aR (ihj) au (fun _ h=>by cases h) aR (fun x hp' hx=>?_);obtain ⟨rfl,rfl⟩:=hx<;>simp only [go_sem,seval,dy,bl]);refine hK _ ?_;clear hK K;refine HB VX VX VX VX))
     refine Go ?_ VX VX VX;simp only [hgt,if_false];exact VZ
    obtain rfl:j=(lM d t).length:=by omega
    rw [K5] at hj4;simp only [K5];refine iy (fun hc K hK=>?_) VX VX VX;simp only [hj4,if_true];exact VZ
  refine bH (fun K hK=>?_);refine dU ?_;refine cn rfl (fun K1 hK1=>?_);refine l9 (d:=3) 703 ah (.inl rfl) ah ?_;simp only [go_sem,seval];refine hK1 _ ?_;clear hK1 K1;refine lr ?_;refine hK _ ?_;clear hK K;refine bH (fun K hK=>?_);refine dU ?_;refine cn rfl (fun K1 hK1=>?_);refine ov (d:=4) 704 ah ?_;simp only [go_sem,seval];refine hK1 _ ?_;clear hK1 K1;refine lr ?_;refine hK _ ?_;clear hK K;have kb:=xH (args':=[.fO,.bC [ints w],.ptr 703 0,.bC d.cs,.ptr 704 0]) (key w [] (kD d k) aC aC h400) ⟨iO.nil 1 8,iO.ic _,iO.ic _,iO.ic _,iO.ic _,trivial⟩;have hatk:aF d k [] w (kD d k)=kD d (k+1):=by rw [lH,aF,E7,show (d.bV[k]!).ts=w by rw [← hw,getElem!_pos d.bV k hlt]];simp
  rw [hatk] at kb;clear key;refine Gx 3 (fun K hK=>?_) VX VX VX;refine bu (fun K hK=>?_);refine bt cL ?_;simp only [go_sem,seval];refine hK _ ?_;clear hK K;refine Gx 3 ?_ VX VX VX;by_cases hle:(kD d (k+1)).length≤400
  ·simp only [hle,if_true] at kb
   refine gR ?_;refine bY ?_;refine bu (fun K hK=>?_);(refine eu aR (kb) au (fun _ h=>by cases h) aR (fun x hp' hx=>?_);obtain ⟨rfl,rfl⟩:=hx<;>simp only [go_sem,seval,dy,bl]);refine hK _ ?_;clear hK K;(repeat' (refine gW ?_;refine eo ?_));refine ⟨_,_,.normal,1000000001,_,Le.refl _,iI,rfl,by rfl,?_⟩;simp only [go_sem,seval,dy,bl];refine hK9 _ ?_;clear hK9 hK;refine Go ?_ VX VX VX;refine ⟨k+1,⟨by omega,hle⟩,by omega,?_⟩;refine bA ?_;exact aZ
  simp only [hle,if_false] at kb;refine gR ?_;refine bY ?_;refine bu (fun K hK=>?_);(refine eu aR (kb) au (fun _ h=>by cases h) aR (fun x hp' hx=>?_);obtain ⟨rfl,rfl⟩:=hx<;>simp only [go_sem,seval,dy,bl]);refine hK _ ?_;clear hK K;(repeat' (refine gW ?_;refine eo ?_));refine ⟨_,_,.ret,1000000003,_,Le.refl _,iI,rfl,by rfl,?_⟩;simp only [go_sem,seval,dy,bl];(repeat' fail);have hgt:¬(kD d d.bV.length).length≤400:=fun hc=>hle (qd3 (Dd d ak) hc);simp only [hgt,if_false];refine V2 ?_;rfl
 obtain rfl:k=d.bV.length:=by omega
 refine HA 14 (fun hc K hK K hK=>?_) VX VX VX;(refine cE (cV (f:=br.av) 500 2 32 (kD d d.bV.length).length (kD d d.bV.length) aR (mS _) aN (fun _=>rfl) (fun _=>rfl) ak) ?_;try simp only [go_sem,seval]);refine Go ?_ VX VX VX;refine V2 ?_;rw [if_pos h400];rfl
end
section
attribute [local irreducible] dP fv mu lV dj PV ff ew AW bm da en dQ cX Ab.Fin fi er gF iN RV kh Le eV fL ma iG kM dJ dt
set_option maxHeartbeats 8000000
abbrev Vv (d:cR):List Bool:=eJ d.bV.length (fX d)
abbrev Vw (d:cR):List Bool:=eJ d.bV.length (nf d)
abbrev cR.gs (d:cR):List AV:=[cW d.types,cW d.dg,cY d.bV,dV d.cU,bQ d.init,b9 d.goal,Gl (Vv d),Gl (Vw d)]
theorem K7 (d:cR) (h:zE d) (hv:iZ d=(0,0)):bm prog 49 [d.av] (fun r=>if (kD d d.bV.length).length≤400 then r= .dC [.bC d.gs,fault 0 0] else r= .dC [.v (.pointer none),fault 10 (-8)]):=by
 have hat:=K6 d h hv;have hfl:=EZ d h;by_cases h4:(kD d d.bV.length).length≤400
 ·simp only [h4,if_true] at hat ⊢
  refine bc func49 ntmps49 ?_;(repeat' (first|refine gC 107 ?_;refine bg (hat) ?_|refine gC 108 ?_;refine bg (hfl) ?_|intro (K:St→Prop) hK|intro hc|(refine Gf 6 ?_ ?_ ?_ ?_<;>try exact VX)|fail));(refine cE (bR 18 rfl rfl rfl) ?_;simp only [go_sem,seval]);refine Go ?_ VX VX VX;refine V4 ?_;rfl
 simp only [h4,if_false] at hat ⊢;refine bc func49 ntmps49 ?_;(repeat' (first|refine gD 3 ?_;refine dK (.r 0 2 (.it 2 3 .nil)) ?_|refine gC 107 ?_;refine bg (hat) ?_|refine gO ?_;refine kJ ?_|intro (K:St→Prop) hK|intro hc|(refine rh 99 ?_ ?_ ?_ ?_<;>try exact VX)|fail));refine V4 ?_;rfl
def pR (d:cR) (x:bG):Bool:=j8 d.init x.x != x.neg
theorem K8 (d:cR) (x:bG):bm prog 53 [.bC d.gs,x.av] (fun r=>r= .bool (pR d x)):=by
 have hh:=Bb d.init x.x;obtain ⟨neg,a⟩:=x;unfold pR;simp only at hh ⊢;generalize j8 d.init a=b at *;refine bc func53 ntmps53 ?_;(repeat' (first|refine gD 1 ?_;refine dK (.r 0 7 (.r 8 2 (.it 7 1 (.r 10 2 .nil)))) ?_|refine dH 116 ?_;refine bB (hh) ?_|intro (K:St→Prop) hK|intro hc|(refine Gf 99 ?_ ?_ ?_ ?_<;>try exact VX)|fail));refine VY ?_;rfl
abbrev lN (x:bG):List AV:=[.bool x.neg,.int x.x.p,ints x.x.a]
@[go_sem] theorem dS (l:List bG):(l.map bG.av).flatMap AV.cells=l.flatMap lN:=by rw [qg9];rfl
@[go_sem] theorem Bc (a b:List bG):(a++b).flatMap lN=a.flatMap lN++b.flatMap lN:=qd8
@[go_sem] theorem Uj (l:List bG):(l.flatMap lN).length=l.length * 3:=by
 induction l with
 |nil=>rfl
 |cons w l ih=>simp [qd5,ih];omega
@[go_sem] theorem Su (id:Nat) (l:List bG):AV.cG id (l.flatMap lN)=l.flatMap lN:=ir id lN l fun _=>rfl
@[go_sem] theorem Tr (id:Nat) (l:List bG):AV.bz id (l.flatMap lN)=false:=ef id lN l fun _=>rfl
theorem wV (l:List bG):AV.cu (l.flatMap lN)=true:=gu lN l fun _=>rfl
@[go_sem] theorem Sv (id sz bw n:Nat) (es:List AV) (l:List bG):AV.dM id sz bw n es (l.flatMap lN)=l.flatMap lN:=e8 (wV l)
@[go_sem] theorem Uk (ids pins:List Nat) (l:List bG):AV.jP ids pins (l.flatMap lN)=l.flatMap lN:=mK (wV l)
@[go_sem] theorem Ul (ids:List Nat) (l:List bG):AV.j6 ids (l.flatMap lN)=true:=oB (wV l)
@[go_sem] theorem Sw (id:Nat) (c:List AV) (l:List bG):AV.fC id c (l.flatMap lN)=l.flatMap lN:=iK (wV l)
abbrev fu (args:List Int) (x:bG):bG:=⟨x.neg,dw args x.x⟩
abbrev y5 (x:bG):bG:=⟨!x.neg,x.x⟩
def nI (fl:Int→Bool) (cB:List br) (args:List Int):List bG→List bG→Option (List bG)
 |[],out=>some out
 |x::l,out=>
  if fl x.x.p=true then
   if fY out (y5 (fu args x))=true then none
   else if fY out (fu args x)=true then nI fl cB args l out
   else nI fl cB args l (out++[fu args x])
  else if j8 cB (dw args x.x)=x.neg then none else nI fl cB args l out
def K9:Option (List bG)→AV
 |some l=>.dC [b9 l,.bool true]
 |none=>.dC [.fO,.bool false]
theorem La (d:cR) (ts:List Int) (l:List bG) (args:List Int) (h8:l.length≤8) (hl:∀ x∈l,AP d ts x.x) (ha:args.length=ts.length) :
 bm prog 114 [.bC d.gs,b9 l,ints args] (fun r=>r=K9 (nI (hasB (fX d)) d.init args l [])):=by
 obtain ⟨R,hR⟩:∃ r,nI (hasB (fX d)) d.init args l []=r:=⟨_,rfl⟩
 rw [hR];refine bc func114 ntmps114 ?_;refine Go (fun K hK=>?_) VX VX VX;refine fD 8 100 3 40 68 ?_;refine ba [6,7,8,10,11,14,15,16,17,18,19,20,21,22,23,24,25,26,27,28,29,30,31,32,33,34,35,36,37,38,39,40,41,42,43,44,45,46,47,48,49,50,51,52,53,54,55,56,57,58,59,60,61] (fun q:Nat×List bG=>q.1≤l.length∧q.2.length≤q.1∧nI (hasB (fX d)) d.init args (l.drop q.1) q.2=R) (fun q=>l.length - q.1) (fun q=>[(14,.int q.1),(8,.sl 3 40 100 0 q.2.length)]) (fun q=>[(100,⟨68,q.2.flatMap lN,false⟩)]) (0,[]) ⟨qc6 _,qb3 _,hR⟩ ?_ ?_
 ·refine bA ?_
  exact aZ
 rintro ⟨k,out⟩ ⟨hk,hol,he⟩ K hK;simp only at hk hol he ⊢;refine bA ?_;by_cases hlt:k < l.length
 ·have hx:=hl l[k] (qa4 hlt)
  have hdr:l.drop k=l[k]::l.drop (k+1):=qe2 hlt;rw [hdr] at he;unfold nI at he;refine Gx 5 (fun _ hc K hK K hK=>?_) VX VX VX;generalize l[k]=x at *;obtain ⟨neg,at1⟩:=x;obtain ⟨p,hpe⟩:∃ p:Nat,at1.p=p:=⟨at1.p.toNat,(qg3 hx.p0).symm⟩
  have hpn:p < d.bV.length:=by have:=hx.p1;simp only at this;omega
  have hai:sQ args.length at1:=fun i hi=>by have:=(hx.args i hi).1;rw [ha];exact this
  have hmk:p < (eJ d.bV.length (fX d)).length:=by rw [jI];exact hpn
  have hb:=Gr at1 args hai;have hA:=Bb d.init (dw args at1);simp only at he hb hA;obtain ⟨pp,aa⟩:=at1;simp only at hpe;subst hpe;have hmg:=ub hmk;simp only at he;cases hf:hasB (fX d) (p:Int) with
  |false=>
   rw [hf] at hmg he;simp only [qa8,if_false] at he;by_cases hai2:j8 d.init (dw args ⟨(p:Int),aa⟩)=neg
   ·rw [if_pos hai2] at he
    subst he;(repeat' (first|refine gD 5 ?_;refine vP (s1:=?_) (.r 0 5 (.fk 5 7 (.it 6 0 (.it 7 1 (.it 8 3 .nil))) (.it 5 1 (.it 6 0 (.it 8 3 .nil))))) ?_ ?_;rotate_left|refine gD 6 ?_;refine dK (.r 0 11 .nil) ?_|refine gD 7 ?_;refine Wc ?_|refine dH 162 ?_;refine bB (hb) ?_|refine dH 116 ?_;refine bB (hA) ?_|refine c8 (fun K hK=>?_);refine eZ (d:=11) 11 al ?_|refine gO ?_;refine kJ ?_|intro (K:St→Prop) hK|intro hc|(refine rh 99 ?_ ?_ ?_ ?_<;>try exact VX)|fail))
    all_goals first
     |(exfalso;simp_all;done)
     |((refine V8 ?_);rfl)
   rw [if_neg hai2] at he;(repeat' (first|refine gD 5 ?_;refine vP (s1:=?_) (.r 0 5 (.fk 5 7 (.it 6 0 (.it 7 1 (.it 8 3 .nil))) (.it 5 1 (.it 6 0 (.it 8 3 .nil))))) ?_ ?_;rotate_left|refine gD 6 ?_;refine dK (.r 0 11 .nil) ?_|refine gD 7 ?_;refine Wc ?_|refine dH 162 ?_;refine bB (hb) ?_|refine dH 116 ?_;refine bB (hA) ?_|refine c8 (fun K hK=>?_);refine eZ (d:=11) 11 al ?_|refine gO ?_;refine kJ ?_|intro (K:St→Prop) hK|intro hc|(refine rh 99 ?_ ?_ ?_ ?_<;>try exact VX)|fail))
   all_goals first
    |(exfalso;simp_all;done)
    |skip
   refine ⟨(k+1,out),⟨by simp only;omega,by simp only;omega,he⟩,by simp only;omega,?_⟩;refine bA ?_;exact aZ
  |true=>
   rw [hf] at hmg he;simp only [if_true] at he;have hn:=Ru (fu args ⟨neg,⟨(p:Int),aa⟩⟩);have h1:=wW out (y5 (fu args ⟨neg,⟨(p:Int),aa⟩⟩));have h2:=wW out (fu args ⟨neg,⟨(p:Int),aa⟩⟩);generalize fY out (y5 (fu args ⟨neg,⟨(p:Int),aa⟩⟩))=b1 at *;generalize fY out (fu args ⟨neg,⟨(p:Int),aa⟩⟩)=b2 at *;cases b1 with
   |true=>
    simp only [if_true] at he;subst he;(repeat' (first|refine gD 5 ?_;refine vP (s1:=?_) (.r 0 5 (.fk 5 7 (.it 6 0 (.it 7 1 (.it 8 3 .nil))) (.it 5 1 (.it 6 0 (.it 8 3 .nil))))) ?_ ?_;rotate_left|refine gD 6 ?_;refine dK (.r 0 11 .nil) ?_|refine gD 7 ?_;refine Wc ?_|refine dH 162 ?_;refine bB (hb) ?_|refine dH 116 ?_;refine bB (hA) ?_|refine gC 163 ?_;refine bg (hn) ?_|refine bu (fun K hK=>?_);(refine jU (dL (f:=bG.av) 100 3 40 out.length out aR (dS _) aP (fun _=>rfl) (fun _=>rfl) ak) (by first|(simp only [go_sem,seval,AV.dT,sealS_any,sealS_v,sealS_isl,sealS_iptr,di,dz,sealS_agg,sealS_tup,sealS_fn,purge_agg,purge_tup,purge_fn,and_self,AV.bz,AV.cq,qf0];done)|(simp only [go_sem,seval,AV.dT,sealS_any,sealS_v,sealS_isl,sealS_iptr,di,dz,sealS_agg,sealS_tup,sealS_fn,purge_agg,purge_tup,purge_fn,and_self,AV.bz,AV.cq,qf0];rfl)) h1 aR (fun x hx=>?_);obtain rfl:=hx;refine ⟨rfl,?_⟩)|refine c8 (fun K hK=>?_);refine eZ (d:=11) 11 al ?_|refine gO ?_;refine kJ ?_|intro (K:St→Prop) hK|intro hc|(refine rh 99 ?_ ?_ ?_ ?_<;>try exact VX)|fail))
    all_goals first
     |(exfalso;simp_all;done)
     |((refine V8 ?_);rfl)
   |false=>
    simp only [qa8,if_false] at he;cases b2 with
    |true=>
     simp only [if_true] at he;(repeat' (first|refine gD 5 ?_;refine vP (s1:=?_) (.r 0 5 (.fk 5 7 (.it 6 0 (.it 7 1 (.it 8 3 .nil))) (.it 5 1 (.it 6 0 (.it 8 3 .nil))))) ?_ ?_;rotate_left|refine gD 6 ?_;refine dK (.r 0 11 .nil) ?_|refine gD 7 ?_;refine Wc ?_|refine dH 162 ?_;refine bB (hb) ?_|refine dH 116 ?_;refine bB (hA) ?_|refine gC 163 ?_;refine bg (hn) ?_|refine bu (fun K hK=>?_);(first|((refine jU (dL (f:=bG.av) 100 3 40 out.length out aR (dS _) aP (fun _=>rfl) (fun _=>rfl) ak) (by first|(simp only [go_sem,seval,AV.dT,sealS_any,sealS_v,sealS_isl,sealS_iptr,di,dz,sealS_agg,sealS_tup,sealS_fn,purge_agg,purge_tup,purge_fn,and_self,AV.bz,AV.cq,qf0];done)|(simp only [go_sem,seval,AV.dT,sealS_any,sealS_v,sealS_isl,sealS_iptr,di,dz,sealS_agg,sealS_tup,sealS_fn,purge_agg,purge_tup,purge_fn,and_self,AV.bz,AV.cq,qf0];rfl)) h1 aR (fun x hx=>?_);obtain rfl:=hx;refine ⟨rfl,?_⟩))|((refine jU (dL (f:=bG.av) 100 3 40 out.length out aR (dS _) aP (fun _=>rfl) (fun _=>rfl) ak) (by first|(simp only [go_sem,seval,AV.dT,sealS_any,sealS_v,sealS_isl,sealS_iptr,di,dz,sealS_agg,sealS_tup,sealS_fn,purge_agg,purge_tup,purge_fn,and_self,AV.bz,AV.cq,qf0];done)|(simp only [go_sem,seval,AV.dT,sealS_any,sealS_v,sealS_isl,sealS_iptr,di,dz,sealS_agg,sealS_tup,sealS_fn,purge_agg,purge_tup,purge_fn,and_self,AV.bz,AV.cq,qf0];rfl)) h2 aR (fun x hx=>?_);obtain rfl:=hx;refine ⟨rfl,?_⟩)))|refine c8 (fun K hK=>?_);refine eZ (d:=11) 11 al ?_|refine gO ?_;refine kJ ?_|intro (K:St→Prop) hK|intro hc|(refine rh 99 ?_ ?_ ?_ ?_<;>try exact VX)|fail))
     all_goals first
      |(exfalso;simp_all;done)
      |skip
     refine ⟨(k+1,out),⟨by simp only;omega,by simp only;omega,he⟩,by simp only;omega,?_⟩;refine bA ?_;exact aZ
    |false=>
     simp only [qa8,if_false] at he;(repeat' (first|refine gD 5 ?_;refine vP (s1:=?_) (.r 0 5 (.fk 5 7 (.it 6 0 (.it 7 1 (.it 8 3 .nil))) (.it 5 1 (.it 6 0 (.it 8 3 .nil))))) ?_ ?_;rotate_left|refine gD 6 ?_;refine dK (.r 0 11 .nil) ?_|refine gD 7 ?_;refine Wc ?_|refine dH 162 ?_;refine bB (hb) ?_|refine dH 116 ?_;refine bB (hA) ?_|refine gC 163 ?_;refine bg (hn) ?_|refine bu (fun K hK=>?_);(first|((refine jU (dL (f:=bG.av) 100 3 40 out.length out aR (dS _) aP (fun _=>rfl) (fun _=>rfl) ak) (by first|(simp only [go_sem,seval,AV.dT,sealS_any,sealS_v,sealS_isl,sealS_iptr,di,dz,sealS_agg,sealS_tup,sealS_fn,purge_agg,purge_tup,purge_fn,and_self,AV.bz,AV.cq,qf0];done)|(simp only [go_sem,seval,AV.dT,sealS_any,sealS_v,sealS_isl,sealS_iptr,di,dz,sealS_agg,sealS_tup,sealS_fn,purge_agg,purge_tup,purge_fn,and_self,AV.bz,AV.cq,qf0];rfl)) h1 aR (fun x hx=>?_);obtain rfl:=hx;refine ⟨rfl,?_⟩))|((refine jU (dL (f:=bG.av) 100 3 40 out.length out aR (dS _) aP (fun _=>rfl) (fun _=>rfl) ak) (by first|(simp only [go_sem,seval,AV.dT,sealS_any,sealS_v,sealS_isl,sealS_iptr,di,dz,sealS_agg,sealS_tup,sealS_fn,purge_agg,purge_tup,purge_fn,and_self,AV.bz,AV.cq,qf0];done)|(simp only [go_sem,seval,AV.dT,sealS_any,sealS_v,sealS_isl,sealS_iptr,di,dz,sealS_agg,sealS_tup,sealS_fn,purge_agg,purge_tup,purge_fn,and_self,AV.bz,AV.cq,qf0];rfl)) h2 aR (fun x hx=>?_);obtain rfl:=hx;refine ⟨rfl,?_⟩))|refine ck ?_)|refine c8 (fun K hK=>?_);refine eZ (d:=11) 11 al ?_|refine gO ?_;refine kJ ?_|intro (K:St→Prop) hK|intro hc|(refine rh 99 ?_ ?_ ?_ ?_<;>try exact VX)|fail))
     all_goals first
      |(exfalso;simp_all;done)
      |skip
     refine ⟨(k+1,out++[fu args ⟨neg,⟨(p:Int),aa⟩⟩]),⟨by simp only;omega,by simp only [qa3,qb4];omega,he⟩,by simp only;omega,?_⟩;refine bA ?_;refine ea (by (repeat (first|exact .nil|refine .drop ?_|refine dG ?_ aV))) (by (repeat refine ia aR aV ?_);exact fR _)
 obtain rfl:k=l.length:=by omega
 rw [qi3] at he;unfold nI at he;subst he;refine HA 14 (fun hc K hK K hK=>?_) VX VX VX;(refine cE (cV (f:=bG.av) 100 3 40 out.length out aR (dS _) aN (fun _=>rfl) (fun _=>rfl) ak) ?_;try simp only [go_sem,seval]);refine Go ?_ VX VX VX;refine V8 ?_;rfl
end
end Go.Proofs.YtkbiagkbmodgdaaGreat
