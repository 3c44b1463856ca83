/- Part of a proof. No condition. -/
import Derived.Test.YtkbiagkbmodgdaaGreatZph
import Derived.Test.YtkbiagkbmodgdaaGreatZgg
import Derived.Test.YtkbiagkbmodgdaaGreatZrfe
import Derived.Test.YtkbiagkbmodgdaaGreatZrff
set_option linter.unusedSimpArgs false
set_option linter.unusedVariables false
namespace Go.Proofs.YtkbiagkbmodgdaaGreat
open Go.Ab
open Go Tryz
set_option maxRecDepth 10000
attribute [local irreducible] dP fv mu lV dj PV ff ew AW bm da en dQ cX Ab.Fin fi er gF iN RV kh Le eV fL ma iG kM dJ dt
attribute [local go_sem] ec fm
section
set_option maxHeartbeats 4000000
abbrev n7 (q:Act×Bool):List AV:=VC q.1 true q.2
@[go_sem] theorem Us (a b:List (Act×Bool)):(a++b).flatMap n7=a.flatMap n7++b.flatMap n7:=qd8
@[go_sem] theorem Ut (l:List (Act×Bool)):(l.flatMap n7).length=l.length * 8:=by
 induction l with
 |nil=>rfl
 |cons w l ih=>simp [qd5,ih];omega
theorem BC (l:List (Act×Bool)):AV.cu (l.flatMap n7)=true:=gu n7 l fun _=>rfl
@[go_sem] theorem SF (id:Nat) (l:List (Act×Bool)):AV.cG id (l.flatMap n7)=l.flatMap n7:=ir id n7 l fun _=>rfl
@[go_sem] theorem TG (id:Nat) (l:List (Act×Bool)):AV.bz id (l.flatMap n7)=false:=ef id n7 l fun _=>rfl
@[go_sem] theorem SG (id sz bw n:Nat) (es:List AV) (l:List (Act×Bool)):AV.dM id sz bw n es (l.flatMap n7)=l.flatMap n7:=e8 (BC l)
abbrev BD (x:Act):Act×Bool:=(x,false)
theorem Ae (d:cR) (k:Nat) (s:eg) (args:List Int):(qU d k s args).length≤1:=by unfold qU;split<;>simp
theorem vC {d:cR} (h:zE d):∀ k,k≤d.cU.length→(kE d k).length≤k * 512
 |0,_=>by simp [kE]
 |k+1,hk=>by
  have h1:=vC h k ak;have hs:=h.AQ d.cU[k] (qa4 ak);have h2:=uE (d:=d) h.o8 hs.T9;have h3:=rB (qU d k d.cU[k]) (Ae d k d.cU[k]) (kO d d.cU[k].ts);rw [yE,qa3,bq (show k < d.cU.length by omega)];omega
def Mx (d:cR) (i:Nat) (s:eg) (A:List Act) (C:List (List Int)) (k:Nat):List (Act×Bool):=(A++(C.take k).flatMap (qU d i s)).map BD
theorem My (d:cR) (i:Nat) (s:eg) (A:List Act) (C:List (List Int)):Mx d i s A C 0=A.map BD:=by simp [Mx]
theorem Mz {d:cR} {i:Nat} {s:eg} {A:List Act} {C:List (List Int)} {k:Nat} (h:k < C.length):Mx d i s A C (k+1)=Mx d i s A C k++if yD d s C[k]=true then [(DN d i s C[k],false)] else []:=by
 rw [Mx,Mx,qa5 h,qd8,← qd6,qb5];congr 1;rw [qd5,List.flatMap_nil,qe5,qU];split<;>rfl
theorem PA (d:cR) (i:Nat) (s:eg) (A:List Act) (C:List (List Int)) (k:Nat):(Mx d i s A C k).length≤A.length+k:=by
 have:=rB (qU d i s) (Ae d i s) (C.take k);rw [qc0] at this;rw [Mx,qa2,qa3];omega
theorem PB (d:cR) {i:Nat} (h:i < d.cU.length):Mx d i d.cU[i] (kE d i) (kO d d.cU[i].ts) (kO d d.cU[i].ts).length=(kE d (i+1)).map BD:=by
 rw [Mx,qd2,yE,bq h]
theorem MA (d:cR) (h:zE d):da prog 18 [d.av] [100] (fun x hp=>x= .sl 8 120 100 0 (jv d).length∧hp=[(100,⟨70,((jv d).map BD).flatMap n7,false⟩)]):=by
 have hs8:=h.s8;have hal:=fun k hk=>vC h k hk;have hpa:=@PB d;have hts:∀ i (hi:i < d.cU.length),d.cU[i].ts.length≤3:=fun i hi=>(h.AQ _ (qa4 hi)).T9;have hag:=fun w hw=>DP d w h.Ig h.obj h.o8 hw;have hcl:=fun w hw=>uE (d:=d) (w:=w) h.o8 hw;have hact:=fun i hi args ha=>Pz d h i hi args ha;have hme:∀ w,∀ x∈kO d w,x.length=w.length:=fun w x hx=>(rE.1 hx).1;have hrl:jv d=kE d d.cU.length:=rfl;rw [hrl];clear h hrl;obtain ⟨ty,ob,pr,sc,cB,go⟩:=d;simp only at hs8 hal hpa hts hact ⊢;refine xr func18 ntmps18 ?_;refine Go (fun K hK=>?_) VX VX VX;refine fD 3 100 8 120 70 ?_;refine ba [3,4,5,6,7,8,9,10,11,12,13,14,15,16,17,18,19,20,21,22,23,24,25,26,27,28,29,30,31,32,33,34,35,36,37,38,39,40,41] (fun k:Nat=>k≤sc.length) (fun k=>sc.length - k) (fun k=>[(4,.int k),(3,.sl 8 120 100 0 ((kE ⟨ty,ob,pr,sc,cB,go⟩ k).map BD).length)]) (fun k=>[(1,⟨29,[cW ty,cW ob,cY pr,dV sc,bQ cB,b9 go],true⟩),(100,⟨70,((kE ⟨ty,ob,pr,sc,cB,go⟩ k).map BD).flatMap n7,false⟩)]) 0 (qc6 _) ?_ ?_
 ·refine bA ?_
  exact aZ
 rintro i hk K hK;refine bA ?_;by_cases hlt:i < sc.length
 ·have ha:=hag _ (hts i hlt)
  have hc:=hcl _ (hts i hlt);have hpp:=hpa hlt;have hl1:=hal i ak;have hai:=hact i hlt;have hmi:=hme sc[i].ts;have hst:=@Mz ⟨ty,ob,pr,sc,cB,go⟩ i sc[i] (kE ⟨ty,ob,pr,sc,cB,go⟩ i) (kO ⟨ty,ob,pr,sc,cB,go⟩ sc[i].ts);have hyl:=PA ⟨ty,ob,pr,sc,cB,go⟩ i sc[i] (kE ⟨ty,ob,pr,sc,cB,go⟩ i) (kO ⟨ty,ob,pr,sc,cB,go⟩ sc[i].ts);have hz:=My ⟨ty,ob,pr,sc,cB,go⟩ i sc[i] (kE ⟨ty,ob,pr,sc,cB,go⟩ i) (kO ⟨ty,ob,pr,sc,cB,go⟩ sc[i].ts);clear hpa hal hact hme hag hcl;generalize hC:kO ⟨ty,ob,pr,sc,cB,go⟩ sc[i].ts=C at *;generalize Mx ⟨ty,ob,pr,sc,cB,go⟩ i sc[i] (kE ⟨ty,ob,pr,sc,cB,go⟩ i) C=RP at *;generalize kE ⟨ty,ob,pr,sc,cB,go⟩ i=A at *;(repeat' (first|refine gD 5 ?_;refine dK (.r 0 7 (.it 7 1 (.it 8 0 .nil))) ?_|refine dH 44 ?_;refine bB (ha) ?_|intro (K:St→Prop) hK|intro hc|(refine Gf 99 ?_ ?_ ?_ ?_<;>try exact VX)|fail));refine ba [3,6,7,23,24,25,26,27,28,29,30,31,32,33,34,35,36,37,38,39,40,41] (fun k:Nat=>k≤C.length) (fun k=>C.length - k) (fun k=>[(6,.int k),(3,.sl 8 120 100 0 (RP k).length)]) (fun k=>[(1,⟨29,[cW ty,cW ob,cY pr,dV sc,bQ cB,b9 go],true⟩),(100,⟨70,(RP k).flatMap n7,false⟩)]) 0 (qc6 _) ?_ ?_
  ·rw [hz]
   refine bA ?_;exact aZ
  rintro k hk K hK;by_cases hkk:k < C.length
  ·have hst2:=hst hkk
   have hyk:=hyl k;have hac:=hai C[k] (hmi _ (qa4 hkk));generalize RP k=Y at *;generalize yD ⟨ty,ob,pr,sc,cB,go⟩ sc[i] C[k]=b at *;generalize DN ⟨ty,ob,pr,sc,cB,go⟩ i sc[i] C[k]=x at *;obtain ⟨xs,xa,xp,xq,xd,xc⟩:=x;refine bA ?_;cases b with
   |true=>
    simp only [if_true] at hst2;(repeat' (first|refine hK _ ?_;clear hK K|refine bH (fun K hK=>?_)|refine gR ?_;refine bY ?_|refine gD 9 ?_;refine vP (s1:=?_) (.r 0 6 (.fk 6 7 (.it 7 1 (.it 8 3 .nil)) (.it 6 1 (.it 8 3 .nil)))) ?_ ?_;rotate_left|refine dH 45 ?_;refine bB (hac) ?_|refine bu (fun K hK=>?_);refine ck ?_|refine c8 (fun K hK=>?_);refine eZ (d:=7) 7 al ?_|refine And.intro ?_ ?_|refine gO ?_;refine kJ ?_|refine gL ?_;(first|exact Le.refl _|exact aZ)|refine gE ?_;(first|refine Exists.intro hkk ?_|refine iv ?_)|refine gQ ?_;(first|refine fc ?_|refine cZ (fun hc=>?_) (fun hc=>?_)<;>(try (first|contradiction|omega)))|refine yO ?_;refine nQ ?_|refine gW ?_;refine eo ?_|refine bE ?_|refine gS ?_;refine cS ?_));refine ⟨k+1,by omega,by omega,?_⟩;rw [hst2,qa3,qb4];refine bA ?_;exact aZ
   |false=>
    simp only [qa8,if_false,qe5] at hst2;(repeat' (first|refine hK _ ?_;clear hK K|refine bH (fun K hK=>?_)|refine gR ?_;refine bY ?_|refine gD 9 ?_;refine vP (s1:=?_) (.r 0 6 (.fk 6 7 (.it 7 1 (.it 8 3 .nil)) (.it 6 1 (.it 8 3 .nil)))) ?_ ?_;rotate_left|refine dH 45 ?_;refine bB (hac) ?_|refine c8 (fun K hK=>?_);refine eZ (d:=7) 7 al ?_|refine And.intro ?_ ?_|refine gO ?_;refine kJ ?_|refine gL ?_;(first|exact Le.refl _|exact aZ)|refine gE ?_;(first|refine Exists.intro hkk ?_|refine iv ?_)|refine gQ ?_;(first|refine ed ?_|refine cZ (fun hc=>?_) (fun hc=>?_)<;>(try (first|contradiction|omega)))|refine yO ?_;refine nQ ?_|refine bE ?_|refine gS ?_;refine cS ?_));refine ⟨k+1,by omega,by omega,?_⟩;rw [hst2];refine bA ?_;exact aZ
  obtain rfl:k=C.length:=by omega
  rw [hpp];refine bA ?_;refine iy (fun hc K hK=>?_) VX VX VX;(refine ⟨i+1,by omega,by omega,?_⟩;(refine bA ?_);(exact aZ))
 obtain rfl:i=sc.length:=by omega
 generalize kE ⟨ty,ob,pr,sc,cB,go⟩ sc.length=A at *;refine iy (fun hc K hK=>?_) VX VX VX;refine qW rfl aR aR (BC (A.map BD)) ⟨rfl,rfl⟩
theorem IX (m:Nat) (d:cR) (h:zE d):da prog 18 [d.av] [100+m] (fun x hp=>x= .sl 8 120 (100+m) 0 (jv d).length∧hp=[(100+m,⟨70,((jv d).map BD).flatMap n7,false⟩)]):=
 (MA d h).pW m fun x hp ⟨h1,h2⟩=>by subst h1;subst h2;exact ⟨rfl,by simp only [lT,w7 (BC _)]⟩
theorem w4 (facts l:List bG):bm prog 48 [b9 facts,b9 l] (fun r=>r=ints (jq facts l facts.length)):=by
 refine bc func48 ntmps48 ?_;(refine bU (i:=0) rfl (fun hb=>?_);(try simp only [qa2] at hb));refine Go (fun K hK=>?_) VX VX VX;refine fD 5 100 1 8 3 ?_;refine ba [5,6,7,8,9,10,11,12,13,14,15,16,17,18,19,20,21,22] (fun k:Nat=>k≤facts.length) (fun k=>facts.length - k) (fun k=>[(6,.int k),(5,.sl 1 8 100 0 (jq facts l k).length)]) (fun k=>[(100,⟨3,(jq facts l k).map AV.int,false⟩)]) 0 ak ?_ ?_
 ·refine bA ?_
  exact aZ
 rintro k hk K hK;refine bA ?_;have hrl:=uu facts l k;by_cases hlt:k < facts.length
 ·have hst:jq facts l (k+1)=jq facts l k++if fY l facts[k]=true then [(k:Int)] else []:=by rw [jq,bq hlt]
  have hh:=oW l facts[k];(repeat' (first|refine gC 20 ?_;refine bg (hh) ?_|refine bu (fun K hK=>?_);(refine ck ?_;simp only [go_sem,seval,dy,bl])|intro (K:St→Prop) hK|intro hc|(refine Gf 99 ?_ ?_ ?_ ?_<;>try exact VX)|fail))
  ·refine ⟨k+1,by omega,by omega,?_⟩
   rw [hst,if_pos aE];refine bA ?_;refine ea (by (repeat (first|exact .nil|refine .drop ?_|refine dG ?_ aS))) aI
  refine ⟨k+1,by omega,by omega,?_⟩;rw [hst,if_neg (by simp_all),qe5];refine bA ?_;exact aZ
 obtain rfl:k=facts.length:=by omega
 refine iy (fun hc K hK=>?_) VX VX VX;refine kj (jq facts l facts.length) rfl aR aR rfl (fun _=>rfl) (fun _=>rfl) rfl
abbrev Uu (x:Act):AV:=.agg [.int x.AQ,ints x.args,b9 x.pre,b9 x.add,b9 x.del,.int x.cost,.bool true,.bool true]
abbrev Va (l:List Act):AV:=.cD 8 120 (l.map Uu)
theorem PC (d:cR) (l:List bG) (ac:List Act):bm prog 21 [d.av,b9 l,Va ac] (fun r=>r=gp d l ac):=by
 have htr:=yI d;have hgl:=w4 l d.goal;have hbu:gp d l ac=if l.length≤24∧ac.length≤40 then .dC [(Fg d l ac).av,fault 0 0] else .dC [qE,fault 10 (-8)]:=rfl
 have hil:=uq d l;have hii:∀ k,oQ d l (k+1)=oQ d l k++if pR d l[k]! =true then [(k:Int)] else []:=fun k=>rfl
 have hgr:Fg d l ac=⟨⟨l.length,oQ d l l.length,jq l d.goal l.length,ac.map (wE l)⟩,l,ac.map jL⟩:=rfl;rw [hgr] at hbu;clear hgr;generalize gp d l ac=R at *;by_cases h1:l.length≤24
 ·by_cases h2:ac.length≤40
  ·rw [if_pos ⟨h1,h2⟩] at hbu
   generalize jq l d.goal l.length=G at *;have hiz:oQ d l 0=[]:=rfl;generalize oQ d l=IL at *;obtain ⟨ty,ob,pr,sc,cB,go⟩:=d;simp only at hgl;refine bc func21 ntmps21 ?_;refine Gx 4 (fun hc hc K hK=>?_) VX VX VX;(refine cE (fe 8 1 801 1 8 3 aR aR al) ?_;simp only [go_sem,seval]);(refine cE (fe 8 3 803 4 80 94 aR aR al) ?_;simp only [go_sem,seval]);(refine cE (fe 8 5 805 2 32 52 aR aR al) ?_;simp only [go_sem,seval]);(repeat' (first|refine gC 48 ?_;refine bg (hgl) ?_|intro (K:St→Prop) hK|intro hc|(refine Gf 99 ?_ ?_ ?_ ?_<;>try exact VX)|fail));refine bP [9,33,34,35,36,37,38,39,40,41,42,43,44,45,46,47,48,49,50,51,52] (fun k:Nat=>k≤l.length) (fun k=>l.length - k) (fun k=>[(9,.int k)]) (fun k=>[(8,⟨40,[.int l.length,.sl 1 8 801 0 (IL k).length,ints G,.sl 4 80 803 0 0,b9 l,.sl 2 32 805 0 0],true⟩),(801,⟨3,(IL k).map AV.int,false⟩)]) 0 (qc6 _) ?_ ?_
   ·rw [hiz]
    refine bA ?_;exact aZ
   rintro k hk K hK;have hik:=hil k;refine bA ?_;by_cases hlt:k < l.length
   ·have hst:=hii k
    rw [bq hlt] at hst;have hi:=htr l[k];generalize pR ⟨ty,ob,pr,sc,cB,go⟩ l[k]=b at *;cases b with
    |true=>
     simp only [if_true] at hst;(repeat' (first|refine gD 9 ?_;refine dK (.r 0 5 (.it 5 1 .nil)) ?_|refine dH 19 ?_;refine bB (hi) ?_|refine bu (fun K hK=>?_);refine ck ?_|intro (K:St→Prop) hK|intro hc|(refine Gf 99 ?_ ?_ ?_ ?_<;>try exact VX)|fail));refine ⟨k+1,by omega,by omega,?_⟩;rw [hst,qa3,qb4,qb5];refine bA ?_;exact aZ
    |false=>
     simp only [qa8,if_false,qe5] at hst;(repeat' (first|refine gD 9 ?_;refine dK (.r 0 5 (.it 5 1 .nil)) ?_|refine dH 19 ?_;refine bB (hi) ?_|intro (K:St→Prop) hK|intro hc|(refine Gf 99 ?_ ?_ ?_ ?_<;>try exact VX)|fail));refine ⟨k+1,by omega,by omega,?_⟩;rw [hst];refine bA ?_;exact aZ
   obtain rfl:k=l.length:=by omega
   generalize hI:IL l.length=I at *;refine iy (fun hc K hK K hK=>?_) VX VX VX;refine bP [10,53,54,55,56,57,58,59,60,61,62,63,64,65,66,67,68,69,70,71,72,73,74,75,76,77,78,79,80,81,82,83,84,85,86,87,88,89,90,91,92,93,94,95,96,97,98,99,100,101,102] (fun k:Nat=>k≤ac.length) (fun k=>ac.length - k) (fun k=>[(10,.int k)]) (fun k=>[(8,⟨40,[.int l.length,.sl 1 8 801 0 I.length,ints G,.sl 4 80 803 0 ((ac.map (wE l)).take k).length,b9 l,.sl 2 32 805 0 ((ac.map jL).take k).length],true⟩),(803,⟨94,((ac.map (wE l)).take k).flatMap v7,false⟩),(805,⟨52,((ac.map jL).take k).flatMap kG,false⟩)]) 0 (qc6 _) ?_ ?_
   ·refine bA ?_
    exact aZ
   rintro k hk K hK;have l1:((ac.map (wE l)).take k).length=k:=by rw [qc0,qa2];omega
   have l2:((ac.map jL).take k).length=k:=by rw [qc0,qa2];omega
   rw [l1,l2];refine bA ?_;by_cases hlt:k < ac.length
   ·have s1:(ac.map (wE l)).take (k+1)=(ac.map (wE l)).take k++[wE l ac[k]]:=by rw [qa5 (by simpa using hlt),qj8]
    have s2:(ac.map jL).take (k+1)=(ac.map jL).take k++[jL ac[k]]:=by rw [qa5 (by simpa using hlt),qj8]
    have i1:=w4 l ac[k].pre;have i2:=w4 l ac[k].add;have i3:=w4 l ac[k].del;(repeat' (first|refine hK _ ?_;clear hK K|refine bH (fun K hK=>?_)|refine gR ?_;refine bY ?_|refine gD 14 ?_;refine dK (.r 0 9 (.r 10 6 (.r 17 6 (.r 24 5 (.it 9 1 (.it 16 1 (.it 23 1 (.it 29 0 (.it 30 1 (.it 31 3 (.it 32 1 (.it 33 1 (.it 34 3 .nil))))))))))))) ?_|refine gD 15 ?_;refine dK (.r 0 7 (.it 7 1 (.it 8 3 (.it 9 1 (.it 10 3 .nil))))) ?_|refine dH 48 ?_;refine bB (i1) ?_|refine dH 48 ?_;refine bB (i2) ?_|refine dH 48 ?_;refine bB (i3) ?_|refine c8 (fun K hK=>?_);(first|refine eF (cf aR aR az) ?_|refine cN (d:=89) aJ aR aR aR aR ?_|refine cN (d:=100) aJ aR aR aR aR ?_)|refine fQ (fun K hK=>?_);refine ck ?_|refine gO ?_;refine kJ ?_|refine gE ?_;(first|refine Exists.intro hlt ?_|refine iv ?_)|refine gQ ?_;refine cZ (fun hc=>?_) (fun hc=>?_)<;>(try (first|contradiction|omega))|refine yO ?_;refine nQ ?_|refine bE ?_|refine gS ?_;refine cS ?_));refine ⟨k+1,by omega,by omega,?_⟩;rw [s1,s2,qa3,qa3,l1,l2];refine bA ?_;exact aZ
   obtain rfl:k=ac.length:=by omega
   rw [qe8 aC,qe8 aC];generalize hX:ac.map (wE l)=X at *;generalize hY:ac.map jL=Y at *;have hXl:X.length=ac.length:=by rw [← hX,qa2]
   have hYl:Y.length=ac.length:=by rw [← hY,qa2]
   refine HA 16 (fun hc K hK K hK=>?_) VX VX VX;(refine cE (mv 801 I.length I aR aN) ?_;simp only [go_sem,seval]);(refine cE (cV (f:=Op.av) 803 4 80 ac.length X aR (Da _) (by exact hXl) (fun _=>rfl) (fun _=>rfl) ak) ?_;try simp only [go_sem,seval]);(refine cE (cV (f:=br.av) 805 2 32 ac.length Y aR (mS _) (by exact hYl) (fun _=>rfl) (fun _=>rfl) ak) ?_;try simp only [go_sem,seval]);refine Go ?_ VX VX VX;refine V2 ?_;rw [hbu];rfl
  rw [if_neg (fun h=>h2 h.2)] at hbu;refine bc func21 ntmps21 ?_;(repeat' (first|refine gC 12 ?_;refine We ?_|intro (K:St→Prop) hK|intro hc|(refine Gf 99 ?_ ?_ ?_ ?_<;>try exact VX)|fail));refine V2 ?_;rw [hbu];rfl
 rw [if_neg (fun h=>h1 h.1)] at hbu;refine bc func21 ntmps21 ?_;(repeat' (first|refine gC 12 ?_;refine We ?_|intro (K:St→Prop) hK|intro hc|(refine Gf 99 ?_ ?_ ?_ ?_<;>try exact VX)|fail));refine V2 ?_;rw [hbu];rfl
end
section
set_option maxHeartbeats 8000000
theorem DR:∀ (l:List (Act×Bool)) (i:Nat),(l.flatMap n7).drop (i * 8)=(l.drop i).flatMap n7
 |[],i=>by simp
 |x::l,0=>rfl
 |x::l,i+1=>by
  have:=DR l i;rw [show (i+1) * 8=i * 8+1+1+1+1+1+1+1+1 by omega];simpa [n7] using this
variable {i:Nat}
theorem rG {l:List (Act×Bool)} {f:Nat} (h:i < l.length):(l.flatMap n7).drop (i * 8+f)=(n7 l[i]++(l.drop (i+1)).flatMap n7).drop f:=by
 rw [← List.drop_drop,DR,qe2 h,qd5]
variable {A:List Act} {V:List Bool}
theorem rI [h:sR i A.length] [g:sR i V.length]:i < (A.zip V).length:=by
 have:=h.h;have:=g.h;rw [List.length_zip];omega
@[local go_sem] theorem Vb [h:sR i A.length] [g:sR i V.length]:(((A.zip V).flatMap n7).drop (i * 8+2)).take 1=[b9 (A[i]'h.h).pre]:=by
 rw [rG rI,ql5];rfl
@[local go_sem] theorem Vc [h:sR i A.length] [g:sR i V.length]:(((A.zip V).flatMap n7).drop (i * 8+3)).take 1=[b9 (A[i]'h.h).add]:=by
 rw [rG rI,ql5];rfl
@[local go_sem] theorem Ve [h:sR i A.length] [g:sR i V.length]:(((A.zip V).flatMap n7).drop (i * 8+7)).take 1=[.bool (V[i]'g.h)]:=by
 rw [rG rI,ql5];rfl
theorem DS:∀ (A:List Act) (V:List Bool) (i:Nat),i < A.length→i < V.length→((A.zip V).flatMap n7).set (i * 8+7) (.v (.bool true))=(A.zip (V.set i true)).flatMap n7
 |[],_,_,h,_=>by simp at h
 |_::_,[],_,_,h=>by simp at h
 |x::A,v::V,0,_,_=>rfl
 |x::A,v::V,i+1,h,g=>by
  have:=DS A V i (by simpa using h) (by simpa using g);rw [show (i+1) * 8+7=i * 8+7+1+1+1+1+1+1+1+1 by omega];simpa [n7] using this
@[local go_sem] theorem RY [h:sR i A.length] [g:sR i V.length]:((A.zip V).flatMap n7).set (i * 8+7) (.v (.bool true))=(A.zip (V.set i true)).flatMap n7:=DS A V i h.h g.h
instance TH {l:List Bool} {k:Nat} {x:Bool} [h:sR i l.length]:sR i (l.set k x).length:=⟨by rw [qk1];exact h.h⟩
theorem DT:∀ A:List Act,A.map BD=A.zip (List.replicate A.length false)
 |[]=>rfl
 |x::A=>by rw [qd4,DT A];rfl
def Qo (d:cR) (AL:List bG) (k:Nat):List bG:=(AL.take k).filter (pR d)
theorem MB {d:cR} {AL:List bG} {k:Nat} (h:k < AL.length):Qo d AL (k+1)=Qo d AL k++if pR d AL[k]=true then [AL[k]] else []:=by
 rw [Qo,qa5 h,qh6];congr 1;by_cases h1:pR d AL[k]=true<;>simp [h1]
theorem PD (d:cR) (AL:List bG) (k:Nat):(Qo d AL k).length≤AL.length:=qd3 (qh8 _ _) (by rw [qc0];omega)
theorem DU (d:cR) (AL:List bG):∀ (k j:Nat) (h:j < (pT d AL k).length),j < k→k≤AL.length→(pT d AL k)[j]=pR d AL[j]!
 |k+1,j,h,hj,hk=>by
  have hl:=ur d AL k;simp only [pT,List.getElem_set];split
  ·rename_i e;rw [e]
  rename_i e;exact DU d AL k j _ ak ak
theorem Vf (d:cR) (AL:List bG):BA AL (pT d AL AL.length) (Qo d AL AL.length):=by
 refine ⟨ur d AL _,fun j hj h2=>?_⟩;rw [DU d AL AL.length j h2 hj (qb3 _),bq hj,qf7,ga,Qo,qd2,qh1];exact ⟨fun h=>⟨qa4 _,h⟩,fun h=>h.2⟩
variable {d:cR}
theorem PE (hD:zE d) {x:Act} (hx:x∈jv d):x.add.length≤16:=by
 obtain ⟨k,hk,args,_,rfl⟩:=vA hx;have hs:=hD.AQ _ (qa4 hk);have h1:=hs.Ku;have h2:=hs.Kv;have h3:(Qn args d.cU[k]).length≤d.cU[k].del.length:=by unfold Qn;exact qd3 (qh8 _ _) (by rw [qa2];exact qb3 _)
 show (RU args d.cU[k]).length≤16;rw [RU,qa3,qa2,qa2,qa2];omega
theorem MC {α:Type} {p:α→Bool} {l:List α} {j:Nat} (h:j < l.length):(l.drop j).all p=(p l[j]&&(l.drop (j+1)).all p):=by rw [qe2 h,List.all_cons]
def RZ (d:cR):AV:=if rQ d=(0,0) then gp d (jC d) (nK d) else .dC [qE,jA (rQ d)]
theorem PF (d:cR):RZ d=NK d:=by
 unfold RZ NK AJ rQ;by_cases hv:iZ d=(0,0)
 ·simp only [hv,ne_eq,not_true_eq_false,if_false]
  by_cases h1:(kD d d.bV.length).length≤400
  ·simp only [h1,if_true]
   unfold gp F6;by_cases h2:(jC d).length≤24∧(nK d).length≤40
   ·rw [if_pos h2,if_pos (show yB d from ⟨h1,h2⟩),if_pos rfl]
   rw [if_neg h2,if_neg (fun h:yB d=>h2 h.2),if_neg aB]
  simp only [h1,if_false];rw [if_neg aB,if_neg (fun h:yB d=>h1 h.1),if_neg aB]
 simp only [hv,ne_eq,not_false_eq_true,if_true,if_false]
theorem IY (h:(rQ d).1=0):rQ d=(0,0):=by
 unfold rQ at h ⊢;split
 ·rename_i h1
  rw [if_pos h1] at h;exact u7 h
 rename_i h1;rw [if_neg h1] at h;split
 ·rfl
 rename_i h2;rw [if_neg h2] at h;cases h
theorem PG (h:rQ d=(0,0)):iZ d=(0,0)∧(kD d d.bV.length).length≤400:=by
 unfold rQ at h;split at h
 ·rename_i h1;exact absurd h h1
 rename_i h1;split at h
 ·exact ⟨Classical.not_not.1 h1,by assumption⟩
 cases h
end
end Go.Proofs.YtkbiagkbmodgdaaGreat
