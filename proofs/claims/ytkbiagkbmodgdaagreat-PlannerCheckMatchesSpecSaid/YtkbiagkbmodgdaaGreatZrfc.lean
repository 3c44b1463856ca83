/- Part of a proof. No condition. -/
import Derived.Test.YtkbiagkbmodgdaaGreatZph
import Derived.Test.YtkbiagkbmodgdaaGreatZdte
import Derived.Test.YtkbiagkbmodgdaaGreatZgg
import Derived.Test.YtkbiagkbmodgdaaGreatZrfb
set_option linter.unusedSimpArgs false
set_option linter.unusedVariables false
namespace Go.Proofs.YtkbiagkbmodgdaaGreat
open Go.Ab
open Go Tryz
set_option maxRecDepth 10000
attribute [local irreducible] dP fv mu lV dj PV ff ew AW bm da en dQ cX Ab.Fin fi er gF iN RV kh Le eV fL ma iG kM dJ dt
set_option maxHeartbeats 4000000
attribute [local go_sem] ec
theorem yA {l:List (j7×Int)} (h:(gP l).1=0):gP l=(0,0):=by
 unfold gP at h ⊢;split at h
 ·cases h
 rename_i h8;rw [if_neg h8];cases hf:bx (C3 l) l.length with
 |none=>rfl
 |some q=>
  rw [hf] at h;obtain ⟨i,_,hg⟩:=dh hf;unfold C3 at hg;(repeat' split at hg)<;>first|(cases hg;done)|(injection hg with hg;subst hg;cases h)
theorem z8 {n:Nat} {l:List (j7×Int)} (h:(jK n l).1=0):jK n l=(0,0):=by
 unfold jK at h ⊢;split at h
 ·cases h
 rename_i h8;rw [if_neg h8];cases hf:bx (C4 n l) l.length with
 |none=>rfl
 |some q=>
  rw [hf] at h;obtain ⟨i,_,hg⟩:=dh hf;unfold C4 at hg;(repeat' split at hg)<;>first|(cases hg;done)|(injection hg with hg;subst hg;cases h)
theorem DF {A B:Prop} [Decidable A] [Decidable B] {x i:Int}:(if (if A then 12 else if B then 7 else x)≠0 then some ((if A then 12 else if B then 7 else x),i) else none)=if A then some (12,i) else if B then some (7,i) else if x≠0 then some (x,i) else none:=by
 by_cases h1:A
 ·simp [h1]
 by_cases h2:B<;>simp [h1,h2]
theorem O0 {d:cR} {k:Nat} (h:k < d.bV.length):vg d k=if lF d.bV[k].name=false∨d.bV[k].name.b.toList=KQ.toList then some (12,-3) else if (d.bV.take k).any (fun u=>iQ u.name d.bV[k].name)=true then some (7,-3) else if fG d d.bV[k].ts≠0 then some (fG d d.bV[k].ts,-3) else none:=by
 unfold vg ua;rw [bq h];exact DF
theorem O1 {d:cR} {k:Nat} (h:k < d.cU.length):vi d k=if lF d.cU[k].name=false then some (12,(k:Int)) else if (d.cU.take k).any (fun u=>iQ u.name d.cU[k].name)=true then some (7,(k:Int)) else if Fu d d.cU[k]≠0 then some (Fu d d.cU[k],(k:Int)) else none:=by
 have e:yZ d k=if lF d.cU[k].name=false then 12 else if (d.cU.take k).any (fun u=>iQ u.name d.cU[k].name)=true then 7 else Fu d d.cU[k]:=by unfold yZ;rw [bq h];rfl
 unfold vi;rw [e];exact DF
theorem O2 (d:cR):bm prog 40 [d.av] (fun r=>r=fault (iZ d).1 (iZ d).2):=by
 have hty:=OY d.types;have hob:=OZ d.types d.dg;have hsc:=fun s=>OX d s;have hin:=fun a b=>ks (oX d [] d.init 40 a b (A7 d)) (args':=[d.av,.fO,bQ d.init,.int 40]) ⟨iO.ic _,iO.nil 1 8,iO.ic _,iO.ic _,trivial⟩;have hli:=fun a b=>ks (oX d [] (d.goal.map bG.x) 8 a b (A7 d)) (args':=[d.av,.fO,bQ (d.goal.map bG.x),.int 8]) ⟨iO.ic _,iO.nil 1 8,iO.ic _,iO.ic _,trivial⟩;have htk:=@yd d.types;have hok:=@AT d.types d.dg;have hpg:=@O0 d;have hsg:=@O1 d;have hS0:pP d=if dF d [] d.init 40≠0 then dF d [] d.init 40 else (bx (y4 d.init) d.init.length).getD 0:=rfl
 have hL0:r9 d [] d.goal=dF d [] (d.goal.map bG.x) 8:=rfl;obtain ⟨D,hD⟩:∃ D,iZ d=D:=⟨_,rfl⟩
 rw [hD];rw [iZ] at hD;obtain ⟨ty,ob,pr,sc,cB,go⟩:=d;obtain ⟨D1,D2⟩:=D;simp only at hty hob hsc hin hli htk hok hpg hsg hS0 hL0 hD ⊢;have hcf:=@yA ty;have hcg:=@z8 ty.length ob;obtain ⟨f,hf⟩:∃ f,gP ty=f:=⟨_,rfl⟩
 obtain ⟨g,hg⟩:∃ g,jK ty.length ob=g:=⟨_,rfl⟩
 rw [hf] at hty htk hD hcf;rw [hg] at hob hok hD hcg;obtain ⟨f1,f2⟩:=f;obtain ⟨g1,g2⟩:=g;simp only at hty hob hcf hcg;refine bc func40 ntmps40 ?_;refine Gx 1 (fun K hK=>?_) VX VX VX;(refine dZ (id:=1) (j:=4) rfl rfl (fun hbi=>?_);(try simp only [qa2] at hbi));(repeat' (first|refine gC 94 ?_;refine bg (hty) ?_|refine gC 12 ?_;refine We ?_|refine gC 95 ?_;refine bg (hob) ?_|intro (K:St→Prop) hK|intro hc|(refine Gf 9 ?_ ?_ ?_ ?_<;>try exact VX)|fail))
 ·refine V0 ?_
  rw [if_pos (by simp only [ne_eq,qg8];omega)] at hD;cases hD;rfl
 ·refine V0 ?_
  rw [if_neg (by rw [hcf aE];simp),if_pos (by simp only [ne_eq,qg8];omega)] at hD;cases hD;rfl
 ·refine V0 ?_
  rw [if_neg (by rw [hcf aE];simp),if_neg (by rw [hcg aE];simp),if_pos ak] at hD;cases hD;rfl
 have hf0:=hcf aE;have hg0:=hcg aE;clear hcf hcg;rw [if_neg (by rw [hf0];simp),if_neg (by rw [hg0];simp),if_neg ak] at hD;cases hf0;cases hg0;have hH:=(htk rfl).1;have hO:=(hok rfl).1;have hin:=hin hH hO;have hli:=hli hH hO;have hsc:=fun s=>hsc s hH hO;clear hty hob htk hok;rw [hL0] at hD;obtain ⟨eS,heS⟩:∃ e,pP ⟨ty,ob,pr,sc,cB,go⟩=e:=⟨_,rfl⟩
 obtain ⟨eI,heI⟩:∃ e,dF ⟨ty,ob,pr,sc,cB,go⟩ [] cB 40=e:=⟨_,rfl⟩
 obtain ⟨eL,heL⟩:∃ e,dF ⟨ty,ob,pr,sc,cB,go⟩ [] (go.map bG.x) 8=e:=⟨_,rfl⟩
 rw [heS] at hS0 hD;rw [heI] at hS0 hin;rw [heL] at hli hD;refine Go ?_ VX VX VX;refine ba [4,5,6,7,38,39,40,41,42,43,44,45,46,47,48,49,50,51,52,53,54,55,56,57,58,59,60,61,62,63,64,65,66,67,68,69,70,71,72,73,74,75,76,77,78,79,80,81,82] (fun k:Nat=>k≤pr.length∧bx (vg ⟨ty,ob,pr,sc,cB,go⟩) k=none) (fun k=>pr.length - k) (fun k=>[(4,.int k)]) (fun _=>[(1,⟨29,[cW ty,cW ob,cY pr,dV sc,bQ cB,b9 go],true⟩),(2,⟨42,[.v (.int .i64 0),.v (.int .i64 0)],true⟩),(3,⟨42,[.int 0,.int 0],true⟩)]) 0 ⟨by omega,rfl⟩ ?_ ?_
 ·refine bA ?_
  exact aZ
 rintro k ⟨hk,hn⟩ K hK;refine bA ?_;by_cases hlt:k < pr.length
 ·have hF2:=hpg hlt
  have hpt:=z7 ⟨ty,ob,pr,sc,cB,go⟩ pr[k].ts;generalize fG ⟨ty,ob,pr,sc,cB,go⟩ pr[k].ts=eP at *;have hit:∀ q,vg ⟨ty,ob,pr,sc,cB,go⟩ k=some q→q=(D1,D2):=fun q hq=>by
   rw [cp hn hq hlt] at hD;exact hD
  have hst:=fun h=>cJ (g:=vg ⟨ty,ob,pr,sc,cB,go⟩) hn h;rw [hF2] at hit hst;clear hF2;(repeat' (first|refine gC 12 ?_;refine We ?_|refine gC 96 ?_;refine bg (uA _) ?_|intro (K:St→Prop) hK|intro hc|(refine Gf 99 ?_ ?_ ?_ ?_<;>try exact VX)|fail))
  ·refine V0 ?_
   cases hit _ (if_pos (.inl aE));rfl
  ·refine V0 ?_
   cases hit _ (if_pos (.inr aE));rfl
  rw [if_neg (fun h=>h.elim (by simp only [*];exact Bool.noConfusion) aE)] at hit hst;refine ba [6,60,61,62,63,64,65,66,67,68,69,70,71,72,73,74] (fun j:Nat=>j≤k∧∀ i (hi:i < pr.length),i < j→iQ pr[i].name pr[k].name=false) (fun j=>k - j) (fun j=>[(6,.int j)]) (fun _=>[(1,⟨29,[cW ty,cW ob,cY pr,dV sc,bQ cB,b9 go],true⟩),(2,⟨42,[.v (.int .i64 0),.v (.int .i64 0)],true⟩),(3,⟨42,[.int 0,.int 0],true⟩),(5,⟨150,[str pr[k].name,ints pr[k].ts],true⟩)]) 0 ⟨by omega,by omega⟩ ?_ ?_
  ·refine bA ?_
   exact aZ
  rintro j ⟨hj,hm⟩ K hK;refine bA ?_;by_cases hjk:j < k
  ·have hjl:j < pr.length:=by omega
   (repeat' (first|refine gD 18 ?_;refine dK (.r 0 9 .nil) ?_|refine gC 12 ?_;refine We ?_|intro (K:St→Prop) hK|intro hc|(refine Gf 99 ?_ ?_ ?_ ?_<;>try exact VX)|fail))
   ·refine V0 ?_
    cases hit _ (if_pos (lK.2 ⟨j,hjl,hjk,by unfold iQ;simp only [*];simp⟩));rfl
   (refine ⟨j+1,⟨by omega,cj hm fun _=>by unfold iQ;simp only [beq_eq_false_iff_ne,ne_eq];assumption⟩,by omega,?_⟩;(refine bA ?_);(exact aZ))
  rw [if_neg (fun h=>by
   obtain ⟨i,hi,hik,hp⟩:=lK.1 h;rw [hm i hi ak] at hp;cases hp)] at hit hst
  (repeat' (first|refine gC 12 ?_;refine We ?_|refine gC 97 ?_;refine bg (hpt) ?_|intro (K:St→Prop) hK|intro hc|(refine yJ 99 ?_ ?_ ?_ ?_<;>try exact VX)|fail))
  ·refine V0 ?_
   cases hit _ (if_pos aE);rfl
  (refine ⟨k+1,⟨by omega,hst (if_neg ak)⟩,by omega,?_⟩;(refine bA ?_);(exact aZ))
 obtain rfl:k=pr.length:=by omega
 rw [hn,qi1] at hD;clear hpg hn;(repeat' (first|refine gC 12 ?_;refine We ?_|intro (K:St→Prop) hK|intro hc|(refine yJ 99 ?_ ?_ ?_ ?_<;>try exact VX)|fail))
 ·refine V0 ?_
  rw [if_pos ak] at hD;cases hD;rfl
 rw [if_neg ak] at hD;refine ba [8,9,10,88,89,90,91,92,93,94,95,96,97,98,99,100,101,102,103,104,105,106,107,108,109,110,111,112,113,114,115,116,117,118,119,120,121,122,123,124,125,126,127,128,129,130,131,132,133,134,135,136] (fun k:Nat=>k≤sc.length∧bx (vi ⟨ty,ob,pr,sc,cB,go⟩) k=none) (fun k=>sc.length - k) (fun k=>[(8,.int k)]) (fun _=>[(1,⟨29,[cW ty,cW ob,cY pr,dV sc,bQ cB,b9 go],true⟩),(2,⟨42,[.v (.int .i64 0),.v (.int .i64 0)],true⟩),(3,⟨42,[.int 0,.int 0],true⟩)]) 0 ⟨by omega,rfl⟩ ?_ ?_
 ·refine bA ?_
  exact aZ
 rintro k ⟨hk,hn⟩ K hK;refine bA ?_;by_cases hlt:k < sc.length
 ·have hF2:=hsg hlt
  have hpt:=hsc sc[k];generalize Fu ⟨ty,ob,pr,sc,cB,go⟩ sc[k]=eP at *;have hit:∀ q,vi ⟨ty,ob,pr,sc,cB,go⟩ k=some q→q=(D1,D2):=fun q hq=>by
   rw [cp hn hq hlt] at hD;exact hD
  have hst:=fun h=>cJ (g:=vi ⟨ty,ob,pr,sc,cB,go⟩) hn h;rw [hF2] at hit hst;clear hF2;(repeat' (first|refine gC 12 ?_;refine We ?_|refine gC 96 ?_;refine bg (uA _) ?_|intro (K:St→Prop) hK|intro hc|(refine Gf 99 ?_ ?_ ?_ ?_<;>try exact VX)|fail))
  ·refine V0 ?_
   cases hit _ (if_pos aE);rfl
  rw [if_neg (by simp only [*];exact Bool.noConfusion)] at hit hst;refine ba [9,105,106,107,108,109,110,111,112,113,114,115,116,117,118,119,120,121,122,123,124] (fun j:Nat=>j≤k∧∀ i (hi:i < sc.length),i < j→iQ sc[i].name sc[k].name=false) (fun j=>k - j) (fun j=>[(9,.int j)]) (fun _=>[(1,⟨29,[cW ty,cW ob,cY pr,dV sc,bQ cB,b9 go],true⟩),(2,⟨42,[.v (.int .i64 0),.v (.int .i64 0)],true⟩),(3,⟨42,[.int 0,.int 0],true⟩)]) 0 ⟨by omega,by omega⟩ ?_ ?_
  ·refine bA ?_
   exact aZ
  rintro j ⟨hj,hm⟩ K hK;refine bA ?_;by_cases hjk:j < k
  ·have hjl:j < sc.length:=by omega
   (repeat' (first|refine gD 33 ?_;refine dK (.r 0 13 .nil) ?_|refine gC 12 ?_;refine We ?_|intro (K:St→Prop) hK|intro hc|(refine Gf 99 ?_ ?_ ?_ ?_<;>try exact VX)|fail))
   ·refine V0 ?_
    cases hit _ (if_pos (lK.2 ⟨j,hjl,hjk,by unfold iQ;simp only [*];simp⟩));rfl
   (refine ⟨j+1,⟨by omega,cj hm fun _=>by unfold iQ;simp only [beq_eq_false_iff_ne,ne_eq];assumption⟩,by omega,?_⟩;(refine bA ?_);(exact aZ))
  rw [if_neg (fun h=>by
   obtain ⟨i,hi,hik,hp⟩:=lK.1 h;rw [hm i hi ak] at hp;cases hp)] at hit hst
  (repeat' (first|refine gD 35 ?_;refine Wb ?_|refine gC 12 ?_;refine We ?_|refine dH 98 ?_;refine bB (hpt) ?_|intro (K:St→Prop) hK|intro hc|(refine yJ 99 ?_ ?_ ?_ ?_<;>try exact VX)|fail))
  ·refine V0 ?_
   cases hit _ (if_pos aE);rfl
  (refine ⟨k+1,⟨by omega,hst (if_neg ak)⟩,by omega,?_⟩;(refine bA ?_);(exact aZ))
 obtain rfl:k=sc.length:=by omega
 rw [hn,qi1] at hD;clear hsg hn hsc;(repeat' (first|refine gC 99 ?_;refine bg (hin) ?_|intro (K:St→Prop) hK|intro hc|(refine yJ 40 ?_ ?_ ?_ ?_<;>try exact VX)|fail));have hdup:eI=0→eS=(bx (y4 cB) cB.length).getD 0:=fun h=>by rw [hS0,if_neg ak]
 refine ba [11,12,141,142,143,144,145,146,147,148,149,150,151,152,153,154,155,156,157,158,159,160,161] (fun q:Nat×Int=>q.1≤cB.length∧((q.2=0∧eI=0∧bx (y4 cB) q.1=none)∨(q.2≠0∧eS=q.2))) (fun q=>cB.length - q.1) (fun q=>[(12,.int q.1),(11,.int q.2)]) (fun _=>[(1,⟨29,[cW ty,cW ob,cY pr,dV sc,bQ cB,b9 go],true⟩),(2,⟨42,[.v (.int .i64 0),.v (.int .i64 0)],true⟩),(3,⟨42,[.int 0,.int 0],true⟩)]) (0,eI) ⟨qc6 _,by
  by_cases h:eI=0
  ·exact .inl ⟨h,h,rfl⟩
  exact .inr ⟨h,by rw [hS0,if_pos h]⟩⟩ ?_ ?_
 ·refine bA ?_
  exact aZ
 rintro ⟨k,e⟩ ⟨hk,hc0⟩ K hK;simp only at hk hc0 ⊢;refine bA ?_;have tail:eS=e→True:=fun _=>trivial;by_cases hlt:k < cB.length∧e=0
 ·obtain ⟨hlt,he⟩:=hlt
  subst he;rcases hc0 with ⟨_,hI,hn⟩|⟨h,_⟩
  ·have hdg:y4 cB k=if j8 (cB.take k) cB[k]=true then some 7 else none:=by rw [y4,bq hlt];rfl
   have hha:=DE (cB.take k) cB[k];generalize j8 (cB.take k) cB[k]=b at *;cases b with
   |true=>
    rw [if_pos rfl] at hdg;(repeat' (first|refine gD 42 ?_;refine dK (.r 0 9 (.it 9 1 .nil)) ?_|refine dH 46 ?_;refine bB (hha) ?_|intro (K:St→Prop) hK|intro hc|(refine Gf 99 ?_ ?_ ?_ ?_<;>try exact VX)|fail));refine ⟨(k+1,7),⟨by simp only;omega,.inr ⟨by simp,by rw [hdup hI,cp hn hdg hlt];rfl⟩⟩,by simp only;omega,?_⟩;refine bA ?_;exact aZ
   |false=>
    rw [if_neg aC] at hdg;(repeat' (first|refine gD 42 ?_;refine dK (.r 0 9 (.it 9 1 .nil)) ?_|refine dH 46 ?_;refine bB (hha) ?_|intro (K:St→Prop) hK|intro hc|(refine Gf 99 ?_ ?_ ?_ ?_<;>try exact VX)|fail));refine ⟨(k+1,0),⟨by simp only;omega,.inl ⟨rfl,hI,cJ hn hdg⟩⟩,by simp only;omega,?_⟩;refine bA ?_;exact aZ
  exact absurd rfl h
 have hes:eS=e:=by
  rcases hc0 with ⟨h0,hI,hn⟩|⟨_,h⟩
  ·have:k=cB.length:=by omega
   rw [hdup hI,← this,hn,h0];rfl
  exact h
 clear hdup hS0 hin hc0;subst hes;(repeat' (first|refine gD 46 ?_;refine dK (.r 0 3 (.it 3 1 (.it 4 1 (.it 5 0 .nil)))) ?_|refine gC 12 ?_;refine We ?_|refine dH 100 ?_;refine bB (wj _) ?_|refine dH 99 ?_;refine bB (hli) ?_|intro (K:St→Prop) hK|intro hc|(refine yJ 99 ?_ ?_ ?_ ?_<;>try exact VX)|fail))
 all_goals (refine V0 ?_)
 all_goals first
  |(rw [if_pos aE] at hD;cases hD;rfl)
  |(rw [if_neg ak,if_pos aE] at hD;cases hD;rfl)
  |(rw [if_neg ak,if_neg ak] at hD;cases hD;rfl)
end Go.Proofs.YtkbiagkbmodgdaaGreat
