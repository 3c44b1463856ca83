/- Part of a proof. No condition. -/
import Derived.Test.YtkbiagkbmodgdaaGreatZph
import Derived.Test.YtkbiagkbmodgdaaGreatZgg
import Derived.Test.YtkbiagkbmodgdaaGreatZrfi
set_option linter.unusedSimpArgs false
set_option linter.unusedVariables false
namespace Go.Proofs.YtkbiagkbmodgdaaGreat
open Go.Ab
open Go Tryz
set_option maxRecDepth 10000
attribute [local irreducible] dP fv mu lV dj PV ff ew AW bm da en dQ cX Ab.Fin fi er gF iN RV kh Le eV fL ma iG kM dJ dt
set_option maxHeartbeats 16000000
attribute [local go_sem] ec fm Vb Vc Ve RY ql5
variable {A:List Act} {V:List Bool} {i:Nat}
theorem TJ [h:sR i A.length] [g:sR i V.length] {hh:i * 8+2 < ((A.zip V).flatMap n7).length}:((A.zip V).flatMap n7)[i * 8+2]'hh=b9 (A[i]'h.h).pre:=by
 apply ql1;rw [← qa7,← List.head?_drop,rG rI,ql5];rfl
theorem TK [h:sR i A.length] [g:sR i V.length] {hh:i * 8+3 < ((A.zip V).flatMap n7).length}:((A.zip V).flatMap n7)[i * 8+3]'hh=b9 (A[i]'h.h).add:=by
 apply ql1;rw [← qa7,← List.head?_drop,rG rI,ql5];rfl
theorem TL [h:sR i A.length] [g:sR i V.length] {hh:i * 8+7 < ((A.zip V).flatMap n7).length}:((A.zip V).flatMap n7)[i * 8+7]'hh= .bool (V[i]'g.h):=by
 apply ql1;rw [← qa7,← List.head?_drop,rG rI,ql5];rfl
attribute [local go_sem] TJ TK TL
theorem PH {d:cR} (hD:zE d) {x:Act} (hx:x∈jv d):x.pre.length≤8:=by
 obtain ⟨k,hk,args,_,rfl⟩:=vA hx;have h1:=(hD.AQ _ (qa4 hk)).NW;show (rN d args d.cU[k].pre).length≤8;unfold rN;exact qd3 (qh8 _ _) (by rw [qa2];exact h1)
abbrev VD (q:Act×Bool):AV:=.agg (n7 q)
theorem MD (l:List (Act×Bool)):(l.map VD).flatMap AV.cells=l.flatMap n7:=by rw [qg9];rfl
theorem DV (l:List Act):(l.map Uu).flatMap AV.cells=(l.map fun x=>(x,true)).flatMap n7:=by rw [qg9,qg9];rfl
theorem PI (d:cR) (h:rQ d≠(0,0)):bm prog 6 [d.av] (fun r=>r= .dC [qE,jA (rQ d)]):=by
 have ha:=GR d;have h1:(rQ d).1≠0:=fun e=>h (IY e);generalize rQ d=p at *;refine bc func6 ntmps6 ?_;(repeat' (first|refine gD 3 ?_;refine vP (s1:=?_) (.it 0 0 (.pY 1 1 2 3 (.it 2 3 (.it 3 3 .nil)) (.it 1 1 (.it 3 3 .nil)))) ?_ ?_;rotate_left|refine gC 16 ?_;refine bg (ha) ?_|refine yP ?_;refine nR ?_|refine gO ?_;refine kJ ?_|intro (K:St→Prop) hK|intro hc|(refine rh 99 ?_ ?_ ?_ ?_<;>try exact VX)|fail))
 all_goals (refine V2 ?_)
 all_goals rfl
theorem IZ (d:cR) (hok:rQ d=(0,0)):bm prog 6 [d.av] (fun r=>r=gp d (jC d) (nK d)):=by
 have ha:=GR d;rw [hok] at ha;obtain ⟨hv,h400⟩:=PG hok;have hD:=AS hv;have hs8:=hD.s8;have hfl:=IV d hD;have hac:=fun m=>IX m d hD;have htr:=yI d;have hsim:=Mc d;have hnl:=vC hD d.cU.length (qb3 _);have hnr:(jv d).length≤4096:=by unfold jv;omega
 have hla:(fq d).length≤800:=by have h1:=qN d d.bV.length;have h2:=qO d d.bV.length;rw [fq,qa3];omega
 have hin:∀ x∈jv d,∀ y∈x.pre,y∈fq d:=fun x hx=>Pc hD hx;have hp8:∀ x∈jv d,x.pre.length≤8:=fun x hx=>PH hD hx;have h16:∀ x∈jv d,x.add.length≤16:=fun x hx=>PE hD hx;have hfa:jC d=gV (fq d) (fun i=>(MK d).2[i]!|| fY d.goal (fq d)[i]!) (fq d).length:=rfl;have hsel:=fun l p=>(lL.build (lL.VB hsim p _ (qb3 _)) d l)
 have hacr:nK d=gV (jc d) (fun i=>(MK d).1[i]!) (jc d).length:=rfl;have hre:MK d=yo (Bg (fq d) (jc d)) (Bh (fq d) (jc d)) (jc d).length ((jc d).length+1) (List.replicate (jc d).length false,pT d (fq d) (fq d).length):=rfl;have hi0:=Vf d (fq d);have hz0:=DT (jv d);have hgr:=PC d;have hh1:=PD d (fq d);have Uz:=@MB d (fq d);have hh0:Qo d (fq d) 0=[]:=rfl;have hlen:=hsim.len;have hready:∀ k (hk:k < (jv d).length) S H,BA (fq d) S H→(Bg (fq d) (jc d) k).any (qP S)= !((jv d)[k].pre.all (fY H)):=fun k hk S H h=>by
  rw [Bg,bq (show k < (jc d).length by omega)];exact IU h (hsim.get k hk ak).pre (hin _ (qa4 hk))
 have hstep:∀ k (hk:k < (jv d).length) S H,BA (fq d) S H→BA (fq d) (lZ S (Bh (fq d) (jc d) k)) (H++(jv d)[k].add):=fun k hk S H h=>by
  rw [Bh,bq (show k < (jc d).length by omega)];exact Md h (hsim.get k hk ak).add
 rw [hacr,← hlen,← hsel];rw [← hlen] at hre;clear hsel hacr hsim hnl hD hv hok h400 hlen hin;generalize jC d=FR at *;generalize MK d=re at *;generalize pT d (fq d) (fq d).length=R0 at *;generalize Bg (fq d) (jc d)=pre at *;generalize Bh (fq d) (jc d)=add at *;generalize Qo d (fq d)=HV at *;generalize fq d=AL at *;generalize jv d=AR at *;have hac0:=hac 27000;simp only [Nat.reduceAdd] at hac0;rw [hz0] at hac0;obtain ⟨BR,hBR⟩:∃ b,b=gp d FR (gV AR (fun i=>re.1[i]!) AR.length):=⟨_,rfl⟩
 rw [← hBR];obtain ⟨ty,ob,pr,sc,cB,go⟩:=d;simp only at hfl ha hfa htr;refine bc func6 ntmps6 ?_;(repeat' (first|refine gC 16 ?_;refine bg (ha) ?_|refine gC 17 ?_;refine bg (hfl) ?_|(refine bu (fun K hK=>?_);refine mr (d:=some 27) (hac0) aR (by first|exact jE al|(intro id hid;simp only [qc2,qf9,or_false] at hid;rcases hid with rfl|rfl|rfl|rfl<;>first|rfl|(simp only [go_sem,seval];done)|(simp only [St.free,cz,go_sem,seval];done)|(simp only [go_sem,seval];rfl)|(simp [St.free,cz,AV.bz,AV.cq];try exact ef _ _ _ fun _=>rfl))) (fun x hp hx=>?_);obtain ⟨rfl,rfl⟩:=hx)|intro (K:St→Prop) hK|intro hc|(refine Gf 8 ?_ ?_ ?_ ?_<;>try exact VX)|fail));refine fD 7 700 3 40 68 ?_;refine bP [7,8,28,29,30,31,32,33,34,35,36,37,38,39,40,41,42,43,44,45,46] (fun k:Nat=>k≤AL.length) (fun k=>AL.length - k) (fun k=>[(8,.int k),(7,.sl 3 40 700 0 (HV k).length)]) (fun k=>[(700,⟨68,(HV k).flatMap lN,false⟩)]) 0 (qc6 _) ?_ ?_
 ·rw [hh0]
  refine bA ?_;exact aZ
 rintro k hk K hK;have hhk:=hh1 k;by_cases hlt:k < AL.length
 ·have hst:=Uz hlt
  have hi:=htr AL[k];generalize pR ⟨ty,ob,pr,sc,cB,go⟩ AL[k]=b at *;generalize HV k=H at *;refine bA ?_;cases b with
  |true=>
   simp only [if_true] at hst;(repeat' (first|refine gD 10 ?_;refine dK (.r 0 5 (.it 5 1 .nil)) ?_|refine dH 19 ?_;refine bB (hi) ?_|refine bu (fun K hK=>?_);refine ck ?_|intro (K:St→Prop) hK|intro hc|(refine Gf 99 ?_ ?_ ?_ ?_<;>try exact VX)|fail));refine ⟨k+1,by omega,by omega,?_⟩;rw [hst,qa3,qb4];refine bA ?_;exact aZ
  |false=>
   simp only [qa8,if_false,qe5] at hst;(repeat' (first|refine gD 10 ?_;refine dK (.r 0 5 (.it 5 1 .nil)) ?_|refine dH 19 ?_;refine bB (hi) ?_|intro (K:St→Prop) hK|intro hc|(refine Gf 99 ?_ ?_ ?_ ?_<;>try exact VX)|fail));refine ⟨k+1,by omega,by omega,?_⟩;rw [hst];refine bA ?_;exact aZ
 obtain rfl:k=AL.length:=by omega
 generalize HV AL.length=H0 at *;have hR0:=hi0.1;clear Uz hh0 hh1 htr hlt hk hac hac0 hfl ha hz0;refine bA ?_;(repeat' (first|intro (K:St→Prop) hK|intro hc|(refine yJ 13 ?_ ?_ ?_ ?_<;>try exact VX)|fail));have hc0:mT (List.replicate AR.length false)=AR.length:=by unfold mT;exact List.count_replicate_self
 refine bP [7,9,10,11,12,47,48,49,50,51,52,53,54,55,56,57,58,59,60,61,62,63,64,65,66,67,68,69,70,71,72,73,74,75,76,77,78,79,80,81,82,83,84,85,86,87,88,89,90,91,92,93,94,95] (fun x:Bool×List Bool×List Bool×List bG=>x.2.1.length=AR.length∧BA AL x.2.2.1 x.2.2.2∧x.2.2.2.length+16 * mT x.2.1≤800+16 * AR.length∧(x.1=true→∃ f,mT x.2.1 < f∧yo pre add AR.length f (x.2.1,x.2.2.1)=re)∧(x.1=false→(x.2.1,x.2.2.1)=re)) (fun x=>if x.1=true then mT x.2.1+1 else 0) (fun x=>[(9,.bool x.1),(7,.sl 3 40 700 0 x.2.2.2.length)]) (fun x=>[(27100,⟨70,(AR.zip (x.2.1)).flatMap n7,false⟩),(700,⟨68,(x.2.2.2).flatMap lN,false⟩)]) (true,List.replicate AR.length false,R0,H0) ⟨by simp,hi0,by simp only [hc0];omega,fun _=>⟨AR.length+1,by simp only [hc0];omega,hre.symm⟩,fun h=>by cases h⟩ ?_ ?_
 ·refine bA ?_
  exact aZ
 rintro ⟨ag,U,R,H⟩ ⟨hU,hR,hbd,h1,h2⟩ K hK;simp only at hU hR hbd h1 h2;refine bA ?_;cases ag with
 |true=>
  obtain ⟨f,hf1,hf2⟩:=h1 rfl;clear h1 h2 hre hc0 hi0;(repeat' (first|intro (K:St→Prop) hK|intro hc|(refine Gf 16 ?_ ?_ ?_ ?_<;>try exact VX)|fail));refine bP [7,9,10,11,12,48,49,50,51,52,53,54,55,56,57,58,59,60,61,62,63,64,65,66,67,68,69,70,71,72,73,74,75,76,77,78,79,80,81,82,83,84,85,86,87,88,89,90,91,92,93,94,95] (fun x:Nat×List bG=>x.1≤AR.length∧BA AL (dB pre add x.1 (false,U,R)).2.2 x.2∧x.2.length+16 * mT (dB pre add x.1 (false,U,R)).2.1≤800+16 * AR.length) (fun x=>AR.length - x.1) (fun x=>[(10,.int x.1),(9,.bool (dB pre add x.1 (false,U,R)).1),(7,.sl 3 40 700 0 x.2.length)]) (fun x=>[(27100,⟨70,(AR.zip ((dB pre add x.1 (false,U,R)).2.1)).flatMap n7,false⟩),(700,⟨68,(x.2).flatMap lN,false⟩)]) (0,H) ⟨qc6 _,hR,hbd⟩ ?_ ?_
  ·simp only [dB]
   refine bA ?_;exact aZ
  rintro ⟨k,G⟩ ⟨hk,hI,hbg⟩ K hK;simp only at hk hI hbg ⊢;have hsl:=pS pre add k (false,U,R);have hcn:=sT pre add k (false,U,R) aQ;have hst:dB pre add (k+1) (false,U,R)=yn pre add k (dB pre add k (false,U,R)):=rfl;have hfx:k=AR.length→(dB pre add k (false,U,R)).1=true∧(∃ f',mT (dB pre add k (false,U,R)).2.1 < f'∧yo pre add AR.length f' (dB pre add k (false,U,R)).2=re)∧mT (dB pre add k (false,U,R)).2.1 < mT U∨(dB pre add k (false,U,R)).1=false∧(dB pre add k (false,U,R)).2=re:=by
   rintro rfl;obtain ⟨f',rfl⟩:∃ f',f=f'+1:=⟨f - 1,by omega⟩
   rw [yo] at hf2;cases hb:(dB pre add AR.length (false,U,R)).1 with
   |true=>
    rw [hb,if_pos rfl] at hf2;rcases hcn.2 hb with h3|h3
    ·cases h3
    exact .inl ⟨rfl,⟨f',by simp only at h3;omega,hf2⟩,h3⟩
   |false=>
    rw [hb,if_neg aB] at hf2;exact .inr ⟨rfl,hf2⟩
  clear hcn;generalize dB pre add k (false,U,R)=y at *;obtain ⟨gb,V,S⟩:=y;simp only at hsl hst hfx hI hbg;have hV:V.length=AR.length:=by rw [hsl.1,hU]
  refine bA ?_;by_cases hlt:k < AR.length
  ·have hkV:k < V.length:=by omega
   have hLA:sR k AR.length:=⟨hlt⟩
   have hLV:sR k V.length:=⟨hkV⟩
   have hrd:=hready k hlt S G hI;have hI2:=hstep k hlt S G hI;have h8:=hp8 _ (qa4 hlt);have h6:=h16 _ (qa4 hlt);rw [yn] at hst;simp only [bq hkV,hrd] at hst;have hcs:=Dm hkV;rw [bq hkV] at hcs;have hGl:G.length≤80000:=by omega
   clear hsl hfx hready hstep hp8 h16 hgr hfa hBR hf2 hf1 hU hR hbd hrd;(repeat' (first|intro (K:St→Prop) hK|intro hc|(refine Gf 20 ?_ ?_ ?_ ?_<;>try exact VX)|fail));refine bP [11,12,60,61,62,63,64,65,66,67,68,69,70,71,72,73,74,75,76,77,78,79,80,81,82] (fun x:Nat×Bool=>x.1≤AR[k].pre.length∧(x.2&&(AR[k].pre.drop x.1).all (fY G))=(!V[k]&&AR[k].pre.all (fY G))) (fun x=>AR[k].pre.length - x.1) (fun x=>[(12,.int x.1),(11,.bool x.2)]) (fun _=>[]) (0,!V[k]) ⟨qc6 _,rfl⟩ ?_ ?_
   ·refine bA ?_
    exact aZ
   rintro ⟨j,rd⟩ ⟨hj,hrj⟩ K hK;simp only at hj hrj ⊢;refine bA ?_;by_cases hjr:j < AR[k].pre.length∧rd=true
   ·obtain ⟨hjl,rfl⟩:=hjr
    have hh:=oW G AR[k].pre[j];rw [MC hjl,qf4] at hrj;generalize fY G AR[k].pre[j]=c at *;(repeat' (first|refine bu (fun K hK=>?_);(refine jU (dL (f:=bG.av) 700 3 40 G.length G aR (dS _) aP (fun _=>rfl) (fun _=>rfl) ak) (by first|(simp only [go_sem,seval,AV.dT,sealS_any,sealS_v,sealS_isl,sealS_iptr,di,dz,sealS_agg,sealS_tup,sealS_fn,purge_agg,purge_tup,purge_fn,and_self,AV.bz,AV.cq,qf0];done)|(simp only [go_sem,seval,AV.dT,sealS_any,sealS_v,sealS_isl,sealS_iptr,di,dz,sealS_agg,sealS_tup,sealS_fn,purge_agg,purge_tup,purge_fn,and_self,AV.bz,AV.cq,qf0];rfl)) hh aR (fun x hx=>?_);obtain rfl:=hx;refine ⟨rfl,?_⟩)|intro (K:St→Prop) hK|intro hc|(refine Gf 99 ?_ ?_ ?_ ?_<;>try exact VX)|fail));refine ⟨(j+1,c),⟨by simp only;omega,hrj⟩,by simp only;omega,?_⟩;refine bA ?_;exact aZ
   have hrr:rd=(!V[k]&&AR[k].pre.all (fY G)):=by
    rw [← hrj];cases hrdc:rd with
    |false=>rfl
    |true=>
     have:j=AR[k].pre.length:=by
      by_cases h:j < AR[k].pre.length
      ·exact absurd ⟨h,hrdc⟩ hjr
      omega
     rw [this,qi3];rfl
   clear hrj;cases hq:(!V[k]&&AR[k].pre.all (fY G)) with
   |true=>
    rw [hq] at hrr;subst hrr;rw [qa1,qb7] at hq;rw [hq.1,hq.2,if_pos ⟨rfl,rfl⟩] at hst;have hcs:=hcs hq.1;have hjn:¬j < AR[k].pre.length:=fun h=>hjr ⟨h,rfl⟩;clear hjr;(repeat' (first|refine bu (fun K hK=>?_);refine ck ?_|intro (K:St→Prop) hK|intro hc|(refine yJ 99 ?_ ?_ ?_ ?_<;>try exact VX)|fail));refine ⟨(k+1,G++AR[k].add),⟨by simp only;omega,by simp only [hst];exact hI2,by simp only [hst,qa3];omega⟩,by simp only;omega,?_⟩;simp only [hst];rw [qa3];refine bA ?_;exact aZ
   |false=>
    rw [hq] at hrr;subst hrr;rw [if_neg (fun h=>by
     rw [qj5] at h;rw [h.1,h.2] at hq;cases hq)] at hst
    (repeat' (first|intro (K:St→Prop) hK|intro hc|(refine yJ 99 ?_ ?_ ?_ ?_<;>try exact VX)|fail))
    all_goals (refine ⟨(k+1,G),⟨by simp only;omega,by simp only [hst];exact hI,by simp only [hst];exact hbg⟩,by simp only;omega,?_⟩;simp only [hst];(refine bA ?_);(exact aZ))
  obtain rfl:k=AR.length:=by omega
  have hfy:=hfx rfl;clear hlt hk;(repeat' (first|intro (K:St→Prop) hK|intro hc|(refine yJ 99 ?_ ?_ ?_ ?_<;>try exact VX)|fail));refine ⟨(gb,V,S,G),⟨hV,hI,hbg,?_,?_⟩,?_,?_⟩
  ·rintro rfl
   rcases hfy with ⟨_,h3,_⟩|⟨h3,_⟩
   ·exact h3
   cases h3
  ·rintro rfl
   rcases hfy with ⟨h3,_⟩|⟨_,h3⟩
   ·cases h3
   exact h3
  ·rcases hfy with ⟨rfl,_,h3⟩|⟨rfl,_⟩
   ·simp only [if_true];omega
   simp
  refine bA ?_;exact aZ
 |false=>
  have hur:=h2 rfl;obtain ⟨hr1,hr2⟩:re.1=U∧re.2=R:=by rw [← hur];exact ⟨rfl,rfl⟩
  rw [hr1] at hBR;rw [hr2] at hfa;clear h1 h2 hur hr1 hr2 hre hready hstep;obtain ⟨pf,hpf⟩:∃ pf:Nat→Bool,pf=fun i=>R[i]!|| fY go AL[i]!:=⟨_,rfl⟩
  obtain ⟨pa,hpa⟩:∃ pa:Nat→Bool,pa=fun i=>U[i]!:=⟨_,rfl⟩
  rw [← hpf] at hfa;rw [← hpa] at hBR;have hzl:(AR.zip U).length=AR.length:=by rw [List.length_zip];omega
  (repeat' (first|intro (K:St→Prop) hK|intro hc|(refine yJ 27 ?_ ?_ ?_ ?_<;>try exact VX)|fail));(refine cE (cV (f:=bG.av) 700 3 40 H.length H aR (dS _) aN (fun _=>rfl) (fun _=>rfl) ak) ?_;try simp only [go_sem,seval]);(refine cE (cV (f:=VD) 27100 8 120 AR.length (AR.zip U) aR (MD _) (by exact hzl) (fun _=>rfl) (fun _=>rfl) ak) ?_;try simp only [go_sem,seval]);(repeat' (first|intro (K:St→Prop) hK|intro hc|(refine Gf 29 ?_ ?_ ?_ ?_<;>try exact VX)|fail));refine fD 13 1300 3 40 68 ?_;refine bP [13,14,96,97,98,99,100,101,102,103,104,105,106,107,108,109,110,111,112,113,114,115,116,117,118,119,120,121,122,123] (fun k:Nat=>k≤AL.length) (fun k=>AL.length - k) (fun k=>[(14,.int k),(13,.sl 3 40 1300 0 (gV AL pf k).length)]) (fun k=>[(1300,⟨68,(gV AL pf k).flatMap lN,false⟩)]) 0 (qc6 _) ?_ ?_
  ·rw [gV]
   refine bA ?_;exact aZ
  rintro k hk K hK;have hfl:=qQ AL pf k;have hst:gV AL pf (k+1)=gV AL pf k++if pf k=true then [AL[k]!] else []:=rfl
  by_cases hlt:k < AL.length
  ·have hkR:k < R.length:=by rw [hR.1];exact hlt
   have hpk:pf k=(fY H AL[k]|| fY go AL[k]):=by rw [hpf];simp only [bq hkR,bq hlt,hR.2 k hlt hkR]
   rw [hpk,bq hlt] at hst;generalize gV AL pf k=F1 at *;have c1:=oW H AL[k];have c2:=oW go AL[k];generalize fY H AL[k]=b1 at *;generalize fY go AL[k]=b2 at *;clear hR hbd hpf hpk hfa hBR hgr hp8 h16 hkR;refine bA ?_;by_cases hb:(b1|| b2)=true
   ·rw [if_pos hb] at hst
    cases b1<;>cases b2
    all_goals (try (exfalso;exact absurd hb aB))
    all_goals (repeat' (first|refine gD 31 ?_;refine dK (.r 0 5 (.it 5 1 (.r 6 7 (.it 13 2 (.it 14 0 .nil))))) ?_|refine dH 20 ?_;refine bB (c1) ?_|refine dH 20 ?_;refine bB (c2) ?_|refine bu (fun K hK=>?_);refine ck ?_|intro (K:St→Prop) hK|intro hc|(refine Gf 99 ?_ ?_ ?_ ?_<;>try exact VX)|fail))
    all_goals (refine ⟨k+1,by omega,by omega,?_⟩;rw [hst,qa3,qb4];(refine bA ?_);(exact aZ))
   rw [if_neg hb,qe5] at hst;cases b1<;>cases b2
   all_goals (try (exfalso;exact hb rfl))
   all_goals (repeat' (first|refine gD 31 ?_;refine dK (.r 0 5 (.it 5 1 (.r 6 7 (.it 13 2 (.it 14 0 .nil))))) ?_|refine dH 20 ?_;refine bB (c1) ?_|refine dH 20 ?_;refine bB (c2) ?_|intro (K:St→Prop) hK|intro hc|(refine Gf 99 ?_ ?_ ?_ ?_<;>try exact VX)|fail))
   all_goals (refine ⟨k+1,by omega,by omega,?_⟩;rw [hst];(refine bA ?_);(exact aZ))
  obtain rfl:k=AL.length:=by omega
  rw [← hfa];have hFl:FR.length≤AL.length:=by rw [hfa];exact hfl
  clear hfa hpf hst hfl hlt hk;refine bA ?_;(repeat' (first|intro (K:St→Prop) hK|intro hc|(refine yJ 34 ?_ ?_ ?_ ?_<;>try exact VX)|fail));refine fD 15 1500 8 120 70 ?_;(repeat' (first|intro (K:St→Prop) hK|intro hc|(refine Gf 35 ?_ ?_ ?_ ?_<;>try exact VX)|fail));refine bP [15,16,124,125,126,127,128,129,130,131,132,133,134,135,136,137,138,139,140,141] (fun k:Nat=>k≤AR.length) (fun k=>AR.length - k) (fun k=>[(16,.int k),(15,.sl 8 120 1500 0 (gV AR pa k).length)]) (fun k=>[(1500,⟨70,((gV AR pa k).map fun x=>(x,true)).flatMap n7,false⟩)]) 0 (qc6 _) ?_ ?_
  ·rw [gV]
   refine bA ?_;exact aZ
  rintro k hk K hK;have hfl:=qQ AR pa k;have hst:gV AR pa (k+1)=gV AR pa k++if pa k=true then [AR[k]!] else []:=rfl
  by_cases hlt:k < AR.length
  ·have hkU:k < U.length:=by omega
   have hpk:pa k=U[k]:=by rw [hpa];simp only [bq hkU]
   rw [hpk,bq hlt] at hst;generalize gV AR pa k=F1 at *;clear hpa hpk hBR hgr hp8 h16;refine bA ?_;cases hv:U[k] with
   |true=>
    rw [hv,if_pos rfl] at hst;(repeat' (first|refine bu (fun K hK=>?_);refine ck ?_|intro (K:St→Prop) hK|intro hc|(refine Gf 99 ?_ ?_ ?_ ?_<;>try exact VX)|fail))
    all_goals try exact absurd (hv.symm.trans (show U[k]=false by assumption)) aB
    all_goals
     (try simp only [hv]);refine ⟨k+1,by omega,by omega,?_⟩;rw [hst,qa3,qb4,qb5,qd4,qg5];refine bA ?_;exact aZ
   |false=>
    rw [hv,if_neg aB,qe5] at hst;(repeat' (first|refine bu (fun K hK=>?_);exact absurd (hv.symm.trans hc) aB|intro (K:St→Prop) hK|intro hc|(refine Gf 99 ?_ ?_ ?_ ?_<;>try exact VX)|fail))
    all_goals try exact absurd (hv.symm.trans (show U[k]=true by assumption)) aB
    all_goals
     refine ⟨k+1,by omega,by omega,?_⟩;rw [hst];refine bA ?_;exact aZ
  obtain rfl:k=AR.length:=by omega
  have hgg:=hgr FR (gV AR pa AR.length);rw [← hBR] at hgg;rw [gp] at hBR;clear hgr hp8 h16 hlt hk hst hpa;generalize gV AR pa AR.length=X at *;generalize Fg ⟨ty,ob,pr,sc,cB,go⟩ FR X=GG at *;by_cases hft:FR.length≤24∧X.length≤40
  ·rw [if_pos hft] at hBR
   subst hBR;refine bA ?_;(repeat' (first|intro (K:St→Prop) hK|intro hc|(refine yJ 39 ?_ ?_ ?_ ?_<;>try exact VX)|fail));(refine cE (cV (f:=bG.av) 1300 3 40 FR.length FR aR (dS _) aN (fun _=>rfl) (fun _=>rfl) ak) ?_;try simp only [go_sem,seval]);(refine cE (cV (f:=Uu) 1500 8 120 X.length X aR (DV _) aN (fun _=>rfl) (fun _=>rfl) ak) ?_;try simp only [go_sem,seval]);(repeat' (first|refine gC 21 ?_;refine bg (hgg) ?_|intro (K:St→Prop) hK|intro hc|(refine Gf 99 ?_ ?_ ?_ ?_<;>try exact VX)|fail));refine V2 ?_;rfl
  rw [if_neg hft] at hBR;unfold qE at hBR;subst hBR;refine bA ?_;(repeat' (first|intro (K:St→Prop) hK|intro hc|(refine yJ 39 ?_ ?_ ?_ ?_<;>try exact VX)|fail));(refine cE (cV (f:=bG.av) 1300 3 40 FR.length FR aR (dS _) aN (fun _=>rfl) (fun _=>rfl) ak) ?_;try simp only [go_sem,seval]);(refine cE (cV (f:=Uu) 1500 8 120 X.length X aR (DV _) aN (fun _=>rfl) (fun _=>rfl) ak) ?_;try simp only [go_sem,seval]);(repeat' (first|refine gC 21 ?_;refine bg (hgg) ?_|intro (K:St→Prop) hK|intro hc|(refine Gf 99 ?_ ?_ ?_ ?_<;>try exact VX)|fail));refine V2 ?_;rfl
theorem EV (d:cR):bm prog 6 [d.av] (fun r=>r=NK d):=by
 rw [← PF,RZ];by_cases h:rQ d=(0,0)
 ·rw [if_pos h];exact IZ d h
 rw [if_neg h];exact PI d h
end Go.Proofs.YtkbiagkbmodgdaaGreat
