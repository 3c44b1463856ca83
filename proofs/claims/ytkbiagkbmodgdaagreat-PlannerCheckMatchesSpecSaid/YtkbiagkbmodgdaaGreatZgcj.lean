/- Part of a proof. No condition. -/
import Derived.Test.YtkbiagkbmodgdaaGreatZph
import Derived.Test.YtkbiagkbmodgdaaGreatZgci
import Derived.Test.YtkbiagkbmodgdaaGreatZgg
set_option linter.unusedSimpArgs false
set_option linter.unusedVariables false
namespace Go.Proofs.YtkbiagkbmodgdaaGreat
open Go.Ab
open Go Tryz
set_option maxRecDepth 10000
attribute [local irreducible] dP fv mu lV dj PV ff ew AW bm da en dQ cX Ab.Fin fi er gF iN RV kh Le eV fL ma iG kM dJ dt
set_option maxHeartbeats 8000000
attribute [local go_sem] ec fm j1
def pT (d:cR) (l:List bG):Nat→List Bool
 |0=>List.replicate l.length false
 |k+1=>(pT d l k).set k (pR d l[k]!)
theorem ur (d:cR) (l:List bG):∀ k,(pT d l k).length=l.length
 |0=>by simp [pT]
 |k+1=>by rw [pT,qk1,ur d l k]
def Bg (l:List bG) (ac:List Act) (i:Nat):List Int:=lP l (ac[i]!).pre
def Bh (l:List bG) (ac:List Act) (i:Nat):List Int:=lP l (ac[i]!).add
def MK (d:cR):List Bool×List Bool:=
 yo (Bg (fq d) (jc d)) (Bh (fq d) (jc d)) (jc d).length ((jc d).length+1) (List.replicate (jc d).length false,pT d (fq d) (fq d).length)
def gV {α:Type} [Inhabited α] (l:List α) (p:Nat→Bool):Nat→List α
 |0=>[]
 |k+1=>gV l p k++if p k=true then [l[k]!] else []
theorem qQ {α:Type} [Inhabited α] (l:List α) (p:Nat→Bool):∀ k,(gV l p k).length≤k
 |0=>qb3 _
 |k+1=>by
  have:=qQ l p k;rw [gV,qa3];split<;>simp<;>omega
def jC (d:cR):List bG:=gV (fq d) (fun i=>(MK d).2[i]!|| fY d.goal (fq d)[i]!) (fq d).length
def nK (d:cR):List Act:=gV (jc d) (fun i=>(MK d).1[i]!) (jc d).length
def Bi (d:cR):AV:=if (kD d d.bV.length).length≤400 then gp d (jC d) (nK d) else .dC [qE,fault 10 (-8)]
def Bj (X:List (List Int)) (k:Nat):List AV:=(X.take k).map ints++List.replicate (X.length - k) .fO
@[go_sem] theorem Uo (X:List (List Int)) (k:Nat):(Bj X k).length=X.length:=by
 rw [Bj,qa3,qa2,qc0,List.length_replicate];omega
theorem Lp (n:Nat):AV.cu (List.replicate n .fO)=true:=by
 induction n with
 |zero=>rfl
 |succ n ih=>rw [qg6];exact ih
theorem OC (X:List (List Int)) (k:Nat):AV.cu (Bj X k)=true:=by
 rw [Bj,ql,dO ints _ (fun _=>rfl)];exact Lp _
@[go_sem] theorem Tw (id:Nat) (X:List (List Int)) (k:Nat):AV.bz id (Bj X k)=false:=jT (OC X k)
@[go_sem] theorem RC (id:Nat) (X:List (List Int)):AV.bz id (X.map ints)=false:=jT (dO ints X fun _=>rfl)
@[go_sem] theorem Qg (id:Nat) (X:List (List Int)):AV.cG id (X.map ints)=X.map ints:=mC (dO ints X fun _=>rfl)
@[go_sem] theorem Sz (ids pins:List Nat) (X:List (List Int)):AV.jP ids pins (X.map ints)=X.map ints:=mK (dO ints X fun _=>rfl)
@[go_sem] theorem Qi (id sz bw n:Nat) (es:List AV) (X:List (List Int)):AV.dM id sz bw n es (X.map ints)=X.map ints:=e8 (dO ints X fun _=>rfl)
theorem Gv {X:List (List Int)} {k:Nat} (h:k < X.length):(Bj X k).set k (ints X[k])=Bj X (k+1):=by
 have h1:((X.take k).map ints).length=k:=by rw [qa2,qc0];omega
 rw [Bj,Bj,List.set_append_right _ _ ak,h1,qm0,qa5 h,qb5,qd6];obtain ⟨m,hm⟩:∃ m,X.length - k=m+1:=⟨X.length - k - 1,by omega⟩
 rw [hm,show X.length - (k+1)=m by omega];rfl
theorem Gw (X:List (List Int)):Bj X X.length=X.map ints:=by simp [Bj]
theorem oS {facts l:List bG} {p:Int}:∀ {k:Nat},p∈jq facts l k→0≤p∧p < k
 |0,h=>by cases h
 |k+1,h=>by
  rw [jq,qe4] at h;rcases h with h|h
  ·have:=oS h
   omega
  split at h
  ·rw [qd7] at h;omega
  cases h
theorem Lq (d:cR) (hv:iZ d=(0,0)):bm prog 22 [d.av] (fun r=>r=Bi d):=by
 have hD:=AS hv;have hs:=K7 d hD hv;unfold Bi;by_cases hle:(kD d d.bV.length).length≤400
 ·simp only [if_pos hle] at hs
  rw [if_pos hle];have hl:=Dj d hD hle;have ha:=Fe d;have hco:=Ff d hD;have hal:=uo d hD d.cU.length (qb3 _);have hs8:=hD.s8;have hfa:jC d=gV (fq d) (fun i=>(MK d).2[i]!|| fY d.goal (fq d)[i]!) (fq d).length:=rfl;have hac:nK d=gV (jc d) (fun i=>(MK d).1[i]!) (jc d).length:=rfl;have hre:MK d=yo (Bg (fq d) (jc d)) (Bh (fq d) (jc d)) (jc d).length ((jc d).length+1) (List.replicate (jc d).length false,pT d (fq d) (fq d).length):=rfl;have hall:(jc d).length≤4096:=by rw [jc];omega
  have hla:(fq d).length≤800:=by have h1:=qN d d.bV.length;have h2:=qO d d.bV.length;rw [fq,qa3];omega
  clear hal;generalize jC d=FR at *;generalize nK d=AR at *;generalize MK d=re at *;generalize fq d=AL at *;generalize jc d=AC at *;refine bc func22 ntmps22 ?_;(repeat' (first|refine gC 49 ?_;refine bg (hs) ?_|refine gC 50 ?_;refine bg (hl) ?_|refine gC 52 ?_;refine bg (ha) ?_|refine gC 51 ?_;refine bg (hco) ?_|refine bu (fun K hK=>?_);refine rR (d:=43) aR aR ak aL aB aR 43 al ?_|intro (K:St→Prop) hK|intro hc|(refine Gf 6 ?_ ?_ ?_ ?_<;>try exact VX)|fail));refine Gx 7 ?_ VX VX VX;refine bP [9,10,46,47,48,49,50,51,52,53,54,55,56,57] (fun k:Nat=>k≤AL.length) (fun k=>AL.length - k) (fun k=>[(46,.int k)]) (fun k=>[(43,⟨4,(pT d AL k).map AV.bool,true⟩)]) 0 (qc6 _) ?_ ?_
  ·rw [pT,List.map_replicate]
   refine bA ?_;exact aZ
  rintro k hk K hK;refine bA ?_;have hil:=ur d AL k;by_cases hlt:k < AL.length
  ·have hst:pT d AL (k+1)=(pT d AL k).set k (pR d AL[k]):=by rw [pT,bq hlt]
   have hi:=K8 d AL[k];generalize pT d AL k=R at *;(repeat' (first|refine gD 9 ?_;refine dK (.r 0 4 (.it 4 1 (.it 5 0 (.it 6 3 .nil)))) ?_|refine dH 53 ?_;refine bB (hi) ?_|refine gO ?_;refine kJ ?_|intro (K:St→Prop) hK|intro hc|(refine rh 99 ?_ ?_ ?_ ?_<;>try exact VX)|fail));refine ⟨k+1,by omega,by omega,?_⟩;rw [hst,List.map_set];refine bA ?_;exact aZ
  obtain rfl:k=AL.length:=by omega
  generalize hR0:pT d AL AL.length=R0 at *;(repeat' (first|refine gD 11 ?_;refine vP (s1:=?_) (.r 0 2 (.r 3 2 (.fk 2 5 (.it 6 0 (.it 5 1 (.it 7 0 .nil))) (.it 2 1 (.r 6 2 .nil))))) ?_ ?_;rotate_left|refine c8 (fun K hK=>?_);(first|refine gZ (d:=60) aR aR ak aL aB aR 60 al ?_|refine gZ (d:=63) aR aR ak aL aB aR 63 al ?_)|intro (K:St→Prop) hK|intro hc|(refine tG 13 ?_ ?_ ?_ ?_<;>try exact VX)|fail));obtain ⟨X,hXl,hXg⟩:∃ X:List (List Int),X.length=AC.length∧∀ k (hk:k < AC.length) (h2:k < X.length),X[k]=lP AL AC[k].pre:=⟨AC.map fun x=>lP AL x.pre,by simp,fun k hk h2=>by simp⟩
  obtain ⟨Y,hYl,hYg⟩:∃ X:List (List Int),X.length=AC.length∧∀ k (hk:k < AC.length) (h2:k < X.length),X[k]=lP AL AC[k].add:=⟨AC.map fun x=>lP AL x.add,by simp,fun k hk h2=>by simp⟩
  have hx0:Bj X 0=List.replicate AC.length (.v (.slice none 0 0)):=by simp [Bj,hXl]
  have hy0:Bj Y 0=List.replicate AC.length (.v (.slice none 0 0)):=by simp [Bj,hYl]
  refine bP [13,14,66,67,68,69,70,71,72,73,74,75,76,77,78,79,80,81,82,83,84,85] (fun k:Nat=>k≤AC.length) (fun k=>AC.length - k) (fun k=>[(66,.int k)]) (fun k=>[(60,⟨35,Bj X k,true⟩),(63,⟨35,Bj Y k,true⟩)]) 0 (qc6 _) ?_ ?_
  ·rw [hx0,hy0]
   refine bA ?_;exact aZ
  rintro k hk K hK;refine bA ?_;by_cases hlt:k < AC.length
  ·have i1:=oR AL AC[k].pre
   have i2:=oR AL AC[k].add;have s1:=Gv (X:=X) (k:=k) ak;have s2:=Gv (X:=Y) (k:=k) ak;rw [hXg k hlt ak] at s1;rw [hYg k hlt ak] at s2;(repeat' (first|refine gD 15 ?_;refine vP (s1:=?_) (.r 0 2 (.r 4 3 (.r 8 3 (.Aj 2 3 7 (.fk 3 7 (.it 7 1 (.it 11 1 (.it 12 0 (.it 13 3 (.it 14 1 (.it 15 3 .nil)))))) (.fk 3 11 (.it 11 1 (.it 12 0 (.it 13 3 (.it 14 1 (.it 15 3 .nil))))) (.it 12 0 (.pY 3 1 13 3 (.it 13 3 (.it 14 1 (.it 15 3 .nil))) (.it 3 1 (.it 14 1 (.it 15 3 .nil))))))) (.fk 2 7 (.it 7 1 (.it 11 1 (.it 12 0 (.it 13 3 (.it 14 1 (.it 15 3 .nil)))))) (.fk 2 11 (.it 11 1 (.it 12 0 (.it 13 3 (.it 14 1 (.it 15 3 .nil))))) (.it 12 0 (.pY 2 1 13 3 (.it 13 3 (.it 14 1 (.it 15 3 .nil))) (.it 2 1 (.it 14 1 (.it 15 3 .nil))))))) (.Aj 2 3 11 (.fk 3 11 (.it 11 1 (.it 12 0 (.it 13 3 (.it 14 1 (.it 15 3 .nil))))) (.it 12 0 (.pY 3 1 13 3 (.it 13 3 (.it 14 1 (.it 15 3 .nil))) (.it 3 1 (.it 14 1 (.it 15 3 .nil)))))) (.fk 2 11 (.it 11 1 (.it 12 0 (.it 13 3 (.it 14 1 (.it 15 3 .nil))))) (.it 12 0 (.pY 2 1 13 3 (.it 13 3 (.it 14 1 (.it 15 3 .nil))) (.it 2 1 (.it 14 1 (.it 15 3 .nil)))))) (.it 12 0 (.DX 2 1 3 1 13 3 (.pY 3 1 13 3 (.it 13 3 (.it 14 1 (.it 15 3 .nil))) (.it 3 1 (.it 14 1 (.it 15 3 .nil)))) (.pY 2 1 13 3 (.it 13 3 (.it 14 1 (.it 15 3 .nil))) (.it 2 1 (.it 14 1 (.it 15 3 .nil)))) (.fk 2 3 (.it 3 1 (.it 14 1 (.it 15 3 .nil))) (.it 2 1 (.it 14 1 (.it 15 3 .nil))))))))))) ?_ ?_;rotate_left|refine dH 54 ?_;refine bB (i1) ?_|refine dH 54 ?_;refine bB (i2) ?_|refine yP ?_;refine nR ?_|refine gO ?_;refine kJ ?_|intro (K:St→Prop) hK|intro hc|(refine rh 99 ?_ ?_ ?_ ?_<;>try exact VX)|fail));refine ⟨k+1,by omega,by omega,?_⟩;rw [← s1,← s2];refine bA ?_;exact aZ
  obtain rfl:k=AC.length:=by omega
  have hxa:Bj X AC.length=X.map ints:=by rw [← hXl];exact Gw X
  have hya:Bj Y AC.length=Y.map ints:=by rw [← hYl];exact Gw Y
  rw [hxa,hya];(repeat' (first|refine bu (fun K hK=>?_);refine rR (d:=88) aR aR ak aL aB aR 88 al ?_|intro (K:St→Prop) hK|intro hc|(refine yJ 19 ?_ ?_ ?_ ?_<;>try exact VX)|fail));have hU0:((List.replicate AC.length false).map AV.bool)=List.replicate AC.length (.v (.bool false)):=by rw [List.map_replicate]
  have hpX:∀ k (hk:k < AC.length),∀ p∈X[k]' ak,0≤p∧p < AL.length:=fun k hk p hp=>by
   rw [hXg k hk ak] at hp;exact oS hp
  have hpY:∀ k (hk:k < AC.length),∀ p∈Y[k]' ak,0≤p∧p < AL.length:=fun k hk p hp=>by
   rw [hYg k hk ak] at hp;exact oS hp
  have hpre:∀ k (hk:k < AC.length),Bg AL AC k=X[k]' ak :=fun k hk=>by rw [Bg,bq hk,hXg k hk ak]
  have hadd:∀ k (hk:k < AC.length),Bh AL AC k=Y[k]' ak :=fun k hk=>by rw [Bh,bq hk,hYg k hk ak]
  generalize Bg AL AC=pre at *;generalize Bh AL AC=add at *;refine bP (16::43::[16,17,19,89,90,91,92,93,94,95,96,97,98,99,100,101,102,103,104,105,106,107,108,109,110,111,112,113,114,115,116,117,118,119,120,121,122,123,124,125]) (fun x:Bool×List Bool×List Bool=>x.2.1.length=AC.length∧x.2.2.length=AL.length∧(x.1=true→∃ f,mT x.2.1 < f∧yo pre add AC.length f (x.2.1,x.2.2)=re)∧(x.1=false→(x.2.1,x.2.2)=re)) (fun x=>if x.1=true then mT x.2.1+1 else 0) (fun x=>[(16,.bool x.1)]) (fun x=>[(88,⟨4,x.2.1.map AV.bool,true⟩),(43,⟨4,x.2.2.map AV.bool,true⟩)]) (true,List.replicate AC.length false,R0) ⟨by simp,hil,fun _=>⟨AC.length+1,Nat.lt_succ_of_le (by unfold mT;exact qd3 List.count_le_length aC),hre.symm⟩,fun h=>by cases h⟩ ?_ ?_
  ·rw [hU0]
   refine bA ?_;exact aZ
  rintro ⟨ag,U,R⟩ ⟨hU,hR,h1,h2⟩ K hK;simp only at hU hR h1 h2;refine bA ?_;cases ag with
  |true=>
   obtain ⟨f,hf1,hf2⟩:=h1 rfl;clear h1 h2;refine Gx 22 ?_ VX VX VX;refine bP (16::43::[16,17,19,92,93,94,95,96,97,98,99,100,101,102,103,104,105,106,107,108,109,110,111,112,113,114,115,116,117,118,119,120,121,122,123,124,125]) (fun k:Nat=>k≤AC.length) (fun k=>AC.length - k) (fun k=>[(92,.int k),(16,.bool (dB pre add k (false,U,R)).1)]) (fun k=>[(88,⟨4,(dB pre add k (false,U,R)).2.1.map AV.bool,true⟩),(43,⟨4,(dB pre add k (false,U,R)).2.2.map AV.bool,true⟩)]) 0 (qc6 _) ?_ ?_
   ·rw [dB]
    refine bA ?_;exact aZ
   rintro k hk K hK;have hsl:=pS pre add k (false,U,R);simp only [hU,hR] at hsl;have hcn:=sT pre add k (false,U,R) aQ;have hst:dB pre add (k+1) (false,U,R)=yn pre add k (dB pre add k (false,U,R)):=rfl;have hfx:k=AC.length→yo pre add AC.length f (U,R)=re→(dB pre add k (false,U,R)).1=true∧(∃ f',mT (dB pre add k (false,U,R)).2.1 < f'∧yo pre add AC.length f' (dB pre add k (false,U,R)).2=re)∧mT (dB pre add k (false,U,R)).2.1 < mT U∨(dB pre add k (false,U,R)).1=false∧(dB pre add k (false,U,R)).2=re:=by
    rintro rfl h;obtain ⟨f',rfl⟩:∃ f',f=f'+1:=⟨f - 1,by omega⟩
    rw [yo] at h;cases hb:(dB pre add AC.length (false,U,R)).1 with
    |true=>
     rw [hb,if_pos rfl] at h;rcases hcn.2 hb with h3|h3
     ·cases h3
     exact .inl ⟨rfl,⟨f',by simp only at h3;omega,h⟩,h3⟩
    |false=>
     rw [hb,if_neg aB] at h;exact .inr ⟨rfl,h⟩
   clear hcn;generalize dB pre add k (false,U,R)=y at *;obtain ⟨gb,V,S⟩:=y;simp only at hsl hst hfx;obtain ⟨hV,hS⟩:=hsl;refine bA ?_;by_cases hlt:k < AC.length
   ·have hkV:k < V.length:=by omega
    have hkX:k < X.length:=by omega
    have hkY:k < Y.length:=by omega
    have hzk:dB pre add (k+1) (false,U,R)=if V[k]=false∧X[k].any (qP S)=false then (true,V.set k true,lZ S Y[k]) else (gb,V,S):=by rw [hst,yn,hpre k hlt,hadd k hlt];simp only [bq hkV]
    have c1:=OB S X[k] (by rw [hS];exact hpX k hlt);rw [hS] at c1;cases hv:V[k] with
    |true=>
     rw [hv,if_neg (fun h=>by cases h.1)] at hzk;(repeat' (first|refine bu (fun K hK=>?_);exact absurd (hv.symm.trans hc) aB|intro (K:St→Prop) hK|intro hc|(refine Gf 99 ?_ ?_ ?_ ?_<;>try exact VX)|fail))
     all_goals
      refine ⟨k+1,by omega,by omega,?_⟩;rw [hzk];refine bA ?_;exact aZ
    |false=>
     cases hx:X[k].any (qP S) with
     |true=>
      rw [hx,if_neg (fun h=>by cases h.2)] at hzk;rw [hx] at c1;(repeat' (first|refine bu (fun K hK=>?_);(first|refine bt cL ?_|((refine bL (c1) au (fun _ h=>by cases h) aR (fun x hp' hx=>?_);obtain ⟨rfl,rfl⟩:=hx<;>simp only [go_sem,seval,dy,bl])))|intro (K:St→Prop) hK|intro hc|(refine Gf 99 ?_ ?_ ?_ ?_<;>try exact VX)|fail))
      all_goals
       refine ⟨k+1,by omega,by omega,?_⟩;rw [hzk];refine bA ?_;exact aZ
     |false=>
      rw [hv,hx,if_pos ⟨rfl,rfl⟩] at hzk;rw [hx] at c1;(repeat' (first|refine bu (fun K hK=>?_);(first|refine bt cL ?_|((refine bL (c1) au (fun _ h=>by cases h) aR (fun x hp' hx=>?_);obtain ⟨rfl,rfl⟩:=hx<;>simp only [go_sem,seval,dy,bl])))|intro (K:St→Prop) hK|intro hc|(refine Gf 27 ?_ ?_ ?_ ?_<;>try exact VX)|fail))
      all_goals try exact absurd (hv.symm.trans hc) aB
      have hpk:=hpY k hlt;have hll:Y[k].length≤800:=by have:=uu AL AC[k].add AL.length;rw [hYg k hlt hkY];exact qd3 this hla
      generalize Y[k]=L at hpk hzk hll ⊢;refine bP (43::[19,117,118,119,120,121,122,123,124]) (fun j:Nat=>j≤L.length) (fun j=>L.length - j) (fun j=>[(117,.int j)]) (fun j=>[(43,⟨4,(lZ S (L.take j)).map AV.bool,true⟩)]) 0 (qc6 _) ?_ ?_
      ·rw [List.take_zero,lZ,List.foldl_nil]
       refine bA ?_;exact aZ
      rintro j hj K hK;have hol:=vw (L.take j) S;rw [hS] at hol;by_cases hjt:j < L.length
      ·have hox:=Fh hjt S
       have hpb:=hpk L[j] (qa4 hjt);generalize lZ S (L.take j)=T1 at *;refine bA ?_;obtain ⟨q,hq⟩:∃ q:Nat,L[j]=(q:Int):=⟨L[j].toNat,(qg3 hpb.1).symm⟩
       refine Go (fun _ hc=>?_) VX VX VX;refine ⟨j+1,by omega,by omega,?_⟩;rw [hox,List.map_set];refine bA ?_;exact aZ
      obtain rfl:j=L.length:=by omega
      rw [qd2];refine bA ?_;refine iy (fun hc K hK=>?_) VX VX VX;refine ⟨k+1,by omega,by omega,?_⟩;rw [hzk,List.map_set];refine bA ?_;exact aZ
   obtain rfl:k=AC.length:=by omega
   have hfy:=hfx rfl hf2;refine iy (fun hc K hK=>?_) VX VX VX;refine ⟨(gb,V,S),⟨hV,hS,?_,?_⟩,?_,?_⟩
   ·rintro rfl
    rcases hfy with ⟨_,h3,_⟩|⟨h3,_⟩
    ·exact h3
    cases h3
   ·rintro rfl
    rcases hfy with ⟨h3,_⟩|⟨_,h3⟩
    ·cases h3
    exact h3
   ·rcases hfy with ⟨rfl,_,h3⟩|⟨rfl,_⟩
    ·simp only [if_true];omega
    simp
   refine bA ?_;exact aZ
  |false=>
   have hur:=h2 rfl;clear h1 h2;obtain ⟨hr1,hr2⟩:re.1=U∧re.2=R:=by rw [← hur];exact ⟨rfl,rfl⟩
   rw [hr1] at hac;rw [hr2] at hfa;obtain ⟨pf,hpf⟩:∃ pf:Nat→Bool,pf=fun i=>R[i]!|| fY d.goal AL[i]!:=⟨_,rfl⟩
   obtain ⟨pa,hpa⟩:∃ pa:Nat→Bool,pa=fun i=>U[i]!:=⟨_,rfl⟩
   rw [← hpf] at hfa;rw [← hpa] at hac;refine HA 34 (fun K hK K hK=>?_) VX VX VX;refine fD 20 20 3 40 68 ?_;refine bP (20::[20,21,22,128,129,130,131,132,133,134,135,136,137,138,139,140,141,142,143,144,145,146,147]) (fun k:Nat=>k≤AL.length) (fun k=>AL.length - k) (fun k=>[(128,.int k),(20,.sl 3 40 20 0 (gV AL pf k).length)]) (fun k=>[(20,⟨68,(gV AL pf k).flatMap lN,false⟩)]) 0 (qc6 _) ?_ ?_
   ·rw [gV]
    refine bA ?_;exact aZ
   rintro k hk K hK;have hfl:=qQ AL pf k;have hst:gV AL pf (k+1)=gV AL pf k++if pf k=true then [AL[k]!] else []:=rfl
   by_cases hlt:k < AL.length
   ·have hkR:k < R.length:=by omega
    have hpk:pf k=(R[k]|| fY d.goal AL[k]):=by rw [hpf];simp only [bq hkR,bq hlt]
    rw [hpk,bq hlt] at hst;generalize gV AL pf k=F1 at *;refine bA ?_;have hh:=wW d.goal AL[k];cases hv:R[k] with
    |true=>
     rw [hv,qi7,if_pos rfl] at hst;(repeat' (first|refine gC 57 ?_;refine bg (hh) ?_|refine bu (fun K hK=>?_);refine ck ?_|intro (K:St→Prop) hK|intro hc|(refine Gf 99 ?_ ?_ ?_ ?_<;>try exact VX)|fail))
     all_goals try exact absurd (hv.symm.trans (show R[k]=false by assumption)) aB
     all_goals
      refine ⟨k+1,by omega,by omega,?_⟩;rw [hst,qa3,qb4];refine bA ?_;exact aZ
    |false=>
     rw [hv,qc1] at hst;cases hg:fY d.goal AL[k] with
     |true=>
      rw [hg,if_pos rfl] at hst;rw [hg] at hh;(repeat' (first|refine gC 57 ?_;refine bg (hh) ?_|refine bu (fun K hK=>?_);(first|exact absurd (hv.symm.trans hc) aB|refine ck ?_)|intro (K:St→Prop) hK|intro hc|(refine Gf 99 ?_ ?_ ?_ ?_<;>try exact VX)|fail))
      all_goals try exact absurd (hv.symm.trans (show R[k]=true by assumption)) aB
      all_goals
       refine ⟨k+1,by omega,by omega,?_⟩;rw [hst,qa3,qb4];refine bA ?_;exact aZ
     |false=>
      rw [hg,if_neg aB,qe5] at hst;rw [hg] at hh;(repeat' (first|refine gC 57 ?_;refine bg (hh) ?_|refine bu (fun K hK=>?_);exact absurd (hv.symm.trans hc) aB|intro (K:St→Prop) hK|intro hc|(refine Gf 99 ?_ ?_ ?_ ?_<;>try exact VX)|fail))
      all_goals try exact absurd (hv.symm.trans (show R[k]=true by assumption)) aB
      all_goals
       refine ⟨k+1,by omega,by omega,?_⟩;rw [hst];refine bA ?_;exact aZ
   obtain rfl:k=AL.length:=by omega
   rw [← hfa] at *;refine bA ?_;refine HA 40 (fun hc K hK K hK K hK=>?_) VX VX VX;refine fD 23 23 6 112 112 ?_;refine Gx 41 ?_ VX VX VX;refine bP (23::[23,24,25,150,151,152,153,154,155,156,157,158,159,160,161,162,163]) (fun k:Nat=>k≤AC.length) (fun k=>AC.length - k) (fun k=>[(150,.int k),(23,.sl 6 112 23 0 (gV AC pa k).length)]) (fun k=>[(23,⟨112,(gV AC pa k).flatMap lS,false⟩)]) 0 (qc6 _) ?_ ?_
   ·rw [gV]
    refine bA ?_;exact aZ
   rintro k hk K hK;have hfl:=qQ AC pa k;have hst:gV AC pa (k+1)=gV AC pa k++if pa k=true then [AC[k]!] else []:=rfl
   by_cases hlt:k < AC.length
   ·have hkU:k < U.length:=by omega
    have hpk:pa k=U[k]:=by rw [hpa];simp only [bq hkU]
    rw [hpk,bq hlt] at hst;generalize gV AC pa k=F1 at *;refine bA ?_;cases hv:U[k] with
    |true=>
     rw [hv,if_pos rfl] at hst;refine Go (fun _ _ hc hc=>?_) (fun _ _ hc hc=>?_) VX VX
     all_goals try exact absurd (hv.symm.trans (show U[k]=false by assumption)) aB
     all_goals
      refine ⟨k+1,by omega,by omega,?_⟩;rw [hst,qa3,qb4];refine bA ?_;exact aZ
    |false=>
     rw [hv,if_neg aB,qe5] at hst;(repeat' (first|refine bu (fun K hK=>?_);exact absurd (hv.symm.trans hc) aB|intro (K:St→Prop) hK|intro hc|(refine Gf 99 ?_ ?_ ?_ ?_<;>try exact VX)|fail))
     all_goals try exact absurd (hv.symm.trans (show U[k]=true by assumption)) aB
     all_goals
      refine ⟨k+1,by omega,by omega,?_⟩;rw [hst];refine bA ?_;exact aZ
   obtain rfl:k=AC.length:=by omega
   rw [← hac] at *;refine bA ?_;refine HA 46 (fun hc K hK K hK=>?_) VX VX VX;(refine cE (cV (f:=bG.av) 20 3 40 FR.length FR aR (dS _) aN (fun _=>rfl) (fun _=>rfl) ak) ?_;try simp only [go_sem,seval]);(refine cE (cV (f:=Act.av) 23 6 112 AR.length AR aR (zP _) aN (fun _=>rfl) (fun _=>rfl) ak) ?_;try simp only [go_sem,seval]);have hb:=Lo d FR AR;by_cases hq:FR.length≤24∧AR.length≤40
   ·rw [gp,if_pos hq] at hb
    (repeat' (first|refine gC 58 ?_;refine bg (hb) ?_|intro (K:St→Prop) hK|intro hc|(refine Gf 99 ?_ ?_ ?_ ?_<;>try exact VX)|fail));refine V2 ?_;rw [gp,if_pos hq];rfl
   rw [gp,if_neg hq] at hb;unfold qE at hb;(repeat' (first|refine gC 58 ?_;refine bg (hb) ?_|intro (K:St→Prop) hK|intro hc|(refine Gf 99 ?_ ?_ ?_ ?_<;>try exact VX)|fail));refine V2 ?_;rw [gp,if_neg hq];rfl
 simp only [if_neg hle] at hs;rw [if_neg hle];refine bc func22 ntmps22 ?_;(repeat' (first|refine gD 3 ?_;refine vP (s1:=?_) (.it 0 0 (.pY 1 1 2 3 (.it 2 3 (.it 3 3 .nil)) (.it 1 1 (.it 3 3 .nil)))) ?_ ?_;rotate_left|refine gC 49 ?_;refine bg (hs) ?_|refine yP ?_;refine nR ?_|refine gO ?_;refine kJ ?_|intro (K:St→Prop) hK|intro hc|(refine rh 99 ?_ ?_ ?_ ?_<;>try exact VX)|fail));refine V2 ?_;rfl
end Go.Proofs.YtkbiagkbmodgdaaGreat
