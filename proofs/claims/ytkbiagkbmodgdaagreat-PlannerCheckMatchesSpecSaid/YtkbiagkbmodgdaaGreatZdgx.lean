/- Part of a proof. No condition. -/
import Derived.Test.YtkbiagkbmodgdaaGreatZph
import Derived.Test.YtkbiagkbmodgdaaGreatZabo
import Derived.Test.YtkbiagkbmodgdaaGreatZdte
import Derived.Test.YtkbiagkbmodgdaaGreatZgg
import Derived.Test.YtkbiagkbmodgdaaGreatZrfb
set_option linter.unusedSimpArgs false
set_option linter.unusedVariables false
namespace Go.Proofs.YtkbiagkbmodgdaaGreat
open Go.Ab
open Go Tryz
set_option maxRecDepth 10000
section
attribute [local irreducible] dP fv mu lV dj PV ff ew AW bm da en dQ cX Ab.Fin fi er gF iN RV kh Le eV fL ma iG kM dJ dt
set_option maxHeartbeats 4000000
attribute [local go_sem] ec
structure AP (d:cR) (ps:List Int) (x:br):Prop where
 p0:0≤x.p
 p1:x.p < d.bV.length
 len:x.a.length=d.bV[x.p.toNat]!.ts.length
 args:∀ i (h:i < x.a.length),-(ps.length:Int)≤x.a[i]∧x.a[i] < d.dg.length
 fx:∀ i (h:i < x.a.length),∃ t,tY d ps x.a[i]=some t∧yc d.types t d.bV[x.p.toNat]!.ts[i]! =true
variable {d:cR} {ps:List Int}
theorem Ks {x:br} (h:jH d ps x=0):AP d ps x:=by
 unfold jH at h;split at h
 ·omega
 split at h
 ·omega
 rename_i h1 h2;have hn:bx (vf d ps x) x.a.length=none:=by
  cases hf:bx (vf d ps x) x.a.length with
  |none=>rfl
  |some q=>
   rw [hf] at h;simp only [qf3] at h;subst h;obtain ⟨i,_,hg⟩:=dh hf;unfold vf at hg;(repeat' split at hg)<;>simp at hg
 have hty:∀ i (h:i < x.a.length),∃ t,tY d ps x.a[i]=some t∧yc d.types t d.bV[x.p.toNat]!.ts[i]! =true:=fun i hi=>by
  have:=iU hn hi;unfold vf at this;rw [bq hi] at this;split at this
  ·cases this
  split at this
  ·exact ⟨_,by assumption,by assumption⟩
  cases this
 refine ⟨by omega,by omega,by simpa using h2,fun i hi=>?_,hty⟩;obtain ⟨t,ht,_⟩:=hty i hi;unfold tY at ht;(repeat' split at ht)<;>first|(cases ht;done)|omega
theorem oM {l:List br} {m:Int} (hm:m≠0) (h:dF d ps l m=0):l.length≤m∧∀ x∈l,AP d ps x:=by
 unfold dF at h;split at h
 ·omega
 refine ⟨by omega,fun x hx=>?_⟩;cases hf:bx (qa d ps l) l.length with
 |some q=>
  rw [hf] at h;simp only [qf3] at h;subst h;obtain ⟨i,_,hg⟩:=dh hf;unfold qa at hg;split at hg
  ·cases hg
  rename_i h1;injection hg with hg;exact absurd hg h1
 |none=>
  obtain ⟨i,hi,rfl⟩:=qa9 hx;have:=iU hf hi;unfold qa at this;rw [bq hi] at this;split at this
  ·exact Ks aE
  cases this
structure Kt (d:cR) (s:eg):Prop where
 T9:s.ts.length≤3
 ts:qH d s.ts
 Tf:s.diff.length≤8
 diff:∀ p∈s.diff,0≤p.1∧p.1 < p.2∧p.2 < s.ts.length
 NW:s.pre.length≤8
 pre:∀ x∈s.pre,AP d s.ts x.x
 Ku:s.add.length≤8
 add:∀ x∈s.add,AP d s.ts x
 Kv:s.del.length≤8
 del:∀ x∈s.del,AP d s.ts x
 c0:0≤s.cost
 c1:s.cost≤100
theorem NX {l:List eg} {s:eg} (h:CX d l s=0):Kt d s:=by
 unfold CX at h;split at h;· omega
 split at h;· omega
 split at h;· omega
 split at h;· omega
 split at h;· omega
 split at h;· omega
 split at h;· omega
 split at h;· omega
 split at h;· omega
 rename_i h1 h2 h3 h4 h5 h6 h7 h8 h9;obtain ⟨p1,p2⟩:=pO (d:=d) (ps:=s.ts) ak;obtain ⟨l1,l2⟩:=oM aB (show dF d s.ts (s.pre.map bG.x) 8=0 from qg1.1 h6);obtain ⟨a1,a2⟩:=oM aB (qg1.1 h7);obtain ⟨b1,b2⟩:=oM aB (qg1.1 h8);rw [qa2] at l1;refine ⟨p1,p2,by omega,fun p hp=>?_,by omega,fun x hx=>l2 _ (List.mem_map_of_mem hx),by omega,a2,by omega,b2,by omega,by omega⟩;simp only [qj7,qi6] at h5;have:=h5 p hp;simp [tZ] at this;omega
structure zE (d:cR):Prop where
 Ig:nZ d.types
 t8:d.types.length≤8
 obj:nB d.types d.dg
 o8:d.dg.length≤8
 p8:d.bV.length≤8
 Ua:∀ p∈d.bV,p.ts.length≤3∧qH d p.ts
 s8:d.cU.length≤8
 AQ:∀ s∈d.cU,Kt d s
 i40:d.init.length≤40
 init:∀ x∈d.init,AP d [] x
 g8:d.goal.length≤8
 goal:∀ x∈d.goal,AP d [] x.x
theorem AS {d:cR} (h:iZ d=(0,0)):zE d:=by
 unfold iZ at h;split at h
 ·rename_i h1
  simp only [qg8] at h;omega
 split at h
 ·simp only [qg8] at h;omega
 split at h
 ·simp only [qg8] at h;omega
 rename_i h1 h2 h3;obtain ⟨t1,t2⟩:=yd (qg1.1 h1);obtain ⟨o1,o2⟩:=AT (qg1.1 h2);cases hp:bx (vg d) d.bV.length with
 |some q=>
  rw [hp] at h;simp only [Option.some_or,qf3] at h;subst h;obtain ⟨i,_,hg⟩:=dh hp;unfold vg at hg;split at hg<;>simp at hg
 |none=>
  rw [hp,qi1] at h;split at h
  ·simp at h
  cases hs:bx (vi d) d.cU.length with
  |some q=>
   rw [hs] at h;simp only [Option.some_or,qf3] at h;subst h;obtain ⟨i,_,hg⟩:=dh hs;unfold vi at hg;split at hg
   ·rename_i h4;simp only [qd9,qg8] at hg;exact absurd hg.1 h4
   cases hg
  |none=>
   rw [hs,qi1] at h;split at h
   ·simp at h
   split at h
   ·simp at h
   rename_i h5 h6 h7;have h6:=qg1.1 h6;unfold pP at h6;split at h6
   ·rename_i h8;exact absurd h6 h8
   rename_i h8;obtain ⟨i1,i2⟩:=oM aB (qg1.1 h8);obtain ⟨g1,g2⟩:=oM aB (show dF d [] (d.goal.map bG.x) 8=0 from qg1.1 h7);rw [qa2] at g1;refine ⟨t1,t2,o1,o2,by omega,fun p hpm=>?_,by omega,fun s hsm=>?_,by omega,i2,by omega,fun x hx=>g2 _ (List.mem_map_of_mem hx)⟩
   ·obtain ⟨i,hi,rfl⟩:=qa9 hpm
    have:=iU hp hi;unfold vg at this;split at this
    ·cases this
    rename_i h9;have h9:=qg1.1 h9;unfold ua at h9;rw [bq hi] at h9;split at h9;· omega
    split at h9;· omega
    exact pO h9
   obtain ⟨i,hi,rfl⟩:=qa9 hsm;have:=iU hs hi;unfold vi at this;split at this
   ·cases this
   rename_i h9;have h9:=qg1.1 h9;unfold yZ at h9;rw [bq hi] at h9;exact NX h9
end
section
attribute [local irreducible] dP fv mu lV dj PV ff ew AW bm da en dQ cX Ab.Fin fi er gF iN RV kh Le eV fL ma iG kM dJ dt
set_option maxHeartbeats 8000000
attribute [local go_sem] ec
def eJ (n:Nat) (S:List Int):List Bool:=(List.range n).map fun (p:Nat)=>hasB S (p:Int)
theorem jI (n:Nat) (S:List Int):(eJ n S).length=n:=by simp [eJ]
variable {n:Nat} {S:List Int} {x:Int}
theorem CY (h0:0≤x) (b:Bool):(eJ n S).set x.toNat (hasB S x|| b)=eJ n (S++if b=true then [x] else []):=by
 apply List.ext_getElem
 ·simp [eJ]
 intro i h1 h2;rw [List.getElem_set];simp only [eJ,qj8,List.getElem_range];split
 ·rename_i e
  subst e;rw [qg3 h0];cases b<;>simp [hasB]
 rename_i e;cases b
 ·simp
 have:¬(i:Int)=x:=by omega
 simp [hasB,this]
theorem Ih (h0:0≤x):(eJ n S).set x.toNat true=eJ n (S++[x]):=by
 have:=CY (n:=n) (S:=S) h0 true;rw [ql9,if_pos rfl] at this;exact this
theorem ub {i:Nat} (h:i < (eJ n S).length):(eJ n S)[i]=hasB S (i:Int):=by simp [eJ]
theorem rr (h0:0≤x):((eJ n S).map AV.bool).set x.toNat (.v (.bool true))=(eJ n (S++[x])).map AV.bool:=by rw [← Ih h0,List.map_set]
theorem wT (h0:0≤x) (h1:x.toNat < (eJ n S).length) {b c:Bool} (hb:b=((eJ n S)[x.toNat]|| c)):((eJ n S).map AV.bool).set x.toNat (.v (.bool b))=(eJ n (S++if c=true then [x] else [])).map AV.bool:=by
 rw [hb,ub,qg3 h0,← CY h0,List.map_set]
def mO (l:List bG):List Int:=l.flatMap fun x=>if x.neg=true then [x.x.p] else []
variable {k:Nat}
theorem zF {l:List bG} (h:k < l.length):mO (l.take (k+1))=mO (l.take k)++if l[k].neg=true then [l[k].x.p] else []:=by
 rw [qa5 h,mO,qd8];simp [mO]
variable {α:Type}
theorem vj (f:α→Int) {l:List α} (h:k < l.length):(l.take (k+1)).map f=(l.take k).map f++[f l[k]]:=by
 rw [qa5 h,qb5];rfl
theorem Kw (n:Nat):(eJ n []).map AV.bool=List.replicate n (.v (.bool false)):=by
 apply List.ext_getElem
 ·simp [eJ]
 intro i h1 h2;simp [eJ,hasB]
theorem zG (f:α→List Int) {l:List α} (h:k < l.length):(l.take (k+1)).flatMap f=(l.take k).flatMap f++f l[k]:=by
 rw [qa5 h,qd8];simp
def fX (d:cR):List Int:=d.goal.map (·.x.p)++d.cU.flatMap fun s=>s.add.map (·.p)++s.del.map (·.p)
def nf (d:cR):List Int:=mO d.goal++d.cU.flatMap fun s=>mO s.pre
abbrev Gl (l:List Bool):AV:=.cD 1 1 (l.map AV.bool)
theorem EZ (d:cR) (h:zE d):bm prog 108 [d.av] (fun r=>r= .dC [Gl (eJ d.bV.length (fX d)),Gl (eJ d.bV.length (nf d))]):=by
 have hp8:=h.p8;have hgo:=h.goal;have hg8:=h.g8;have hs8:=h.s8;have hsch:=h.AQ;have hn:=Kw d.bV.length;have hF:∀ S,fX d=S→True:=fun _ _=>trivial;obtain ⟨ty,ob,pr,sc,cB,go⟩:=d;simp only at hp8 hgo hg8 hs8 hsch hn;refine bc func108 ntmps108 ?_;(repeat' (first|refine gD 1 ?_;refine vP (s1:=?_) (.r 0 3 (.r 4 3 (.fk 3 7 (.it 8 0 (.it 7 1 (.it 9 0 .nil))) (.it 3 1 (.r 8 2 .nil))))) ?_ ?_;rotate_left|refine c8 (fun K hK=>?_);(first|refine gZ (d:=17) aR aR ak aL aB aR 17 al ?_|refine gZ (d:=21) aR aR ak aL aB aR 21 al ?_)|intro (K:St→Prop) hK|intro hc|(refine rh 99 ?_ ?_ ?_ ?_<;>try exact VX)|fail));refine ba [5,25,26,27,28,29,30,31,32,33,34,35,36,37,38,39,40,41,42,43,44,45,46,47,48,49] (fun k:Nat=>k≤go.length) (fun k=>go.length - k) (fun k=>[(25,.int k)]) (fun k=>[(1,⟨29,[cW ty,cW ob,cY pr,dV sc,bQ cB,b9 go],true⟩),(17,⟨4,(eJ pr.length ((go.take k).map (·.x.p))).map AV.bool,true⟩),(21,⟨4,(eJ pr.length (mO (go.take k))).map AV.bool,true⟩)]) 0 ak ?_ ?_
 ·refine bA ?_
  refine ea (by (repeat (first|exact .nil|refine .drop ?_|refine dG ?_ (by first|rfl|exact hn.symm)))) (by (repeat refine ia aR (by first|rfl|exact hn.symm) ?_);exact fR _)
 rintro k hk K hK;refine bA ?_;have l1:=jI pr.length ((go.take k).map (·.x.p));have l2:=jI pr.length (mO (go.take k));by_cases hlt:k < go.length
 ·have hx:=hgo go[k] (qa4 hlt)
  have x0:=hx.p0;have x1:=hx.p1;simp only at x0 x1;(repeat' (first|refine gD 6 ?_;refine dK (.r 0 15 (.it 15 3 .nil)) ?_|refine gO ?_;refine kJ ?_|intro (K:St→Prop) hK|intro hc|(refine rh 99 ?_ ?_ ?_ ?_<;>try exact VX)|fail))
  all_goals
   refine ⟨k+1,by omega,by omega,?_⟩;rw [vj _ hlt,zF hlt];refine bA ?_;(refine ea (by (repeat (first|exact .nil|refine .drop ?_|refine dG ?_ (by first|rfl|(first|exact rr x0|exact wT x0 ak (by simp only [*,qi7,qc1])))))) (by (repeat refine ia aR (by first|rfl|(first|exact rr x0|exact wT x0 ak (by simp only [*,qi7,qc1]))) ?_);exact fR _))
 obtain rfl:k=go.length:=by omega
 rw [qd2] at *;refine iy (fun hc K hK K hK=>?_) VX VX VX;generalize hA1:go.map (·.x.p)=A1 at *;generalize hA2:mO go=A2 at *;refine ba [7,9,11,13,53,54,55,56,57,58,59,60,61,62,63,64,65,66,67,68,69,70,71,72,73,74,75,76,77,78,79,80,81,82,83,84,85,86,87,88,89,90,91,92,93,94,95,96,97,98,99,100,101,102] (fun k:Nat=>k≤sc.length) (fun k=>sc.length - k) (fun k=>[(53,.int k)]) (fun k=>[(1,⟨29,[cW ty,cW ob,cY pr,dV sc,bQ cB,b9 go],true⟩),(17,⟨4,(eJ pr.length (A1++(sc.take k).flatMap fun s=>s.add.map (·.p)++s.del.map (·.p))).map AV.bool,true⟩),(21,⟨4,(eJ pr.length (A2++(sc.take k).flatMap fun s=>mO s.pre)).map AV.bool,true⟩)]) 0 ak ?_ ?_
 ·refine bA ?_
  refine ea (by (repeat (first|exact .nil|refine .drop ?_|refine dG ?_ aS))) aI
 rintro k hk K hK;refine bA ?_;by_cases hlt:k < sc.length
 ·have hs:=hsch sc[k] (qa4 hlt)
  have ha8:=hs.Ku;have hd8:=hs.Kv;have hp8':=hs.NW;have e1:=zG (fun s:eg=>s.add.map (·.p)++s.del.map (·.p)) hlt;have e2:=zG (fun s:eg=>mO s.pre) hlt;have hstep:∀ B:List Int,A1++(sc.take (k+1)).flatMap (fun s=>s.add.map (·.p)++s.del.map (·.p))=(A1++(sc.take k).flatMap fun s=>s.add.map (·.p)++s.del.map (·.p))++sc[k].add.map (·.p)++sc[k].del.map (·.p):=fun _=>by rw [e1];simp
  have hstep2:A2++(sc.take (k+1)).flatMap (fun s=>mO s.pre)=(A2++(sc.take k).flatMap fun s=>mO s.pre)++mO sc[k].pre:=by rw [e2];simp
  generalize (A1++(sc.take k).flatMap fun s=>s.add.map (·.p)++s.del.map (·.p))=B1 at *;generalize (A2++(sc.take k).flatMap fun s=>mO s.pre)=B2 at *;refine Go (fun _ hc K hK K hK=>?_) VX VX VX;refine ba [9,11,63,64,65,66,67,68,69,70,71,72,73,74,75,76,77,78] (fun p:Nat×List Int=>(p.1=0∧p.2=B1)∨(p.1=1∧p.2=B1++sc[k].add.map (·.p))∨(p.1=2∧p.2=B1++sc[k].add.map (·.p)++sc[k].del.map (·.p))) (fun p=>2 - p.1) (fun p=>[(63,.int p.1)]) (fun p=>[(1,⟨29,[cW ty,cW ob,cY pr,dV sc,bQ cB,b9 go],true⟩),(17,⟨4,(eJ pr.length (p.2)).map AV.bool,true⟩),(21,⟨4,(eJ pr.length (B2)).map AV.bool,true⟩),(7,⟨100,[str sc[k].name,ints sc[k].ts,qg sc[k].diff,b9 sc[k].pre,bQ sc[k].add,bQ sc[k].del,.int sc[k].cost],true⟩)]) (0,B1) (.inl ⟨rfl,rfl⟩) ?_ ?_
  ·refine bA ?_
   exact aZ
  rintro ⟨j,S⟩ hj K hK;simp only at hj ⊢;refine bA ?_;rcases hj with ⟨rfl,rfl⟩|⟨rfl,rfl⟩|⟨rfl,rfl⟩
  ·refine Go (fun K hK=>?_) VX VX VX
   refine ba [11,69,70,71,72,73,74,75,76,77] (fun i:Nat=>i≤sc[k].add.length) (fun i=>sc[k].add.length - i) (fun i=>[(69,.int i)]) (fun i=>[(1,⟨29,[cW ty,cW ob,cY pr,dV sc,bQ cB,b9 go],true⟩),(17,⟨4,(eJ pr.length (S++(sc[k].add.take i).map (·.p))).map AV.bool,true⟩),(21,⟨4,(eJ pr.length (B2)).map AV.bool,true⟩),(7,⟨100,[str sc[k].name,ints sc[k].ts,qg sc[k].diff,b9 sc[k].pre,bQ sc[k].add,bQ sc[k].del,.int sc[k].cost],true⟩)]) 0 ak ?_ ?_
   ·refine bA ?_
    refine ea (by (repeat (first|exact .nil|refine .drop ?_|refine dG ?_ aS))) aI
   rintro i hi K hK;refine bA ?_;have l1:=jI pr.length (S++(sc[k].add.take i).map (·.p));by_cases hlt2:i < sc[k].add.length
   ·have hx:=hs.add sc[k].add[i] (qa4 hlt2)
    have x0:=hx.p0;have x1:=hx.p1;simp only at x0 x1;refine Go (fun _ hc=>?_) VX VX VX;refine ⟨i+1,by omega,by omega,?_⟩;rw [vj _ hlt2,← qd6];refine bA ?_;refine ea (by (repeat (first|exact .nil|refine .drop ?_|refine dG ?_ (by first|rfl|exact rr x0)))) (by (repeat refine ia aR (by first|rfl|exact rr x0) ?_);exact fR _)
   obtain rfl:i=sc[k].add.length:=by omega
   rw [qd2] at *;refine iy (fun hc K hK=>?_) VX VX VX;refine ⟨(1,S++sc[k].add.map (·.p)),(.inr (.inl ⟨rfl,rfl⟩)),by simp only;omega,?_⟩;refine bA ?_;exact aZ
  ·refine Go (fun K hK=>?_) VX VX VX
   refine ba [11,69,70,71,72,73,74,75,76,77] (fun i:Nat=>i≤sc[k].del.length) (fun i=>sc[k].del.length - i) (fun i=>[(69,.int i)]) (fun i=>[(1,⟨29,[cW ty,cW ob,cY pr,dV sc,bQ cB,b9 go],true⟩),(17,⟨4,(eJ pr.length ((B1++sc[k].add.map (·.p))++(sc[k].del.take i).map (·.p))).map AV.bool,true⟩),(21,⟨4,(eJ pr.length (B2)).map AV.bool,true⟩),(7,⟨100,[str sc[k].name,ints sc[k].ts,qg sc[k].diff,b9 sc[k].pre,bQ sc[k].add,bQ sc[k].del,.int sc[k].cost],true⟩)]) 0 ak ?_ ?_
   ·refine bA ?_
    refine ea (by (repeat (first|exact .nil|refine .drop ?_|refine dG ?_ aS))) aI
   rintro i hi K hK;refine bA ?_;have l1:=jI pr.length ((B1++sc[k].add.map (·.p))++(sc[k].del.take i).map (·.p));by_cases hlt2:i < sc[k].del.length
   ·have hx:=hs.del sc[k].del[i] (qa4 hlt2)
    have x0:=hx.p0;have x1:=hx.p1;simp only at x0 x1;refine Go (fun _ hc=>?_) VX VX VX;refine ⟨i+1,by omega,by omega,?_⟩;rw [vj _ hlt2,← qd6];refine bA ?_;refine ea (by (repeat (first|exact .nil|refine .drop ?_|refine dG ?_ (by first|rfl|exact rr x0)))) (by (repeat refine ia aR (by first|rfl|exact rr x0) ?_);exact fR _)
   obtain rfl:i=sc[k].del.length:=by omega
   rw [qd2] at *;refine iy (fun hc K hK=>?_) VX VX VX;refine ⟨(2,(B1++sc[k].add.map (·.p))++sc[k].del.map (·.p)),(.inr (.inr ⟨rfl,rfl⟩)),by simp only;omega,?_⟩;refine bA ?_;exact aZ
  refine iy (fun K hK=>?_) VX VX VX;refine ba [13,82,83,84,85,86,87,88,89,90,91,92,93,94,95,96,97,98,99,100,101] (fun i:Nat=>i≤sc[k].pre.length) (fun i=>sc[k].pre.length - i) (fun i=>[(82,.int i)]) (fun i=>[(1,⟨29,[cW ty,cW ob,cY pr,dV sc,bQ cB,b9 go],true⟩),(17,⟨4,(eJ pr.length (B1++sc[k].add.map (·.p)++sc[k].del.map (·.p))).map AV.bool,true⟩),(21,⟨4,(eJ pr.length (B2++mO (sc[k].pre.take i))).map AV.bool,true⟩),(7,⟨100,[str sc[k].name,ints sc[k].ts,qg sc[k].diff,b9 sc[k].pre,bQ sc[k].add,bQ sc[k].del,.int sc[k].cost],true⟩)]) 0 ak ?_ ?_
  ·refine bA ?_
   (refine ea (by (repeat (first|exact .nil|refine .drop ?_|refine dG ?_ (by first|rfl|(simp [mO]))))) (by (repeat refine ia aR (by first|rfl|(simp [mO])) ?_);exact fR _))
  rintro i hi K hK;refine bA ?_;have l1:=jI pr.length (B2++mO (sc[k].pre.take i));by_cases hlt2:i < sc[k].pre.length
  ·have hx:=hs.pre sc[k].pre[i] (qa4 hlt2)
   have x0:=hx.p0;have x1:=hx.p1;simp only at x0 x1;(repeat' (first|refine gD 23 ?_;refine dK (.r 0 15 (.it 15 3 .nil)) ?_|refine gO ?_;refine kJ ?_|intro (K:St→Prop) hK|intro hc|(refine rh 99 ?_ ?_ ?_ ?_<;>try exact VX)|fail))
   all_goals
    refine ⟨i+1,by omega,by omega,?_⟩;rw [zF hlt2,← qd6];refine bA ?_;(refine ea (by (repeat (first|exact .nil|refine .drop ?_|refine dG ?_ (by first|rfl|exact wT x0 ak (by simp only [*,qi7,qc1]))))) (by (repeat refine ia aR (by first|rfl|exact wT x0 ak (by simp only [*,qi7,qc1])) ?_);exact fR _))
  obtain rfl:i=sc[k].pre.length:=by omega
  rw [qd2] at *;refine iy (fun hc K hK=>?_) VX VX VX;refine ⟨k+1,by omega,by omega,?_⟩;rw [hstep B1,hstep2];refine bA ?_;exact aZ
 obtain rfl:k=sc.length:=by omega
 rw [qd2] at *;refine HA 26 (fun hc K hK K hK=>?_) VX VX VX;(refine cE (cV (f:=AV.bool) 17 1 1 pr.length (eJ pr.length (A1++sc.flatMap fun s=>s.add.map (·.p)++s.del.map (·.p))) aR (lq (f:=AV.bool) (fun _=>rfl) _) (by first|rfl|simp [jI]) (fun _=>rfl) (fun _=>rfl) ak) ?_;try simp only [go_sem,seval]);(refine cE (cV (f:=AV.bool) 21 1 1 pr.length (eJ pr.length (A2++sc.flatMap fun s=>mO s.pre)) aR (lq (f:=AV.bool) (fun _=>rfl) _) (by first|rfl|simp [jI]) (fun _=>rfl) (fun _=>rfl) ak) ?_;try simp only [go_sem,seval]);refine Go ?_ VX VX VX;refine V8 ?_;rw [fX,nf,← hA1,← hA2]
end
section
set_option maxHeartbeats 4000000
structure fp where
 ns:List I3
 fd:List (I3×Int)
 pr:List (I3×Int)
def nd (ns:List I3) (k:Int):I3:=ns[(k - 2).toNat]!
def Vd (ns:List I3) (k:Int):Prop:=0≤k∧k < ns.length+2
def lvl (L:Int) (ns:List I3) (k:Int):Int:=if k < 2 then L else (nd ns k).1
def Kx:List I3→Int→(Int→Bool)→Bool
 |[],k,_=>decide (k=1)
 |n::r,k,v=>if k=(r.length:Int)+2 then (if v n.1=true then Kx r n.2.2 v else Kx r n.2.1 v) else Kx r k v
def gY (ns:List I3) (k:Int) (v:Int→Bool):Bool:=Kx ns.reverse k v
theorem ye (ns:List I3) (n:I3) (k:Int) (v:Int→Bool):gY (ns++[n]) k v=if k=(ns.length:Int)+2 then (if v n.1=true then gY ns n.2.2 v else gY ns n.2.1 v) else gY ns k v:=by
 simp [gY,Kx]
theorem ml:∀ (ms ns:List I3) {k:Int} {v:Int→Bool},k < ns.length+2→gY (ns++ms) k v=gY ns k v
 |[],ns,k,v,_=>by rw [qe5]
 |m::ms,ns,k,v,h=>by
  rw [show ns++m::ms=(ns++[m])++ms by simp,ml ms (ns++[m]) (by rw [qa3];omega),ye,if_neg ak]
variable {k:Int}
theorem nC (ns:List I3) (h:k < 2) (v:Int→Bool):gY ns k v=decide (k=1):=by
 have:=ml ns [] (k:=k) (v:=v) (by simpa using h);rw [qk0] at this;rw [this];rfl
variable {ns:List I3}
theorem pQ (ms:List I3) (h2:2≤k) (h:k < ns.length+2):nd (ns++ms) k=nd ns k:=by
 have hlt:(k - 2).toNat < ns.length:=by omega
 unfold nd;rw [getElem!_pos (ns++ms) _ (by rw [qa3];omega),getElem!_pos ns _ hlt,List.getElem_append_left hlt]
theorem sM (ns:List I3) (n:I3):nd (ns++[n]) ((ns.length:Int)+2)=n:=by
 unfold nd
 have:((ns.length:Int)+2 - 2).toNat=ns.length:=by omega
 rw [this,getElem!_pos (ns++[n]) _ aC];simp
theorem nD (L:Int) (ms:List I3) (h:k < ns.length+2):lvl L (ns++ms) k=lvl L ns k:=by
 unfold lvl;split
 ·rfl
 rw [pQ ms ak h]
theorem NY (L:Int) (ns:List I3) (n:I3):lvl L (ns++[n]) ((ns.length:Int)+2)=n.1:=by
 unfold lvl;rw [if_neg ak,sM]
structure NZ (L:Int) (ns:List I3) (k:Int):Prop where
 v0:0≤(nd ns k).1
 vL:(nd ns k).1 < L
 l0:0≤(nd ns k).2.1
 lk:(nd ns k).2.1 < k
 h0:0≤(nd ns k).2.2
 hk:(nd ns k).2.2 < k
 ne:(nd ns k).2.1≠(nd ns k).2.2
 ll:(nd ns k).1 < lvl L ns (nd ns k).2.1
 lh:(nd ns k).1 < lvl L ns (nd ns k).2.2
def I1 (L:Int) (ns:List I3):Prop:=∀ k:Int,2≤k→k < ns.length+2→NZ L ns k
variable {L:Int}
theorem NZ.ext (h:NZ L ns k) (h2:2≤k) (hk:k < ns.length+2) (ms:List I3):NZ L (ns++ms) k:=by
 have e:=pQ ms h2 hk;obtain ⟨a1,a2,a3,a4,a5,a6,a7,a8,a9⟩:=h;constructor
 all_goals rw [e]
 all_goals (try assumption)
 ·rw [nD L ms ak];exact a8
 rw [nD L ms ak];exact a9
variable {lv lo hi:Int}
theorem I1.snoc (h:I1 L ns) (h0:0≤lv) (hL:lv < L) (vl:Vd ns lo) (vh:Vd ns hi) (hne:lo≠hi) (ll:lv < lvl L ns lo) (lh:lv < lvl L ns hi):I1 L (ns++[(lv,lo,hi)]):=by
 intro k h2 hk;rw [qa3,qb4] at hk;by_cases hlt:k < ns.length+2
 ·exact (h k h2 hlt).ext h2 hlt _
 obtain rfl:k=(ns.length:Int)+2:=by omega
 obtain ⟨vl1,vl2⟩:=vl;obtain ⟨vh1,vh2⟩:=vh;constructor
 all_goals rw [sM]
 all_goals (try simp only)
 all_goals (try omega)
 ·rw [nD L _ ak];exact ll
 rw [nD L _ ak];exact lh
theorem jz (h:I1 L ns) (h2:2≤k) (hk:k < ns.length+2):0≤lvl L ns k∧lvl L ns k < L:=by
 have:=h k h2 hk;unfold lvl;rw [if_neg ak];exact ⟨this.v0,this.vL⟩
theorem sN (h:I1 L ns) (h0:0≤L) (hk:Vd ns k):0≤lvl L ns k∧lvl L ns k≤L:=by
 by_cases h2:k < 2
 ·unfold lvl;rw [if_pos h2];omega
 have:=jz h ak hk.2;omega
theorem mP (h:I1 L ns) (h2:2≤k) (hk:k < ns.length+2) (v:Int→Bool):
 gY ns k v=if v (nd ns k).1=true then gY ns (nd ns k).2.2 v else gY ns (nd ns k).2.1 v:=by
 have hlt:(k - 2).toNat < ns.length:=by omega
 have hn:=h k h2 hk;have e:nd ns k=ns[(k - 2).toNat]:=by unfold nd;rw [getElem!_pos ns _ hlt]
 have hs:ns=(ns.take (k - 2).toNat++[nd ns k])++ns.drop ((k - 2).toNat+1):=by rw [e,← qa5 hlt,qk3]
 have hl:(ns.take (k - 2).toNat).length=(k - 2).toNat:=by rw [qc0];omega
 obtain ⟨_,_,l0,l1,h0,h1,_,_,_⟩:=hn;generalize nd ns k=n at *;generalize ns.take (k - 2).toNat=A at *;generalize ns.drop ((k - 2).toNat+1)=B at *;have hA:(A.length:Int)+2=k:=by omega
 rw [hs,ml B _ (by rw [qa3,qb4];omega),ye,if_pos hA.symm];rw [qd6,ml _ A ak,ml _ A ak]
theorem ru {L:Int} {ns:List I3} (h:I1 L ns) {v v':Int→Bool}:∀ (m:Nat) (k:Int),k.toNat≤m→Vd ns k→(∀ i,lvl L ns k≤i→i < L→v i=v' i)→gY ns k v=gY ns k v'
 |0,k,hm,hv,_=>by rw [nC ns ak,nC ns ak]
 |m+1,k,hm,hv,he=>by
  by_cases h2:k < 2
  ·rw [nC ns h2,nC ns h2]
  have hn:=h k ak hv.2;have hl:lvl L ns k=(nd ns k).1:=by unfold lvl;rw [if_neg h2]
  rw [mP h ak hv.2,mP h ak hv.2,he _ ak hn.vL];have:=hv.2;rw [ru h m (nd ns k).2.2 (by have:=hn.hk;have:=hn.h0;omega) ⟨hn.h0,by have:=hn.hk;omega⟩ (fun i h1 h2=>he i (by have:=hn.lh;omega) h2),
   ru h m (nd ns k).2.1 (by have:=hn.lk;have:=hn.l0;omega) ⟨hn.l0,by have:=hn.lk;omega⟩ (fun i h1 h2=>he i (by have:=hn.ll;omega) h2)]
theorem wS {L:Int} {ns:List I3} (h:I1 L ns):∀ (m:Nat) (k:Int),k.toNat≤m→Vd ns k→k≠0→∃ v,gY ns k v=true
 |0,k,hm,hv,h0=>by have:=hv.1;omega
 |m+1,k,hm,hv,h0=>by
  by_cases h2:k < 2
  ·have:=hv.1
   exact ⟨fun _=>true,by rw [nC ns h2];exact decide_eq_true ak⟩
  have hn:=h k ak hv.2;have hvv:=hv.2;by_cases hz:(nd ns k).2.1=0
  ·have hne:(nd ns k).2.2≠0:=fun e=>hn.ne ak
   have vd:Vd ns (nd ns k).2.2:=⟨hn.h0,by have:=hn.hk;omega⟩
   obtain ⟨v,hvs⟩:=wS h m (nd ns k).2.2 (by have:=hn.hk;have:=hn.h0;omega) vd hne;refine ⟨fun i=>if i=(nd ns k).1 then true else v i,?_⟩;rw [mP h ak hv.2,if_pos aC,← hvs];refine ru h _ _ (qb3 _) vd fun i hi _=>?_;rw [if_neg (by have:=hn.lh;omega)]
  have vd:Vd ns (nd ns k).2.1:=⟨hn.l0,by have:=hn.lk;omega⟩
  obtain ⟨v,hvs⟩:=wS h m (nd ns k).2.1 (by have:=hn.lk;have:=hn.l0;omega) vd hz;refine ⟨fun i=>if i=(nd ns k).1 then false else v i,?_⟩;rw [mP h ak hv.2,if_neg aC,← hvs];refine ru h _ _ (qb3 _) vd fun i hi _=>?_;rw [if_neg (by have:=hn.ll;omega)]
theorem Ii (h:I1 L ns) (hv:Vd ns k):k=0↔∀ v,gY ns k v=false:=by
 constructor
 ·intro e v;subst e;rw [nC ns ak];rfl
 intro e;by_cases h0:k=0
 ·exact h0
 obtain ⟨v,hv'⟩:=wS h _ k (qb3 _) hv h0;rw [e v] at hv';cases hv'
inductive ee (ns:List I3):Int→Prop
 |zero:ee ns 0
 |one:ee ns 1
 |lo {k:Int}:2≤k→k < ns.length+2→(nd ns k).2.1=0→ee ns (nd ns k).2.2→ee ns k
 |hi {k:Int}:2≤k→k < ns.length+2→(nd ns k).2.2=0→ee ns (nd ns k).2.1→ee ns k
theorem ee.ext (h:ee ns k) (ms:List I3):ee (ns++ms) k:=by
 induction h with
 |zero=>exact .zero
 |one=>exact .one
 |lo h2 hk h0 _ ih=>exact .lo h2 (by rw [qa3];omega) (by rw [pQ ms h2 hk];exact h0) (by rw [pQ ms h2 hk];exact ih)
 |hi h2 hk h0 _ ih=>exact .hi h2 (by rw [qa3];omega) (by rw [pQ ms h2 hk];exact h0) (by rw [pQ ms h2 hk];exact ih)
theorem ee.back (hn:I1 L ns) (ms:List I3) (h:ee (ns++ms) k):k < ns.length+2→ee ns k:=by
 induction h with
 |zero=>exact fun _=>.zero
 |one=>exact fun _=>.one
 |@lo k h2 hk h0 _ ih=>
  intro hlt;rw [pQ ms h2 hlt] at h0 ih;exact .lo h2 hlt h0 (ih (by have:=(hn k h2 hlt).hk;omega))
 |@hi k h2 hk h0 _ ih=>
  intro hlt;rw [pQ ms h2 hlt] at h0 ih;exact .hi h2 hlt h0 (ih (by have:=(hn k h2 hlt).lk;omega))
def zD (op:Int) (a b:Bool):Bool:=if op=0 then a&&b else a|| b
structure nX (L:Int) (S:fp):Prop where
 no:I1 L S.ns
 fd:∀ x k,lk S.fd x=some k→2≤k∧k < S.ns.length+2∧nd S.ns k=x
 pr:∀ x k,lk S.pr x=some k→Vd S.ns x.2.1∧Vd S.ns x.2.2∧Vd S.ns k∧min (lvl L S.ns x.2.1) (lvl L S.ns x.2.2)≤lvl L S.ns k∧
  (∀ v,gY S.ns k v=zD x.1 (gY S.ns x.2.1 v) (gY S.ns x.2.2 v))∧(x.1=0→ee S.ns x.2.1→ee S.ns x.2.2→ee S.ns k)
theorem Vd.ext (h:Vd ns k) (ms:List I3):Vd (ns++ms) k:=⟨h.1,by have:=h.2;rw [qa3];omega⟩
def eW (S:fp) (lv lo hi:Int):fp×Int:=
 if lo=hi then (S,lo) else match lk S.fd (lv,lo,hi) with
  |some k=>(S,k)
  |none=>(⟨S.ns++[(lv,lo,hi)],kK S.fd (lv,lo,hi) ((S.ns.length:Int)+2),S.pr⟩,(S.ns.length:Int)+2)
def Grow (S S':fp) (m:Nat):Prop:=∃ ms,S'.ns=S.ns++ms∧ms.length≤m
theorem Grow.refl (S:fp) (m:Nat):Grow S S m:=⟨[],by simp,qc6 _⟩
variable {A B:fp} {m n:Nat}
theorem Grow.trans {C:fp} (h:Grow A B m) (h':Grow B C n):Grow A C (m+n):=by
 obtain ⟨x,e,l⟩:=h;obtain ⟨y,e',l'⟩:=h';exact ⟨x++y,by rw [e',e,qd6],by rw [qa3];omega⟩
theorem Grow.le (h:Grow A B m) (hl:m≤n):Grow A B n:=by
 obtain ⟨x,e,l⟩:=h;exact ⟨x,e,by omega⟩
theorem Grow.gY (h:Grow A B m) (hk:Vd A.ns k) (v:Int→Bool):gY B.ns k v=gY A.ns k v:=by
 obtain ⟨x,e,_⟩:=h;rw [e,ml x _ hk.2]
theorem Grow.lvl (h:Grow A B m) (L:Int) (hk:Vd A.ns k):lvl L B.ns k=lvl L A.ns k:=by
 obtain ⟨x,e,_⟩:=h;rw [e,nD L x hk.2]
theorem Grow.vd (h:Grow A B m) (hk:Vd A.ns k):Vd B.ns k:=by
 obtain ⟨x,e,_⟩:=h;rw [e];exact hk.ext x
theorem Grow.chain (h:Grow A B m) (hk:ee A.ns k):ee B.ns k:=by
 obtain ⟨x,e,_⟩:=h;rw [e];exact hk.ext x
theorem Grow.len (h:Grow A B m):A.ns.length≤B.ns.length∧B.ns.length≤A.ns.length+m:=by
 obtain ⟨x,e,l⟩:=h;rw [e,qa3];omega
variable {S:fp}
theorem nX.Rm (h:nX L S) (ms:List I3):∀ x k,lk S.pr x=some k→Vd (S.ns++ms) x.2.1∧Vd (S.ns++ms) x.2.2∧Vd (S.ns++ms) k∧min (lvl L (S.ns++ms) x.2.1) (lvl L (S.ns++ms) x.2.2)≤lvl L (S.ns++ms) k∧
 (∀ v,gY (S.ns++ms) k v=zD x.1 (gY (S.ns++ms) x.2.1 v) (gY (S.ns++ms) x.2.2 v))∧(x.1=0→ee (S.ns++ms) x.2.1→ee (S.ns++ms) x.2.2→ee (S.ns++ms) k):=fun x k hx=>by
 obtain ⟨v1,v2,v3,l,e,c⟩:=h.pr x k hx;refine ⟨v1.ext ms,v2.ext ms,v3.ext ms,?_,fun v=>?_,fun h0 c1 c2=>?_⟩
 ·rw [nD L ms v1.2,nD L ms v2.2,nD L ms v3.2];exact l
 ·rw [ml ms _ v1.2,ml ms _ v2.2,ml ms _ v3.2];exact e v
 exact (c h0 (c1.back h.no ms v1.2) (c2.back h.no ms v2.2)).ext ms
structure Qc (L:Int) (S S':fp) (lv lo hi k:Int):Prop where
 ok:nX L S'
 gr:Grow S S' 1
 vd:Vd S'.ns k
 le:lv≤lvl L S'.ns k
 sm:∀ v,gY S'.ns k v=if v lv=true then gY S.ns hi v else gY S.ns lo v
 ch:(lo=0∧ee S.ns hi∨hi=0∧ee S.ns lo)→ee S'.ns k
 pr:S'.pr=S.pr
theorem nE (h:nX L S) (h0:0≤lv) (hL:lv < L) (vl:Vd S.ns lo) (vh:Vd S.ns hi) (ll:lv < lvl L S.ns lo) (lh:lv < lvl L S.ns hi):
 Qc L S (eW S lv lo hi).1 lv lo hi (eW S lv lo hi).2:=by
 unfold eW;split
 ·rename_i e
  subst e;exact ⟨h,.refl _ _,vl,by simp only;omega,fun v=>by simp,fun c=>by rcases c with ⟨_,c⟩|⟨_,c⟩<;>exact c,rfl⟩
 rename_i hne;split
 ·rename_i k hk
  obtain ⟨k2,kl,kn⟩:=h.fd _ _ hk;refine ⟨h,.refl _ _,⟨by simp only;omega,kl⟩,?_,fun v=>?_,fun c=>?_,rfl⟩
  ·simp only [lvl];rw [if_neg ak,kn];exact Int.le_refl _
  ·rw [mP h.no k2 kl,kn]
  rcases c with ⟨c0,c⟩|⟨c0,c⟩
  ·exact .lo k2 kl (by rw [kn];exact c0) (by rw [kn];exact c)
  exact .hi k2 kl (by rw [kn];exact c0) (by rw [kn];exact c)
 rename_i hk;have hno:=h.no.snoc h0 hL vl vh hne ll lh;have hlen:((S.ns++[(lv,lo,hi)]).length:Int)=S.ns.length+1:=by simp
 refine ⟨⟨hno,fun x k hx=>?_,h.Rm _⟩,⟨_,rfl,by simp⟩,⟨by simp only;omega,by simp only;omega⟩,?_,fun v=>?_,fun c=>?_,rfl⟩
 ·rw [lf] at hx
  split at hx
  ·rename_i e
   injection hx with hx
   subst hx e;exact ⟨by omega,by simp only;omega,sM _ _⟩
  obtain ⟨a,b,c⟩:=h.fd x k hx;exact ⟨a,by simp only;omega,by simp only;rw [pQ _ a b];exact c⟩
 ·rw [NY];exact Int.le_refl _
 ·simp only;rw [ye,if_pos rfl]
 have hc:=fun (q:Int) (hq:ee S.ns q)=>hq.ext [(lv,lo,hi)];rcases c with ⟨c0,c⟩|⟨c0,c⟩
 ·exact .lo aQ aQ (by rw [sM];exact c0) (by rw [sM];exact hc _ c)
 exact .hi aQ aQ (by rw [sM];exact c0) (by rw [sM];exact hc _ c)
def j2 (L:Int) (ns:List I3) (k lv:Int):Int×Int:=if lvl L ns k > lv then (k,k) else ((nd ns k).2.1,(nd ns k).2.2)
structure Tg (L:Int) (ns:List I3) (k lv:Int) (p:Int×Int):Prop where
 v1:Vd ns p.1
 v2:Vd ns p.2
 l1:lv < lvl L ns p.1
 l2:lv < lvl L ns p.2
 sm:∀ v,gY ns k v=if v lv=true then gY ns p.2 v else gY ns p.1 v
 ch:ee ns k→ee ns p.1∧ee ns p.2∧(lvl L ns k=lv→p.1=0∨p.2=0)
theorem ee.kids (h:ee ns k) (h2:2≤k):ee ns (nd ns k).2.1∧ee ns (nd ns k).2.2∧((nd ns k).2.1=0∨(nd ns k).2.2=0):=by
 cases h with
 |zero=>omega
 |one=>omega
 |lo _ _ h0 hc=>exact ⟨by rw [h0];exact .zero,hc,.inl h0⟩
 |hi _ _ h0 hc=>exact ⟨hc,by rw [h0];exact .zero,.inr h0⟩
theorem lj (h:I1 L ns) (hv:Vd ns k) (hl:lv≤lvl L ns k) (hL:lv < L):Tg L ns k lv (j2 L ns k lv):=by
 unfold j2;split
 ·rename_i hg
  exact ⟨hv,hv,hg,hg,fun v=>by simp,fun c=>⟨c,c,fun e=>by omega⟩⟩
 rename_i hg;have e:lvl L ns k=lv:=by omega
 have h2:¬k < 2:=fun hh=>by unfold lvl at e;rw [if_pos hh] at e;omega
 have hn:=h k ak hv.2;have hk:=hv.2;have e2:(nd ns k).1=lv:=by unfold lvl at e;rw [if_neg h2] at e;exact e
 obtain ⟨_,_,l0,l1,h0,h1,_,a8,a9⟩:=hn;refine ⟨⟨l0,by simp only;omega⟩,⟨h0,by simp only;omega⟩,by rw [e2] at a8;exact a8,by rw [e2] at a9;exact a9,fun v=>?_,fun c=>?_⟩
 ·rw [mP h ak hv.2,e2]
 obtain ⟨c1,c2,c3⟩:=c.kids ak;exact ⟨c1,c2,fun _=>c3⟩
def lX (L:Int) (rec:fp→Int→Int→fp×Int) (op:Int) (S:fp) (a b:Int):fp×Int:=
 match lk S.pr (op,a,b) with
 |some k=>(S,k)
 |none=>
  let lv:=min (lvl L S.ns a) (lvl L S.ns b);let p:=j2 L S.ns a lv;let q:=j2 L S.ns b lv;let x:=rec S p.1 q.1;let y:=rec x.1 p.2 q.2;let z:=eW y.1 lv x.2 y.2
  (⟨z.1.ns,z.1.fd,kK z.1.pr (op,a,b) z.2⟩,z.2)
def dE (L:Int) (op:Int):Nat→fp→Int→Int→fp×Int
 |0,S,a,b=>if a=b then (S,a) else if a < 2∧(a=1↔op=0) then (S,b) else if b < 2∧(b=1↔op=0) then (S,a) else (S,op)
 |n+1,S,a,b=>if a=b then (S,a) else if a < 2∧(a=1↔op=0) then (S,b) else if b < 2∧(b=1↔op=0) then (S,a) else if a < 2∨b < 2 then (S,op)
  else if a > b then lX L (dE L op n) op S b a else lX L (dE L op n) op S a b
structure uc (L:Int) (n:Nat) (op:Int) (S:fp) (a b:Int) (r:fp×Int):Prop where
 ok:nX L r.1
 gr:Grow S r.1 (2 ^ n - 1)
 vd:Vd r.1.ns r.2
 lv:min (lvl L S.ns a) (lvl L S.ns b)≤lvl L r.1.ns r.2
 sm:∀ v,gY r.1.ns r.2 v=zD op (gY S.ns a v) (gY S.ns b v)
 ch:op=0→ee S.ns a→ee S.ns b→ee r.1.ns r.2∧Grow S r.1 n
variable {op a b:Int}
theorem uc.base (h:nX L S) (hv:Vd S.ns k) (hl:min (lvl L S.ns a) (lvl L S.ns b)≤lvl L S.ns k) (hs:∀ v,gY S.ns k v=zD op (gY S.ns a v) (gY S.ns b v)) (hc:op=0→ee S.ns a→ee S.ns b→ee S.ns k):uc L n op S a b (S,k):=
 ⟨h,.refl _ _,hv,hl,hs,fun h0 c1 c2=>⟨hc h0 c1 c2,.refl _ _⟩⟩
theorem jR (ns:List I3) (v:Int→Bool):gY ns 0 v=false∧gY ns 1 v=true:=⟨by rw [nC ns ak];rfl,by rw [nC ns ak];rfl⟩
theorem uc.symm {r:fp×Int} (h:uc L n op S a b r):uc L n op S b a r:=
 ⟨h.ok,h.gr,h.vd,by have:=h.lv;omega,fun v=>by rw [h.sm];unfold zD;split;exact Bool.and_comm _ _;exact Bool.or_comm _ _,fun h0 c1 c2=>h.ch h0 c2 c1⟩
theorem ud (n:Nat):1≤2 ^ n∧2 ^ (n+1)=2 * 2 ^ n:=⟨Nat.one_le_two_pow,by omega⟩
theorem CZ (h0L:0≤L) (h:nX L S) (va:Vd S.ns a) (vb:Vd S.ns b) (a2:2≤a) (b2:2≤b) {rec:fp→Int→Int→fp×Int}
 (hn:L - min (lvl L S.ns a) (lvl L S.ns b)≤(n:Int)+1)
 (hrec:∀ (T:fp) (x y:Int),nX L T→Vd T.ns x→Vd T.ns y→L - min (lvl L T.ns x) (lvl L T.ns y)≤(n:Int)→uc L n op T x y (rec T x y))
 (hz:∀ (T:fp) (x y:Int),op=0→(x=0∨y=0)→Vd T.ns x→Vd T.ns y→rec T x y=(T,0)):uc L (n+1) op S a b (lX L rec op S a b):=by
 unfold lX;split
 ·rename_i k hk
  obtain ⟨_,_,v3,l,e,c⟩:=h.pr _ _ hk;exact .base h v3 l e c
 rename_i hk;have la:=jz h.no a2 va.2;have lb:=jz h.no b2 vb.2;generalize hlv:min (lvl L S.ns a) (lvl L S.ns b)=lv at hn;have sa:=lj h.no va (lv:=lv) ak ak;have sb:=lj h.no vb (lv:=lv) ak ak;simp only;generalize j2 L S.ns a lv=p at sa;generalize j2 L S.ns b lv=q at sb;have r1:=hrec S p.1 q.1 h sa.v1 sb.v1 (by have:=sa.l1;have:=sb.l1;omega);have z1:=hz S p.1 q.1;generalize rec S p.1 q.1=x at r1 z1;have vp2:=r1.gr.vd sa.v2;have vq2:=r1.gr.vd sb.v2;have r2:=hrec x.1 p.2 q.2 r1.ok vp2 vq2 (by rw [r1.gr.lvl L sa.v2,r1.gr.lvl L sb.v2];have:=sa.l2;have:=sb.l2;omega);have z2:=hz x.1 p.2 q.2;generalize rec x.1 p.2 q.2=y at r2 z2;have l1:=r1.lv;have l2:=r2.lv;have k1:=sa.l1;have k2:=sb.l1;have k3:=sa.l2;have k4:=sb.l2;rw [r1.gr.lvl L sa.v2,r1.gr.lvl L sb.v2] at l2;have lx:=r2.gr.lvl L r1.vd;have r3:=nE r2.ok (lv:=lv) (lo:=x.2) (hi:=y.2) ak ak (r2.gr.vd r1.vd) r2.vd ak ak;generalize eW y.1 lv x.2 y.2=z at r3;have g:Grow S z.1 ((2 ^ n - 1)+(2 ^ n - 1)+1):=(r1.gr.trans r2.gr).trans r3.gr;have hp2:=ud n;have g':Grow S z.1 (2 ^ (n+1) - 1):=g.le ak;have sm:∀ v,gY z.1.ns z.2 v=zD op (gY S.ns a v) (gY S.ns b v):=fun v=>by
  rw [r3.sm,r2.sm,r2.gr.gY r1.vd,r1.sm,r1.gr.gY sa.v2,r1.gr.gY sb.v2,sa.sm v,sb.sm v];by_cases hv:v lv=true<;>simp [hv]
 have ch:op=0→ee S.ns a→ee S.ns b→ee z.1.ns z.2∧Grow S z.1 (n+1):=fun h0 ca cb=>by
  obtain ⟨c1,c2,c3⟩:=sa.ch ca;obtain ⟨d1,d2,d3⟩:=sb.ch cb;have hside:(p.1=0∨q.1=0)∨(p.2=0∨q.2=0):=by
   have:lvl L S.ns a=lv∨lvl L S.ns b=lv:=by omega
   rcases this with e|e
   ·rcases c3 e with e|e<;>simp [e]
   rcases d3 e with e|e<;>simp [e]
  rcases hside with hs|hs
  ·have ez:=z1 h0 hs sa.v1 sb.v1
   subst ez;obtain ⟨cy,gy⟩:=r2.ch h0 c2 d2;exact ⟨r3.ch (.inl ⟨rfl,cy⟩),(gy.trans r3.gr)⟩
  have ez:=z2 h0 hs vp2 vq2;subst ez;obtain ⟨cx,gx⟩:=r1.ch h0 c1 d1;exact ⟨r3.ch (.inr ⟨rfl,cx⟩),(gx.trans r3.gr)⟩
 have lz:=r3.le;have va':=g.vd va;have vb':=g.vd vb;refine ⟨⟨r3.ok.no,r3.ok.fd,fun w k hw=>?_⟩,g',r3.vd,by simp only;omega,sm,ch⟩;simp only at hw ⊢;rw [lf] at hw;split at hw
 ·rename_i e
  injection hw with hw
  subst hw e;refine ⟨va',vb',r3.vd,?_,fun v=>?_,fun h0 c1 c2=>?_⟩
  ·rw [g.lvl L va,g.lvl L vb];omega
  ·rw [sm,g.gY va,g.gY vb]
  obtain ⟨ms,em,_⟩:=g;simp only at c1 c2;rw [em] at c1 c2;exact (ch h0 (c1.back h.no ms va.2) (c2.back h.no ms vb.2)).1
 exact r3.ok.pr w k hw
theorem Ij:∀ {n:Nat} {S:fp} {a b:Int},(a=0∨b=0)→Vd S.ns a→Vd S.ns b→dE L 0 n S a b=(S,0):=by
 intro n S a b h va vb;have:=va.1;have:=vb.1;cases n with
 |zero=>
  unfold dE;split
  ·simp;omega
  split
  ·simp;omega
  split
  ·simp;omega
  rfl
 |succ n=>
  unfold dE;split
  ·simp;omega
  split
  ·simp;omega
  split
  ·simp;omega
  rw [if_pos ak]
theorem gk {L:Int} (h0L:0≤L) {op:Int} (hop:op=0∨op=1):∀ (n:Nat) (S:fp) (a b:Int),nX L S→Vd S.ns a→Vd S.ns b→L - min (lvl L S.ns a) (lvl L S.ns b)≤(n:Int)→uc L n op S a b (dE L op n S a b)
 |n,S,a,b,h,va,vb,hn=>by
  have base:∀ k:Int,(a=b∧k=a)∨(a < 2∧(a=1↔op=0)∧k=b)∨(b < 2∧(b=1↔op=0)∧k=a)∨(a≠b∧¬(a < 2∧(a=1↔op=0))∧¬(b < 2∧(b=1↔op=0))∧(a < 2∨b < 2)∧k=op)→uc L n op S a b (S,k):=fun k hk=>by
   have a0:=va.1;have b0:=vb.1;have la:=sN h.no h0L va;have lb:=sN h.no h0L vb;have low:∀ q:Int,q < 2→lvl L S.ns q=L:=fun q hq=>by unfold lvl;rw [if_pos hq]
   obtain ⟨s0,s1⟩:(∀ v,gY S.ns 0 v=false)∧(∀ v,gY S.ns 1 v=true):=⟨fun v=>(jR S.ns v).1,fun v=>(jR S.ns v).2⟩
   rcases hk with ⟨e,ek⟩|⟨a2,ha,ek⟩|⟨b2,hb,ek⟩|⟨hne,hna,hnb,hlow,ek⟩
   ·subst ek;subst e
    exact .base h va ak (fun v=>by unfold zD;split<;>simp) (fun _ c _=>c)
   ·subst ek
    refine .base h vb (by rw [low a a2];omega) (fun v=>?_) (fun _ _ c=>c);rcases hop with rfl|rfl
    ·obtain rfl:a=1:=by omega
     rw [s1];simp [zD]
    obtain rfl:a=0:=by omega
    rw [s0];simp [zD]
   ·subst ek
    refine .base h va (by rw [low b b2];omega) (fun v=>?_) (fun _ c _=>c);rcases hop with rfl|rfl
    ·obtain rfl:b=1:=by omega
     rw [s1];simp [zD]
    obtain rfl:b=0:=by omega
    rw [s0];simp [zD]
   subst ek;have vo:Vd S.ns k:=⟨by omega,by omega⟩
   refine .base h vo (by rw [low k ak];omega) (fun v=>?_) (fun h0 _ _=>by rw [h0];exact .zero);rcases hop with rfl|rfl
   ·rw [s0]
    rcases hlow with hq|hq
    ·obtain rfl:a=0:=by omega
     rw [s0];simp [zD]
    obtain rfl:b=0:=by omega
    rw [s0];simp [zD]
   rw [s1];rcases hlow with hq|hq
   ·obtain rfl:a=1:=by omega
    rw [s1];simp [zD]
   obtain rfl:b=1:=by omega
   rw [s1];simp [zD]
  cases n with
  |zero=>
   unfold dE;split
   ·exact base _ (.inl ⟨by assumption,rfl⟩)
   split
   ·rename_i h1;exact base _ (.inr (.inl ⟨h1.1,h1.2,rfl⟩))
   split
   ·rename_i h1;exact base _ (.inr (.inr (.inl ⟨h1.1,h1.2,rfl⟩)))
   rename_i h1 h2 h3;refine base _ (.inr (.inr (.inr ⟨h1,h2,h3,?_,rfl⟩)));by_cases ha:a < 2
   ·exact .inl ha
   have:=jz h.no (k:=a) ak va.2;omega
  |succ n=>
   unfold dE;split
   ·exact base _ (.inl ⟨by assumption,rfl⟩)
   split
   ·rename_i h1;exact base _ (.inr (.inl ⟨h1.1,h1.2,rfl⟩))
   split
   ·rename_i h1;exact base _ (.inr (.inr (.inl ⟨h1.1,h1.2,rfl⟩)))
   rename_i h1 h2 h3;split
   ·exact base _ (.inr (.inr (.inr ⟨h1,h2,h3,by assumption,rfl⟩)))
   rename_i h4;have hz:∀ (T:fp) (x y:Int),op=0→(x=0∨y=0)→Vd T.ns x→Vd T.ns y→dE L op n T x y=(T,0):=fun T x y h0 hxy vx vy=>by subst h0;exact Ij hxy vx vy
   split
   ·exact (CZ h0L h vb va ak ak ak (fun T x y ht vx vy hl=>gk h0L hop n T x y ht vx vy hl) hz).symm
   exact CZ h0L h va vb ak ak ak (fun T x y ht vx vy hl=>gk h0L hop n T x y ht vx vy hl) hz
structure GY (L:Int) (S:fp) (kn:List (Int×Int)):Prop where
 z:lk kn 0=some 1
 o:lk kn 1=some 0
 all:∀ k o,lk kn k=some o→Vd S.ns k∧Vd S.ns o∧lvl L S.ns k≤lvl L S.ns o∧∀ v,gY S.ns o v= !gY S.ns k v
def lR:Nat→fp→List (Int×Int)→Int→(fp×List (Int×Int))×Int
 |0,S,kn,k=>((S,kn),(lk kn k).getD 0)
 |n+1,S,kn,k=>match lk kn k with
  |some o=>((S,kn),o)
  |none=>
   let m:=nd S.ns k;let x:=lR n S kn m.2.1;let y:=lR n x.1.1 x.1.2 m.2.2;let z:=eW y.1.1 m.1 x.2 y.2
   ((z.1,kK y.1.2 k z.2),z.2)
structure UQ (L:Int) (n:Nat) (S:fp) (k:Int) (r:(fp×List (Int×Int))×Int):Prop where
 ok:nX L r.1.1
 kn:GY L r.1.1 r.1.2
 gr:Grow S r.1.1 (2 ^ n - 1)
 vd:Vd r.1.1.ns r.2
 lv:lvl L S.ns k≤lvl L r.1.1.ns r.2
 sm:∀ v,gY r.1.1.ns r.2 v= !gY S.ns k v
theorem GY.ext {S':fp} {kn:List (Int×Int)} (h:GY L S kn) (g:Grow S S' m):GY L S' kn:=
 ⟨h.z,h.o,fun k o hk=>by
  obtain ⟨v1,v2,l,e⟩:=h.all k o hk;exact ⟨g.vd v1,g.vd v2,by rw [g.lvl L v1,g.lvl L v2];exact l,fun v=>by rw [g.gY v1,g.gY v2];exact e v⟩⟩
theorem sO {L:Int} (h0L:0≤L):∀ (n:Nat) (S:fp) (kn:List (Int×Int)) (k:Int),nX L S→GY L S kn→Vd S.ns k→L - lvl L S.ns k≤(n:Int)→UQ L n S k (lR n S kn k)
 |0,S,kn,k,h,hk,hv,hn=>by
  have h2:k < 2:=by
   by_cases h2:k < 2
   ·exact h2
   have:=jz h.no ak hv.2;omega
  have h0:=hv.1;obtain ⟨o,ho⟩:∃ o,lk kn k=some o:=by
   rcases (by omega:k=0∨k=1) with rfl|rfl
   ·exact ⟨_,hk.z⟩
   exact ⟨_,hk.o⟩
  obtain ⟨v1,v2,l,e⟩:=hk.all k o ho;unfold lR;rw [ho];exact ⟨h,hk,.refl _ _,v2,l,e⟩
 |n+1,S,kn,k,h,hk,hv,hn=>by
  unfold lR;split
  ·rename_i o ho
   obtain ⟨v1,v2,l,e⟩:=hk.all k o ho;exact ⟨h,hk,.refl _ _,v2,l,e⟩
  rename_i ho;have h0:=hv.1;have h2:2≤k:=by
   by_cases h2:2≤k
   ·exact h2
   rcases (by omega:k=0∨k=1) with rfl|rfl
   ·rw [hk.z] at ho;cases ho
   rw [hk.o] at ho;cases ho
  have hk2:=hv.2;have hnd:=h.no k h2 hv.2;have hsn:=mP h.no h2 hv.2;have hl:lvl L S.ns k=(nd S.ns k).1:=by unfold lvl;rw [if_neg ak]
  obtain ⟨w0,wL,l0,l1,g0,g1,ne,ll,lh⟩:=hnd;generalize nd S.ns k=m at *;simp only;have vl:Vd S.ns m.2.1:=⟨l0,by omega⟩
  have vh:Vd S.ns m.2.2:=⟨g0,by omega⟩
  have r1:=sO h0L n S kn m.2.1 h hk vl ak;generalize lR n S kn m.2.1=x at r1;have r2:=sO h0L n x.1.1 x.1.2 m.2.2 r1.ok r1.kn (r1.gr.vd vh) (by rw [r1.gr.lvl L vh];omega);generalize lR n x.1.1 x.1.2 m.2.2=y at r2;have lx:=r1.lv;have ly:=r2.lv;rw [r1.gr.lvl L vh] at ly;have lx2:=r2.gr.lvl L r1.vd;have r3:=nE r2.ok (lv:=m.1) (lo:=x.2) (hi:=y.2) w0 wL (r2.gr.vd r1.vd) r2.vd ak ak;generalize eW y.1.1 m.1 x.2 y.2=z at r3;have g:Grow S z.1 ((2 ^ n - 1)+(2 ^ n - 1)+1):=(r1.gr.trans r2.gr).trans r3.gr;have hp2:=ud n;have lz:=r3.le;have sm:∀ v,gY z.1.ns z.2 v= !gY S.ns k v:=fun v=>by
   rw [r3.sm,r2.sm,r2.gr.gY r1.vd,r1.sm,r1.gr.gY vh,hsn];split<;>rfl
  have hkz:=(r2.kn.ext r3.gr)
  have hll:lvl L S.ns k≤lvl L z.1.ns z.2:=by omega
  refine ⟨r3.ok,⟨?_,?_,fun a o ha=>?_⟩,g.le ak,r3.vd,by simp only;omega,sm⟩
  ·simp only [lf];rw [if_neg ak];exact hkz.z
  ·simp only [lf];rw [if_neg ak];exact hkz.o
  simp only [lf] at ha;split at ha
  ·rename_i e
   injection ha with ha
   subst ha e;exact ⟨g.vd hv,r3.vd,by rw [g.lvl L hv];exact hll,fun v=>by rw [sm,g.gY hv]⟩
  exact hkz.all a o ha
def Ky:List (Int×Int):=[(0,1),(1,0)]
theorem E0 (h0L:0≤L):GY L S Ky:=⟨rfl,rfl,fun k o h=>by
 have hc:(k=0∧o=1)∨(k=1∧o=0):=by
  unfold Ky at h;simp only [lk] at h;split at h
  ·rename_i e;injection h with h;exact .inl ⟨e.symm,h.symm⟩
  split at h
  ·rename_i e;injection h with h;exact .inr ⟨e.symm,h.symm⟩
  cases h
 have low:∀ q:Int,q < 2→lvl L S.ns q=L:=fun q hq=>by unfold lvl;rw [if_pos hq]
 rcases hc with ⟨rfl,rfl⟩|⟨rfl,rfl⟩
 ·exact ⟨⟨by omega,by omega⟩,⟨by omega,by omega⟩,by rw [low _ ak,low _ ak];exact Int.le_refl _,fun v=>by rw [(jR S.ns v).1,(jR S.ns v).2];rfl⟩
 exact ⟨⟨by omega,by omega⟩,⟨by omega,by omega⟩,by rw [low _ ak,low _ ak];exact Int.le_refl _,fun v=>by rw [(jR S.ns v).1,(jR S.ns v).2];rfl⟩⟩
def AU (L:Int) (S:fp) (k:Int):fp×Int:=((lR L.toNat S Ky k).1.1,(lR L.toNat S Ky k).2)
def gK (L:Int) (op:Int) (S:fp) (a b:Int):fp×Int:=dE L op L.toNat S a b
theorem v0 (ns:List I3):Vd ns 0:=⟨by omega,by omega⟩
theorem v1 (ns:List I3):Vd ns 1:=⟨by omega,by omega⟩
theorem jo (L:Int) (ns:List I3) {q:Int} (h:q < 2):lvl L ns q=L:=by unfold lvl;rw [if_pos h]
def lD (w:Nat→Bool):Nat→fp→Int→fp×Int
 |0,S,k=>(S,k)
 |m+1,S,k=>let z:=if w m=true then eW S m 0 k else eW S m k 0
  lD w m z.1 z.2
structure zC (L:Int) (m:Nat) (S:fp) (r:fp×Int) (p:(Int→Bool)→Prop):Prop where
 ok:nX L r.1
 gr:Grow S r.1 m
 vd:Vd r.1.ns r.2
 sm:∀ v,gY r.1.ns r.2 v=true↔p v
theorem yb {L:Int} (w:Nat→Bool):∀ (m:Nat) (S:fp) (k:Int),(m:Int)≤L→nX L S→Vd S.ns k→(m:Int)≤lvl L S.ns k→
 zC L m S (lD w m S k) (fun v=>gY S.ns k v=true∧∀ i:Nat,i < m→v i=w i)
 |0,S,k,_,h,hv,_=>⟨h,.refl _ _,hv,fun v=>⟨fun e=>⟨e,fun i hi=>by omega⟩,fun e=>e.1⟩⟩
 |m+1,S,k,hL,h,hv,hl=>by
  unfold lD;have step:∀ z:fp×Int,(∃ lo hi,Qc L S z.1 m lo hi z.2∧∀ v,(if v (m:Int)=true then gY S.ns hi v else gY S.ns lo v)=true↔gY S.ns k v=true∧v (m:Int)=w m)→
   zC L (m+1) S (lD w m z.1 z.2) (fun v=>gY S.ns k v=true∧∀ i:Nat,i < m+1→v i=w i):=fun z ⟨lo,hi,hz,hs⟩=>by
   have r:=yb w m z.1 z.2 ak hz.ok hz.vd (by have:=hz.le;omega);refine ⟨r.ok,(hz.gr.trans r.gr).le ak,r.vd,fun v=>?_⟩;rw [r.sm,hz.sm,hs];constructor
   ·rintro ⟨⟨a,b⟩,c⟩
    refine ⟨a,fun i hi=>?_⟩;by_cases e:i=m
    ·subst e;exact b
    exact c i ak
   rintro ⟨a,b⟩;exact ⟨⟨a,b m ak⟩,fun i hi=>b i ak⟩
  simp only;have z0:=fun v=>(jR S.ns v).1;split
  ·rename_i hw
   refine step _ ⟨0,k,nE h ak ak (v0 _) hv (by rw [jo L _ ak];omega) ak,fun v=>?_⟩;rw [z0,hw];split<;>simp_all
  rename_i hw;refine step _ ⟨k,0,nE h ak ak hv (v0 _) ak (by rw [jo L _ ak];omega),fun v=>?_⟩;rw [z0];simp only [qj7] at hw;rw [hw];split<;>simp_all
structure SSet where
 eM:List Int
 no:List Int
def qI (S:fp) (p:Int) (pos:Bool):fp×Int:=if pos=true then eW S p 0 1 else eW S p 1 0
def lY (L:Int) (pos:Bool):List Int→fp→Int→fp×Int
 |[],S,k=>(S,k)
 |p::r,S,k=>let l:=qI S p pos
  let z:=gK L 0 l.1 l.2 k
  lY L pos r z.1 z.2
theorem AX (h:nX L S) {p:Int} (h0:0≤p) (hL:p < L) (pos:Bool):
 nX L (qI S p pos).1∧Grow S (qI S p pos).1 1∧Vd (qI S p pos).1.ns (qI S p pos).2∧ee (qI S p pos).1.ns (qI S p pos).2∧∀ v,gY (qI S p pos).1.ns (qI S p pos).2 v=true↔v p=pos:=by
 have l0:=jo L S.ns (q:=0) ak;have l1:=jo L S.ns (q:=1) ak;unfold qI;cases pos with
 |true=>
  rw [if_pos rfl];have r:=nE h h0 hL (v0 S.ns) (v1 S.ns) ak ak;refine ⟨r.ok,r.gr,r.vd,r.ch (.inl ⟨rfl,.one⟩),fun v=>?_⟩;rw [r.sm,(jR S.ns v).1,(jR S.ns v).2];split<;>simp_all
 |false=>
  rw [if_neg aC];have r:=nE h h0 hL (v1 S.ns) (v0 S.ns) ak ak;refine ⟨r.ok,r.gr,r.vd,r.ch (.inr ⟨rfl,.one⟩),fun v=>?_⟩;rw [r.sm,(jR S.ns v).1,(jR S.ns v).2];split<;>simp_all
theorem nY (h0L:0≤L) (h:nX L S) (va:Vd S.ns a) (vb:Vd S.ns b):L - min (lvl L S.ns a) (lvl L S.ns b)≤(L.toNat:Int):=by
 have:=sN h.no h0L va;have:=sN h.no h0L vb;omega
theorem yf {L:Int} (h0L:0≤L) (pos:Bool):∀ (l:List Int) (S:fp) (k:Int),(∀ p∈l,0≤p∧p < L)→nX L S→Vd S.ns k→ee S.ns k→
 zC L (l.length * (L.toNat+1)) S (lY L pos l S k) (fun v=>gY S.ns k v=true∧∀ p∈l,v p=pos)∧ee (lY L pos l S k).1.ns (lY L pos l S k).2
 |[],S,k,_,h,hv,hc=>⟨⟨h,.refl _ _,hv,fun v=>⟨fun e=>⟨e,fun p hp=>by cases hp⟩,fun e=>e.1⟩⟩,hc⟩
 |p::r,S,k,hp,h,hv,hc=>by
  unfold lY;simp only;obtain ⟨p0,pL⟩:=hp p aC;obtain ⟨l1,l2,l3,l4,l5⟩:=AX h p0 pL pos;generalize qI S p pos=l at *;have r1:=gk h0L (.inl rfl) L.toNat l.1 l.2 k l1 l3 (l2.vd hv) (nY h0L l1 l3 (l2.vd hv));have ez:dE L 0 L.toNat l.1 l.2 k=gK L 0 l.1 l.2 k:=rfl;rw [ez] at r1;generalize gK L 0 l.1 l.2 k=z at r1;obtain ⟨c1,c2⟩:=r1.ch rfl l4 (l2.chain hc);obtain ⟨r2,r3⟩:=yf h0L pos r z.1 z.2 (fun q hq=>hp q (by simp [hq])) r1.ok r1.vd c1;refine ⟨⟨r2.ok,((l2.trans c2).trans r2.gr).le (by rw [qb8,qi9];omega),r2.vd,fun v=>?_⟩,r3⟩;rw [r2.sm,r1.sm,l2.gY hv];simp only [zD,if_true,qa1,l5,qc2,forall_eq_or_imp];exact ⟨fun ⟨⟨a,b⟩,c⟩=>⟨b,a,c⟩,fun ⟨b,a,c⟩=>⟨⟨a,b⟩,c⟩⟩
def oN (L:Int) (c:SSet) (S:fp):fp×Int:=
 let x:=lY L true c.eM.reverse S 1
 lY L false c.no.reverse x.1 x.2
def kB (c:SSet) (v:Int→Bool):Prop:=(∀ p∈c.eM,v p=true)∧∀ p∈c.no,v p=false
structure Sg (L:Int) (c:SSet):Prop where
 n1:∀ p∈c.eM,0≤p∧p < L
 n2:∀ p∈c.no,0≤p∧p < L
 l1:c.eM.length≤24
 l2:c.no.length≤24
variable {c:SSet}
theorem ue (h0L:0≤L) (hL:L≤24) (hc:Sg L c) (h:nX L S):zC L 1200 S (oN L c S) (kB c):=by
 unfold oN;simp only;obtain ⟨r1,c1⟩:=yf h0L true c.eM.reverse S 1 (fun p hp=>hc.n1 p (by simpa using hp)) h (v1 _) .one;generalize lY L true c.eM.reverse S 1=x at *;obtain ⟨r2,c2⟩:=yf h0L false c.no.reverse x.1 x.2 (fun p hp=>hc.n2 p (by simpa using hp)) r1.ok r1.vd c1;have h1:c.eM.reverse.length * (L.toNat+1)≤24 * 25:=Nat.mul_le_mul (by rw [List.length_reverse];exact hc.l1) ak;have h2:c.no.reverse.length * (L.toNat+1)≤24 * 25:=Nat.mul_le_mul (by rw [List.length_reverse];exact hc.l2) ak;refine ⟨r2.ok,(r1.gr.trans r2.gr).le ak,r2.vd,fun v=>?_⟩;rw [r2.sm,r1.sm,(jR S.ns v).2];simp [kB]
def CU:Nat:=16777216
def x9 (L:Int):List SSet→fp→Int→fp×Int
 |[],S,k=>(S,k)
 |c::r,S,k=>let x:=oN L c S
  let z:=gK L 1 x.1 k x.2
  x9 L r z.1 z.2
theorem sL (hL:L≤24):2 ^ L.toNat≤CU:=qk7 ak (by omega:L.toNat≤24)
theorem Gj {L:Int} (h0L:0≤L) (hL:L≤24):∀ (l:List SSet) (S:fp) (k:Int),(∀ c∈l,Sg L c)→nX L S→Vd S.ns k→
 zC L (l.length * (CU+1200)) S (x9 L l S k) (fun v=>gY S.ns k v=true∨∃ c∈l,kB c v)
 |[],S,k,_,h,hv=>⟨h,.refl _ _,hv,fun v=>by simp [x9]⟩
 |c::r,S,k,hc,h,hv=>by
  unfold x9;simp only;have r1:=ue h0L hL (hc c aC) h;generalize oN L c S=x at *;have r2:=gk h0L (.inr rfl) L.toNat x.1 k x.2 r1.ok (r1.gr.vd hv) r1.vd (nY h0L r1.ok (r1.gr.vd hv) r1.vd);have ez:dE L 1 L.toNat x.1 k x.2=gK L 1 x.1 k x.2:=rfl;rw [ez] at r2;generalize gK L 1 x.1 k x.2=z at r2;have r3:=Gj h0L hL r z.1 z.2 (fun d hd=>hc d (by simp [hd])) r2.ok r2.vd;have hp:=sL hL;refine ⟨r3.ok,((r1.gr.trans r2.gr).trans r3.gr).le (by rw [qb8,qi9];omega),r3.vd,fun v=>?_⟩;rw [r3.sm,r2.sm,r1.gr.gY hv];simp only [zD,show ((1:Int)=0)=False by decide,if_false,qe0,r1.sm,qc2,exists_eq_or_imp];exact or_assoc
def x8 (L:Int) (all:Int) (c:SSet) (S:fp):fp×Bool:=
 let x:=oN L c S;let y:=AU L x.1 all;let z:=gK L 0 y.1 x.2 y.2
 (z.1,decide (z.2=0))
structure UR (L:Int) (S S':fp) (all:Int) (c:SSet) (b:Bool):Prop where
 ok:nX L S'
 gr:Grow S S' (2 * CU+1200)
 sm:b=true↔∀ v,kB c v→gY S.ns all v=true
theorem Gi (h0L:0≤L) (hL:L≤24) (hc:Sg L c) (h:nX L S) {all:Int} (hv:Vd S.ns all):UR L S (x8 L all c S).1 all c (x8 L all c S).2:=by
 unfold x8;simp only;have r1:=ue h0L hL hc h;generalize oN L c S=x at *;have hb:=sN r1.ok.no h0L (r1.gr.vd hv);have r2:=sO h0L L.toNat x.1 Ky all r1.ok (E0 h0L) (r1.gr.vd hv) ak;unfold AU;generalize lR L.toNat x.1 Ky all=y at *;have r3:=gk h0L (.inl rfl) L.toNat y.1.1 x.2 y.2 r2.ok (r2.gr.vd r1.vd) r2.vd (nY h0L r2.ok (r2.gr.vd r1.vd) r2.vd);have ez:dE L 0 L.toNat y.1.1 x.2 y.2=gK L 0 y.1.1 x.2 y.2:=rfl;rw [ez] at r3;simp only;generalize gK L 0 y.1.1 x.2 y.2=z at r3;have hp:=sL hL;refine ⟨r3.ok,((r1.gr.trans r2.gr).trans r3.gr).le ak,?_⟩;rw [decide_eq_true_iff,Ii r3.ok.no r3.vd];have e:∀ v,gY z.1.ns z.2 v=false↔(kB c v→gY S.ns all v=true):=fun v=>by
  have h1:=r1.sm v;rw [r3.sm,r2.sm,r2.gr.gY r1.vd,r1.gr.gY hv];cases hx:gY x.1.ns x.2 v<;>cases hy:gY S.ns all v<;>simp [zD,hx] at h1 ⊢<;>exact h1
 exact ⟨fun h v=>(e v).1 (h v),fun h v=>(e v).2 (h v)⟩
end
section
attribute [local irreducible] dP fv mu lV dj PV ff ew AW bm da en dQ cX Ab.Fin fi er gF iN RV kh Le eV fL ma iG kM dJ dt
set_option maxHeartbeats 8000000
abbrev N0 (n:I3):List AV:=[.int n.1,.int n.2.1,.int n.2.2]
abbrev wA (l:List I3):List AV:=l.flatMap N0
@[go_sem] theorem Ub (id:Nat) (l:List I3):AV.bz id (wA l)=false:=ef id N0 l fun _=>rfl
@[go_sem] theorem Th (id:Nat) (l:List I3):AV.cG id (wA l)=wA l:=ir id N0 l fun _=>rfl
theorem E1 (l:List I3):AV.cu (wA l)=true:=gu N0 l fun _=>rfl
@[go_sem] theorem US (ids pins:List Nat) (l:List I3):AV.jP ids pins (wA l)=wA l:=mK (E1 l)
@[go_sem] theorem UT (ids:List Nat) (l:List I3):AV.j6 ids (wA l)=true:=oB (E1 l)
@[go_sem] theorem Rn (l:List I3):(wA l).length=l.length * 3:=by
 unfold wA
 induction l with
 |nil=>rfl
 |cons w l ih=>rw [qd5,qa3,ih,qb8];simp;omega
theorem Kz (a b:List I3):wA (a++b)=wA a++wA b:=qd8
class Ti (k:Nat) (N:List I3):Prop where
 lt:k < N.length
theorem Gm:∀ {l:List I3} {k i:Nat} (hi:i < 3) (h:k * 3+i < (wA l).length) (hk:k < l.length),(wA l)[k * 3+i]=(N0 l[k])[i]'(by simpa using hi)
 |[],k,i,_,_,hk=>absurd hk aC
 |n::l,0,i,hi,h,hk=>by
  have:wA (n::l)=N0 n++wA l:=qd5 ..
  simp only [this,Nat.zero_mul,ql4];rw [List.getElem_append_left (by simpa using hi)];rfl
 |n::l,k+1,i,hi,h,hk=>by
  have e:wA (n::l)=N0 n++wA l:=qd5 ..;have hk':k < l.length:=by simpa using hk
  have e2:(k+1) * 3+i=(k * 3+i)+3:=by omega
  simp only [e,e2];rw [List.getElem_append_right aC];have:=Gm (l:=l) (k:=k) (i:=i) hi (by rw [Rn];omega) hk';simpa using this
variable {N:List I3} {k:Nat}
@[go_sem] theorem VQ [hl:Ti k N] (h:k * 3 < (wA N).length):(wA N)[k * 3]= .int (N[k]!).1:=by
 rw [getElem!_pos N k hl.lt];exact Gm (i:=0) ak h hl.lt
theorem C0:∀ {l:List I3} {k:Nat} (hk:k < l.length),((wA l).drop (k * 3)).take 3=N0 l[k]
 |[],k,hk=>absurd hk aC
 |n::l,0,_=>rfl
 |n::l,k+1,hk=>by
  rw [qi9];exact C0 (l:=l) (k:=k) (by simpa using hk)
@[go_sem] theorem Uc [hl:Ti k N]:((wA N).drop (k * 3)).take 3=N0 N[k]!:=by
 rw [getElem!_pos N k hl.lt];exact C0 hl.lt
abbrev kF (L:Int) (S:fp):Hp:=[(700,⟨217,[.int L,.sl 3 24 701 0 S.ns.length,.mp 2000000001,.mp 2000000002],true⟩),(701,⟨270,wA S.ns,false⟩),(2000000001,⟨1000000000,zq k3 S.fd,false⟩),(2000000002,⟨1000000000,zq k3 S.pr,false⟩)]
@[go_sem] theorem Si:AV.dN 701 (.mp 2000000001)= .mp 2000000001:=rfl
@[go_sem] theorem Sj:AV.dN 701 (.mp 2000000002)= .mp 2000000002:=rfl
def DB:Nat:=5000000000000
abbrev MJ (kn:List (Int×Int)):Hp:=[(2,⟨127,[.ptr 700 0],true⟩),(5,⟨273,[.mp 2000000003],true⟩),(6,⟨222,[.fn 188 [.ptr 5 0,.ptr 2 0,.ptr 6 0]],true⟩),(2000000003,⟨1000000000,zq (kI .i64) kn,false⟩)]
theorem nF (L:Int) (S:fp) (lv lo hi:Int) (hb:S.ns.length≤DB):cX prog 134 [.ptr 700 0,.int lv,.int lo,.int hi] (kF L S) [] [700] (fun x hp=>x= .int (eW S lv lo hi).2∧hp=kF L (eW S lv lo hi).1):=by
 unfold DB at hb;have hbb:(S.ns.length+1) * 24≤140737488355328:=by omega
 by_cases he:lo=hi
 ·have e:eW S lv lo hi=(S,lo):=by unfold eW;rw [if_pos he]
  rw [e];refine cA func134 ntmps134 ?_;refine Go (fun hc K hK=>?_) VX VX VX;exact VZ
 cases hk:lk S.fd (lv,lo,hi) with
 |some k=>
  have e:eW S lv lo hi=(S,k):=by unfold eW;rw [if_neg he,hk]
  rw [e];refine cA func134 ntmps134 ?_;(repeat' (first|refine gD 4 ?_;refine V5 ?_|refine c8 (fun K hK=>?_);(refine eF (mh (kt:=270) hk aR aR aR).2 ?_)|intro (K:St→Prop) hK|intro hc|(refine rh 99 ?_ ?_ ?_ ?_<;>try exact VX)|fail));exact VZ
 |none=>
  have e:eW S lv lo hi=(⟨S.ns++[(lv,lo,hi)],kK S.fd (lv,lo,hi) ((S.ns.length:Int)+2),S.pr⟩,(S.ns.length:Int)+2):=by unfold eW;rw [if_neg he,hk]
  rw [e];refine cA func134 ntmps134 ?_;(repeat' (first|refine gD 4 ?_;refine V5 ?_|refine gD 6 ?_;refine vP (s1:=?_) (.r 1 5 (.fk 0 6 (.it 6 1 (.it 7 3 (.it 8 1 (.it 9 1 (.it 10 3 .nil))))) (.pY 0 1 7 3 (.it 7 3 (.it 8 1 (.it 9 1 (.it 10 3 .nil)))) (.it 0 1 (.it 8 1 (.it 9 1 (.it 10 3 .nil))))))) ?_ ?_;rotate_left|refine gD 8 ?_;refine dK (.r 0 6 (.it 6 3 .nil)) ?_|refine c8 (fun K hK=>?_);(first|((refine eF (qB (kt:=270) hk aR aR aR).2 ?_))|refine eF (cf aR aR az) ?_|refine cN (d:=37) aJ aR aR aR aR ?_)|refine yP ?_;refine nR ?_|refine fQ (fun K hK=>?_);(first|((refine (jF (kt:=270) (kv:=S.fd) (k:=(lv,lo,hi)) aR aR aR aR ?_).1))|refine ck ?_)|refine gO ?_;refine kJ ?_|intro (K:St→Prop) hK|intro hc|(refine rh 99 ?_ ?_ ?_ ?_<;>try exact VX)|fail));simp only [kF,Kz,qa3,qb4];rw [show (S.ns.length:Int)+2=((S.ns.length+1:Nat):Int)+1 by omega];exact VZ
theorem KA (L:Int) (S:fp) (lv lo hi:Int) (kn:List (Int×Int)) (hb:S.ns.length≤DB):cX prog 134 [.ptr 700 0,.int lv,.int lo,.int hi] (kF L S++MJ kn) [] [700,2,5,6] (fun x hp=>x= .int (eW S lv lo hi).2∧hp=kF L (eW S lv lo hi).1++MJ kn):=by
 unfold DB at hb;have hbb:(S.ns.length+1) * 24≤140737488355328:=by omega
 by_cases he:lo=hi
 ·have e:eW S lv lo hi=(S,lo):=by unfold eW;rw [if_pos he]
  rw [e];refine cA func134 ntmps134 ?_;refine Go (fun hc K hK=>?_) VX VX VX;exact VZ
 cases hk:lk S.fd (lv,lo,hi) with
 |some k=>
  have e:eW S lv lo hi=(S,k):=by unfold eW;rw [if_neg he,hk]
  rw [e];refine cA func134 ntmps134 ?_;(repeat' (first|refine gD 4 ?_;refine V5 ?_|refine c8 (fun K hK=>?_);(refine eF (mh (kt:=270) hk aR aR aR).2 ?_)|intro (K:St→Prop) hK|intro hc|(refine rh 99 ?_ ?_ ?_ ?_<;>try exact VX)|fail));exact VZ
 |none=>
  have e:eW S lv lo hi=(⟨S.ns++[(lv,lo,hi)],kK S.fd (lv,lo,hi) ((S.ns.length:Int)+2),S.pr⟩,(S.ns.length:Int)+2):=by unfold eW;rw [if_neg he,hk]
  rw [e];refine cA func134 ntmps134 ?_;(repeat' (first|refine gD 4 ?_;refine V5 ?_|refine gD 6 ?_;refine vP (s1:=?_) (.r 1 5 (.fk 0 6 (.it 6 1 (.it 7 3 (.it 8 1 (.it 9 1 (.it 10 3 .nil))))) (.pY 0 1 7 3 (.it 7 3 (.it 8 1 (.it 9 1 (.it 10 3 .nil)))) (.it 0 1 (.it 8 1 (.it 9 1 (.it 10 3 .nil))))))) ?_ ?_;rotate_left|refine gD 8 ?_;refine dK (.r 0 6 (.it 6 3 .nil)) ?_|refine c8 (fun K hK=>?_);(first|((refine eF (qB (kt:=270) hk aR aR aR).2 ?_))|refine eF (cf aR aR az) ?_|refine cN (d:=37) aJ aR aR aR aR ?_)|refine yP ?_;refine nR ?_|refine fQ (fun K hK=>?_);(first|((refine (jF (kt:=270) (kv:=S.fd) (k:=(lv,lo,hi)) aR aR aR aR ?_).1))|refine ck ?_)|refine gO ?_;refine kJ ?_|intro (K:St→Prop) hK|intro hc|(refine rh 99 ?_ ?_ ?_ ?_<;>try exact VX)|fail));simp only [kF,Kz,qa3,qb4];rw [show (S.ns.length:Int)+2=((S.ns.length+1:Nat):Int)+1 by omega];exact VZ
@[go_sem] theorem Sk:AV.dN 701 (.mp 2000000003)= .mp 2000000003:=rfl
theorem kC (L:Int) (S:fp) (k:Int) (hv:Vd S.ns k) (hb:S.ns.length≤DB):cX prog 182 [.ptr 700 0,.int k] (kF L S) [] [700] (fun x hp=>x= .int (lvl L S.ns k)∧hp=kF L S):=by
 unfold DB at hb;obtain ⟨k0,k1⟩:=hv;by_cases h2:k < 2
 ·rw [jo L _ h2]
  refine cA func182 ntmps182 ?_;refine Go (fun hc K hK=>?_) VX VX VX;exact VZ
 have hL:Ti (k - 2).toNat S.ns:=⟨by omega⟩
 have e:lvl L S.ns k=(S.ns[(k - 2).toNat]!).1:=by unfold lvl nd;rw [if_neg h2]
 rw [e];refine cA func182 ntmps182 ?_;refine Go (fun hc=>?_) VX VX VX;exact VZ
theorem lE (L:Int) (S:fp) (k lv:Int) (hv:Vd S.ns k) (hl:lv < L) (hb:S.ns.length≤DB):cX prog 183 [.ptr 700 0,.int k,.int lv] (kF L S) [] [700] (fun x hp=>x= .dC [.int (j2 L S.ns k lv).1,.int (j2 L S.ns k lv).2]∧hp=kF L S):=by
 have hlev:=kC L S k hv hb;unfold DB at hb;obtain ⟨k0,k1⟩:=hv;by_cases hg:lvl L S.ns k > lv
 ·have e:j2 L S.ns k lv=(k,k):=by unfold j2;rw [if_pos hg]
  rw [e];refine cA func183 ntmps183 ?_;(repeat' (first|refine bu (fun K hK=>?_);(refine bL (hlev) au (fun _ h=>by cases h) aR (fun x hp' hx=>?_);obtain ⟨rfl,rfl⟩:=hx<;>simp only [go_sem,seval,dy,bl])|intro (K:St→Prop) hK|intro hc|(refine Gf 99 ?_ ?_ ?_ ?_<;>try exact VX)|fail));refine bK (Le.refl _) (du (aW aR) (aW aR)) aq aR ah ⟨rfl,rfl⟩
 have h2:¬k < 2:=fun h=>by rw [jo L _ h] at hg;omega
 have hL:Ti (k - 2).toNat S.ns:=⟨by omega⟩
 have e:j2 L S.ns k lv=((S.ns[(k - 2).toNat]!).2.1,(S.ns[(k - 2).toNat]!).2.2):=by unfold j2;rw [if_neg hg];rfl
 rw [e];refine cA func183 ntmps183 ?_;(repeat' (first|refine gD 4 ?_;refine dK (.r 0 6 .nil) ?_|refine bu (fun K hK=>?_);(refine bL (hlev) au (fun _ h=>by cases h) aR (fun x hp' hx=>?_);obtain ⟨rfl,rfl⟩:=hx<;>simp only [go_sem,seval,dy,bl])|intro (K:St→Prop) hK|intro hc|(refine Gf 99 ?_ ?_ ?_ ?_<;>try exact VX)|fail));refine bK (Le.refl _) (du (aW aR) (aW aR)) aq aR ah ⟨rfl,rfl⟩
theorem KB (L:Int) (h0L:0≤L):∀ (n:Nat) (S:fp) (a b:Int),nX L S→Vd S.ns a→Vd S.ns b→L - min (lvl L S.ns a) (lvl L S.ns b)≤(n:Int)→S.ns.length+2 ^ n≤DB→
 cX prog 133 [.ptr 700 0,.int 0,.int a,.int b] (kF L S) [] [700] (fun x hp=>x= .int (dE L 0 n S a b).2∧hp=kF L (dE L 0 n S a b).1):=by
 intro n
 induction n with
 |zero=>
  intro S a b h va vb hn hb;have hlow:a < 2∨b < 2:=by
   by_cases ha:a < 2
   ·exact .inl ha
   have:=jz h.no (k:=a) ak va.2;omega
  have a0:=va.1;have b0:=vb.1;unfold dE;by_cases h1:a=b
  ·rw [if_pos h1]
   refine cA func133 ntmps133 ?_;refine Go (fun hc K hK=>?_) VX VX VX;exact VZ
  rw [if_neg h1];by_cases h2:a < 2∧(a=1↔(0:Int)=0)
  ·rw [if_pos h2]
   refine cA func133 ntmps133 ?_;refine Go (fun hc hc hc K hK=>?_) VX VX VX
   all_goals (exact VZ)
  rw [if_neg h2];by_cases h3:b < 2∧(b=1↔(0:Int)=0)
  ·rw [if_pos h3]
   refine cA func133 ntmps133 ?_;refine Go (fun hc hc hc hc hc K hK=>?_) (fun hc hc hc hc K hK=>?_) VX VX
   all_goals (exact VZ)
  rw [if_neg h3];refine cA func133 ntmps133 ?_;refine Go (fun hc hc hc hc hc K hK=>?_) (fun hc hc hc hc hc hc K hK=>?_) VX VX
  all_goals (exact VZ)
 |succ n ih=>
  intro S a b h va vb hn hb;have hp2:=ud n;have a0:=va.1;have b0:=vb.1;by_cases h1:a=b
  ·unfold dE
   rw [if_pos h1];refine cA func133 ntmps133 ?_;refine Go (fun hc K hK=>?_) VX VX VX;exact VZ
  by_cases h2:a < 2∧(a=1↔(0:Int)=0)
  ·unfold dE
   rw [if_neg h1,if_pos h2];refine cA func133 ntmps133 ?_;refine Go (fun hc hc hc K hK=>?_) VX VX VX
   all_goals (exact VZ)
  by_cases h3:b < 2∧(b=1↔(0:Int)=0)
  ·unfold dE
   rw [if_neg h1,if_neg h2,if_pos h3];refine cA func133 ntmps133 ?_;refine Go (fun hc hc hc hc hc K hK=>?_) (fun hc hc hc hc K hK=>?_) VX VX
   all_goals (exact VZ)
  by_cases h4:a < 2∨b < 2
  ·unfold dE
   rw [if_neg h1,if_neg h2,if_neg h3,if_pos h4];refine cA func133 ntmps133 ?_;refine Go (fun hc hc hc hc hc K hK=>?_) (fun hc hc hc hc hc hc K hK=>?_) VX VX
   all_goals (exact VZ)
  have a2:2≤a:=by omega
  have b2:2≤b:=by omega
  have e:dE L 0 (n+1) S a b=if a > b then lX L (dE L 0 n) 0 S b a else lX L (dE L 0 n) 0 S a b:=by rw [dE,if_neg h1,if_neg h2,if_neg h3,if_neg h4]
  by_cases h5:a > b
  ·rw [if_pos h5] at e
   cases hk:lk S.pr (0,b,a) with
   |some k=>
    have e2:dE L 0 (n+1) S a b=(S,k):=by rw [e];unfold lX;rw [hk]
    rw [e2];refine cA func133 ntmps133 ?_;(repeat' (first|refine gD 12 ?_;refine V5 ?_|refine c8 (fun K hK=>?_);(refine eF (mh (kt:=266) hk aR aR aR).2 ?_)|intro (K:St→Prop) hK|intro hc|(refine rh 99 ?_ ?_ ?_ ?_<;>try exact VX)|fail));exact VZ
   |none=>
    unfold lX at e;rw [hk] at e;simp only at e;have la:=jz h.no b2 vb.2;have lb:=jz h.no a2 va.2;have hla:=kC L S b vb ak;have hlb:=kC L S a va ak;generalize hlv:min (lvl L S.ns b) (lvl L S.ns a)=lv at e;have sa:=lj h.no vb (lv:=lv) ak ak;have sb:=lj h.no va (lv:=lv) ak ak;have hsa:=lE L S b lv vb ak ak;have hsb:=lE L S a lv va ak ak;generalize hp:j2 L S.ns b lv=p at e sa hsa;generalize hq:j2 L S.ns a lv=q at e sb hsb;have l1:=sa.l1;have l2:=sa.l2;have l3:=sb.l1;have l4:=sb.l2;have r1:=gk h0L (.inl rfl) n S p.1 q.1 h sa.v1 sb.v1 ak;have c1:=ih S p.1 q.1 h sa.v1 sb.v1 ak ak;generalize hx:dE L 0 n S p.1 q.1=x at e r1 c1;have g1:=r1.gr.len;have vp2:=r1.gr.vd sa.v2;have vq2:=r1.gr.vd sb.v2;have hl2:L - min (lvl L x.1.ns p.2) (lvl L x.1.ns q.2)≤(n:Int):=by rw [r1.gr.lvl L sa.v2,r1.gr.lvl L sb.v2];omega
    have r2:=gk h0L (.inl rfl) n x.1 p.2 q.2 r1.ok vp2 vq2 hl2;have c2:=ih x.1 p.2 q.2 r1.ok vp2 vq2 hl2 ak;generalize hy:dE L 0 n x.1 p.2 q.2=y at e r2 c2;have g2:=r2.gr.len;have c3:=nF L y.1 lv x.2 y.2 ak;generalize hz:eW y.1 lv x.2 y.2=z at e c3;rw [← hlv] at hsa hsb c3;rw [e];refine cA func133 ntmps133 ?_;(repeat' (first|refine gD 12 ?_;refine V5 ?_|refine gD 19 ?_;refine dK (.r 0 6 (.it 6 3 .nil)) ?_|refine bu (fun K hK=>?_);(first|((refine bL (hla) au (fun _ h=>by cases h) aR (fun x hp' hx=>?_);obtain ⟨rfl,rfl⟩:=hx<;>simp only [go_sem,seval,dy,bl]))|((refine bL (hlb) au (fun _ h=>by cases h) aR (fun x hp' hx=>?_);obtain ⟨rfl,rfl⟩:=hx<;>simp only [go_sem,seval,dy,bl]))|((refine bL (hsa) au (fun _ h=>by cases h) aR (fun x hp' hx=>?_);obtain ⟨rfl,rfl⟩:=hx<;>simp only [go_sem,seval,dy,bl]))|((refine bL (hsb) au (fun _ h=>by cases h) aR (fun x hp' hx=>?_);obtain ⟨rfl,rfl⟩:=hx<;>simp only [go_sem,seval,dy,bl]))|((refine bL (c1) au (fun _ h=>by cases h) aR (fun x hp' hx=>?_);obtain ⟨rfl,rfl⟩:=hx<;>simp only [go_sem,seval,dy,bl]))|((refine bL (c2) au (fun _ h=>by cases h) aR (fun x hp' hx=>?_);obtain ⟨rfl,rfl⟩:=hx<;>simp only [go_sem,seval,dy,bl]))|((refine bL (c3) au (fun _ h=>by cases h) aR (fun x hp' hx=>?_);obtain ⟨rfl,rfl⟩:=hx<;>simp only [go_sem,seval,dy,bl])))|refine c8 (fun K hK=>?_);(refine eF (qB (kt:=266) hk aR aR aR).2 ?_)|refine fQ (fun K hK=>?_);(refine (jF (kt:=266) (kv:=z.1.pr) (k:=(0,b,a)) aR aR aR aR ?_).1)|intro (K:St→Prop) hK|intro hc|(refine rh 99 ?_ ?_ ?_ ?_<;>try exact VX)|fail));exact VZ
  rw [if_neg h5] at e;cases hk:lk S.pr (0,a,b) with
  |some k=>
   have e2:dE L 0 (n+1) S a b=(S,k):=by rw [e];unfold lX;rw [hk]
   rw [e2];refine cA func133 ntmps133 ?_;(repeat' (first|refine gD 12 ?_;refine V5 ?_|refine c8 (fun K hK=>?_);(refine eF (mh (kt:=266) hk aR aR aR).2 ?_)|intro (K:St→Prop) hK|intro hc|(refine rh 99 ?_ ?_ ?_ ?_<;>try exact VX)|fail));exact VZ
  |none=>
   unfold lX at e;rw [hk] at e;simp only at e;have la:=jz h.no a2 va.2;have lb:=jz h.no b2 vb.2;have hla:=kC L S a va ak;have hlb:=kC L S b vb ak;generalize hlv:min (lvl L S.ns a) (lvl L S.ns b)=lv at e;have sa:=lj h.no va (lv:=lv) ak ak;have sb:=lj h.no vb (lv:=lv) ak ak;have hsa:=lE L S a lv va ak ak;have hsb:=lE L S b lv vb ak ak;generalize hp:j2 L S.ns a lv=p at e sa hsa;generalize hq:j2 L S.ns b lv=q at e sb hsb;have l1:=sa.l1;have l2:=sa.l2;have l3:=sb.l1;have l4:=sb.l2;have r1:=gk h0L (.inl rfl) n S p.1 q.1 h sa.v1 sb.v1 ak;have c1:=ih S p.1 q.1 h sa.v1 sb.v1 ak ak;generalize hx:dE L 0 n S p.1 q.1=x at e r1 c1;have g1:=r1.gr.len;have vp2:=r1.gr.vd sa.v2;have vq2:=r1.gr.vd sb.v2;have hl2:L - min (lvl L x.1.ns p.2) (lvl L x.1.ns q.2)≤(n:Int):=by rw [r1.gr.lvl L sa.v2,r1.gr.lvl L sb.v2];omega
   have r2:=gk h0L (.inl rfl) n x.1 p.2 q.2 r1.ok vp2 vq2 hl2;have c2:=ih x.1 p.2 q.2 r1.ok vp2 vq2 hl2 ak;generalize hy:dE L 0 n x.1 p.2 q.2=y at e r2 c2;have g2:=r2.gr.len;have c3:=nF L y.1 lv x.2 y.2 ak;generalize hz:eW y.1 lv x.2 y.2=z at e c3;rw [← hlv] at hsa hsb c3;rw [e];refine cA func133 ntmps133 ?_;(repeat' (first|refine gD 12 ?_;refine V5 ?_|refine gD 19 ?_;refine dK (.r 0 6 (.it 6 3 .nil)) ?_|refine bu (fun K hK=>?_);(first|((refine bL (hla) au (fun _ h=>by cases h) aR (fun x hp' hx=>?_);obtain ⟨rfl,rfl⟩:=hx<;>simp only [go_sem,seval,dy,bl]))|((refine bL (hlb) au (fun _ h=>by cases h) aR (fun x hp' hx=>?_);obtain ⟨rfl,rfl⟩:=hx<;>simp only [go_sem,seval,dy,bl]))|((refine bL (hsa) au (fun _ h=>by cases h) aR (fun x hp' hx=>?_);obtain ⟨rfl,rfl⟩:=hx<;>simp only [go_sem,seval,dy,bl]))|((refine bL (hsb) au (fun _ h=>by cases h) aR (fun x hp' hx=>?_);obtain ⟨rfl,rfl⟩:=hx<;>simp only [go_sem,seval,dy,bl]))|((refine bL (c1) au (fun _ h=>by cases h) aR (fun x hp' hx=>?_);obtain ⟨rfl,rfl⟩:=hx<;>simp only [go_sem,seval,dy,bl]))|((refine bL (c2) au (fun _ h=>by cases h) aR (fun x hp' hx=>?_);obtain ⟨rfl,rfl⟩:=hx<;>simp only [go_sem,seval,dy,bl]))|((refine bL (c3) au (fun _ h=>by cases h) aR (fun x hp' hx=>?_);obtain ⟨rfl,rfl⟩:=hx<;>simp only [go_sem,seval,dy,bl])))|refine c8 (fun K hK=>?_);(refine eF (qB (kt:=266) hk aR aR aR).2 ?_)|refine fQ (fun K hK=>?_);(refine (jF (kt:=266) (kv:=z.1.pr) (k:=(0,a,b)) aR aR aR aR ?_).1)|intro (K:St→Prop) hK|intro hc|(refine rh 99 ?_ ?_ ?_ ?_<;>try exact VX)|fail));exact VZ
theorem KC (L:Int) (h0L:0≤L):∀ (n:Nat) (S:fp) (a b:Int),nX L S→Vd S.ns a→Vd S.ns b→L - min (lvl L S.ns a) (lvl L S.ns b)≤(n:Int)→S.ns.length+2 ^ n≤DB→
 cX prog 133 [.ptr 700 0,.int 1,.int a,.int b] (kF L S) [] [700] (fun x hp=>x= .int (dE L 1 n S a b).2∧hp=kF L (dE L 1 n S a b).1):=by
 intro n
 induction n with
 |zero=>
  intro S a b h va vb hn hb;have hlow:a < 2∨b < 2:=by
   by_cases ha:a < 2
   ·exact .inl ha
   have:=jz h.no (k:=a) ak va.2;omega
  have a0:=va.1;have b0:=vb.1;unfold dE;by_cases h1:a=b
  ·rw [if_pos h1]
   refine cA func133 ntmps133 ?_;refine Go (fun hc K hK=>?_) VX VX VX;exact VZ
  rw [if_neg h1];by_cases h2:a < 2∧(a=1↔(1:Int)=0)
  ·rw [if_pos h2]
   refine cA func133 ntmps133 ?_;refine Go (fun hc hc hc K hK=>?_) VX VX VX
   all_goals (exact VZ)
  rw [if_neg h2];by_cases h3:b < 2∧(b=1↔(1:Int)=0)
  ·rw [if_pos h3]
   refine cA func133 ntmps133 ?_;refine Go (fun hc hc hc hc hc K hK=>?_) (fun hc hc hc hc K hK=>?_) VX VX
   all_goals (exact VZ)
  rw [if_neg h3];refine cA func133 ntmps133 ?_;refine Go (fun hc hc hc hc hc K hK=>?_) (fun hc hc hc hc hc hc K hK=>?_) VX VX
  all_goals (exact VZ)
 |succ n ih=>
  intro S a b h va vb hn hb;have hp2:=ud n;have a0:=va.1;have b0:=vb.1;by_cases h1:a=b
  ·unfold dE
   rw [if_pos h1];refine cA func133 ntmps133 ?_;refine Go (fun hc K hK=>?_) VX VX VX;exact VZ
  by_cases h2:a < 2∧(a=1↔(1:Int)=0)
  ·unfold dE
   rw [if_neg h1,if_pos h2];refine cA func133 ntmps133 ?_;refine Go (fun hc hc hc K hK=>?_) VX VX VX
   all_goals (exact VZ)
  by_cases h3:b < 2∧(b=1↔(1:Int)=0)
  ·unfold dE
   rw [if_neg h1,if_neg h2,if_pos h3];refine cA func133 ntmps133 ?_;refine Go (fun hc hc hc hc hc K hK=>?_) (fun hc hc hc hc K hK=>?_) VX VX
   all_goals (exact VZ)
  by_cases h4:a < 2∨b < 2
  ·unfold dE
   rw [if_neg h1,if_neg h2,if_neg h3,if_pos h4];refine cA func133 ntmps133 ?_;refine Go (fun hc hc hc hc hc K hK=>?_) (fun hc hc hc hc hc hc K hK=>?_) VX VX
   all_goals (exact VZ)
  have a2:2≤a:=by omega
  have b2:2≤b:=by omega
  have e:dE L 1 (n+1) S a b=if a > b then lX L (dE L 1 n) 1 S b a else lX L (dE L 1 n) 1 S a b:=by rw [dE,if_neg h1,if_neg h2,if_neg h3,if_neg h4]
  by_cases h5:a > b
  ·rw [if_pos h5] at e
   cases hk:lk S.pr (1,b,a) with
   |some k=>
    have e2:dE L 1 (n+1) S a b=(S,k):=by rw [e];unfold lX;rw [hk]
    rw [e2];refine cA func133 ntmps133 ?_;(repeat' (first|refine gD 12 ?_;refine V5 ?_|refine c8 (fun K hK=>?_);(refine eF (mh (kt:=266) hk aR aR aR).2 ?_)|intro (K:St→Prop) hK|intro hc|(refine rh 99 ?_ ?_ ?_ ?_<;>try exact VX)|fail));exact VZ
   |none=>
    unfold lX at e;rw [hk] at e;simp only at e;have la:=jz h.no b2 vb.2;have lb:=jz h.no a2 va.2;have hla:=kC L S b vb ak;have hlb:=kC L S a va ak;generalize hlv:min (lvl L S.ns b) (lvl L S.ns a)=lv at e;have sa:=lj h.no vb (lv:=lv) ak ak;have sb:=lj h.no va (lv:=lv) ak ak;have hsa:=lE L S b lv vb ak ak;have hsb:=lE L S a lv va ak ak;generalize hp:j2 L S.ns b lv=p at e sa hsa;generalize hq:j2 L S.ns a lv=q at e sb hsb;have l1:=sa.l1;have l2:=sa.l2;have l3:=sb.l1;have l4:=sb.l2;have r1:=gk h0L (.inr rfl) n S p.1 q.1 h sa.v1 sb.v1 ak;have c1:=ih S p.1 q.1 h sa.v1 sb.v1 ak ak;generalize hx:dE L 1 n S p.1 q.1=x at e r1 c1;have g1:=r1.gr.len;have vp2:=r1.gr.vd sa.v2;have vq2:=r1.gr.vd sb.v2;have hl2:L - min (lvl L x.1.ns p.2) (lvl L x.1.ns q.2)≤(n:Int):=by rw [r1.gr.lvl L sa.v2,r1.gr.lvl L sb.v2];omega
    have r2:=gk h0L (.inr rfl) n x.1 p.2 q.2 r1.ok vp2 vq2 hl2;have c2:=ih x.1 p.2 q.2 r1.ok vp2 vq2 hl2 ak;generalize hy:dE L 1 n x.1 p.2 q.2=y at e r2 c2;have g2:=r2.gr.len;have c3:=nF L y.1 lv x.2 y.2 ak;generalize hz:eW y.1 lv x.2 y.2=z at e c3;rw [← hlv] at hsa hsb c3;rw [e];refine cA func133 ntmps133 ?_;(repeat' (first|refine gD 12 ?_;refine V5 ?_|refine gD 19 ?_;refine dK (.r 0 6 (.it 6 3 .nil)) ?_|refine bu (fun K hK=>?_);(first|((refine bL (hla) au (fun _ h=>by cases h) aR (fun x hp' hx=>?_);obtain ⟨rfl,rfl⟩:=hx<;>simp only [go_sem,seval,dy,bl]))|((refine bL (hlb) au (fun _ h=>by cases h) aR (fun x hp' hx=>?_);obtain ⟨rfl,rfl⟩:=hx<;>simp only [go_sem,seval,dy,bl]))|((refine bL (hsa) au (fun _ h=>by cases h) aR (fun x hp' hx=>?_);obtain ⟨rfl,rfl⟩:=hx<;>simp only [go_sem,seval,dy,bl]))|((refine bL (hsb) au (fun _ h=>by cases h) aR (fun x hp' hx=>?_);obtain ⟨rfl,rfl⟩:=hx<;>simp only [go_sem,seval,dy,bl]))|((refine bL (c1) au (fun _ h=>by cases h) aR (fun x hp' hx=>?_);obtain ⟨rfl,rfl⟩:=hx<;>simp only [go_sem,seval,dy,bl]))|((refine bL (c2) au (fun _ h=>by cases h) aR (fun x hp' hx=>?_);obtain ⟨rfl,rfl⟩:=hx<;>simp only [go_sem,seval,dy,bl]))|((refine bL (c3) au (fun _ h=>by cases h) aR (fun x hp' hx=>?_);obtain ⟨rfl,rfl⟩:=hx<;>simp only [go_sem,seval,dy,bl])))|refine c8 (fun K hK=>?_);(refine eF (qB (kt:=266) hk aR aR aR).2 ?_)|refine fQ (fun K hK=>?_);(refine (jF (kt:=266) (kv:=z.1.pr) (k:=(1,b,a)) aR aR aR aR ?_).1)|intro (K:St→Prop) hK|intro hc|(refine rh 99 ?_ ?_ ?_ ?_<;>try exact VX)|fail));exact VZ
  rw [if_neg h5] at e;cases hk:lk S.pr (1,a,b) with
  |some k=>
   have e2:dE L 1 (n+1) S a b=(S,k):=by rw [e];unfold lX;rw [hk]
   rw [e2];refine cA func133 ntmps133 ?_;(repeat' (first|refine gD 12 ?_;refine V5 ?_|refine c8 (fun K hK=>?_);(refine eF (mh (kt:=266) hk aR aR aR).2 ?_)|intro (K:St→Prop) hK|intro hc|(refine rh 99 ?_ ?_ ?_ ?_<;>try exact VX)|fail));exact VZ
  |none=>
   unfold lX at e;rw [hk] at e;simp only at e;have la:=jz h.no a2 va.2;have lb:=jz h.no b2 vb.2;have hla:=kC L S a va ak;have hlb:=kC L S b vb ak;generalize hlv:min (lvl L S.ns a) (lvl L S.ns b)=lv at e;have sa:=lj h.no va (lv:=lv) ak ak;have sb:=lj h.no vb (lv:=lv) ak ak;have hsa:=lE L S a lv va ak ak;have hsb:=lE L S b lv vb ak ak;generalize hp:j2 L S.ns a lv=p at e sa hsa;generalize hq:j2 L S.ns b lv=q at e sb hsb;have l1:=sa.l1;have l2:=sa.l2;have l3:=sb.l1;have l4:=sb.l2;have r1:=gk h0L (.inr rfl) n S p.1 q.1 h sa.v1 sb.v1 ak;have c1:=ih S p.1 q.1 h sa.v1 sb.v1 ak ak;generalize hx:dE L 1 n S p.1 q.1=x at e r1 c1;have g1:=r1.gr.len;have vp2:=r1.gr.vd sa.v2;have vq2:=r1.gr.vd sb.v2;have hl2:L - min (lvl L x.1.ns p.2) (lvl L x.1.ns q.2)≤(n:Int):=by rw [r1.gr.lvl L sa.v2,r1.gr.lvl L sb.v2];omega
   have r2:=gk h0L (.inr rfl) n x.1 p.2 q.2 r1.ok vp2 vq2 hl2;have c2:=ih x.1 p.2 q.2 r1.ok vp2 vq2 hl2 ak;generalize hy:dE L 1 n x.1 p.2 q.2=y at e r2 c2;have g2:=r2.gr.len;have c3:=nF L y.1 lv x.2 y.2 ak;generalize hz:eW y.1 lv x.2 y.2=z at e c3;rw [← hlv] at hsa hsb c3;rw [e];refine cA func133 ntmps133 ?_;(repeat' (first|refine gD 12 ?_;refine V5 ?_|refine gD 19 ?_;refine dK (.r 0 6 (.it 6 3 .nil)) ?_|refine bu (fun K hK=>?_);(first|((refine bL (hla) au (fun _ h=>by cases h) aR (fun x hp' hx=>?_);obtain ⟨rfl,rfl⟩:=hx<;>simp only [go_sem,seval,dy,bl]))|((refine bL (hlb) au (fun _ h=>by cases h) aR (fun x hp' hx=>?_);obtain ⟨rfl,rfl⟩:=hx<;>simp only [go_sem,seval,dy,bl]))|((refine bL (hsa) au (fun _ h=>by cases h) aR (fun x hp' hx=>?_);obtain ⟨rfl,rfl⟩:=hx<;>simp only [go_sem,seval,dy,bl]))|((refine bL (hsb) au (fun _ h=>by cases h) aR (fun x hp' hx=>?_);obtain ⟨rfl,rfl⟩:=hx<;>simp only [go_sem,seval,dy,bl]))|((refine bL (c1) au (fun _ h=>by cases h) aR (fun x hp' hx=>?_);obtain ⟨rfl,rfl⟩:=hx<;>simp only [go_sem,seval,dy,bl]))|((refine bL (c2) au (fun _ h=>by cases h) aR (fun x hp' hx=>?_);obtain ⟨rfl,rfl⟩:=hx<;>simp only [go_sem,seval,dy,bl]))|((refine bL (c3) au (fun _ h=>by cases h) aR (fun x hp' hx=>?_);obtain ⟨rfl,rfl⟩:=hx<;>simp only [go_sem,seval,dy,bl])))|refine c8 (fun K hK=>?_);(refine eF (qB (kt:=266) hk aR aR aR).2 ?_)|refine fQ (fun K hK=>?_);(refine (jF (kt:=266) (kv:=z.1.pr) (k:=(1,a,b)) aR aR aR aR ?_).1)|intro (K:St→Prop) hK|intro hc|(refine rh 99 ?_ ?_ ?_ ?_<;>try exact VX)|fail));exact VZ
end
end Go.Proofs.YtkbiagkbmodgdaaGreat
