/- Part of a proof. No condition. -/
import Derived.Test.YtkbiagkbmodgdaaGreatZph
import Derived.Test.YtkbiagkbmodgdaaGreatZgcf
import Derived.Test.YtkbiagkbmodgdaaGreatZgg
set_option linter.unusedSimpArgs false
set_option linter.unusedVariables false
namespace Go.Proofs.YtkbiagkbmodgdaaGreat
open Go.Ab
open Go Tryz
set_option maxRecDepth 10000
attribute [local irreducible] dP fv mu lV dj PV ff ew AW bm da en dQ cX Ab.Fin fi er gF iN RV kh Le eV fL ma iG kM dJ dt
set_option maxHeartbeats 8000000
section
attribute [local go_sem] ec fm j1 Dc zM
structure Act where
 AQ:Int
 args:List Int
 pre:List bG
 add:List bG
 del:List bG
 cost:Int
abbrev lS (x:Act):List AV:=[.int x.AQ,ints x.args,b9 x.pre,b9 x.add,b9 x.del,.int x.cost]
abbrev Act.av (x:Act):AV:=.agg (lS x)
abbrev Ll (l:List Act):AV:=.cD 6 112 (l.map Act.av)
@[go_sem] theorem zP (l:List Act):(l.map Act.av).flatMap AV.cells=l.flatMap lS:=by rw [qg9];rfl
@[go_sem] theorem Ts (a b:List Act):(a++b).flatMap lS=a.flatMap lS++b.flatMap lS:=qd8
@[go_sem] theorem Tt (l:List Act):(l.flatMap lS).length=l.length * 6:=by
 induction l with
 |nil=>rfl
 |cons w l ih=>simp [qd5,ih];omega
theorem um (l:List Act):AV.cu (l.flatMap lS)=true:=gu lS l fun _=>rfl
@[go_sem] theorem Rz (id:Nat) (l:List Act):AV.cG id (l.flatMap lS)=l.flatMap lS:=ir id lS l fun _=>rfl
@[go_sem] theorem Sx (id:Nat) (l:List Act):AV.bz id (l.flatMap lS)=false:=ef id lS l fun _=>rfl
@[go_sem] theorem RA (id sz bw n:Nat) (es:List AV) (l:List Act):AV.dM id sz bw n es (l.flatMap lS)=l.flatMap lS:=e8 (um l)
@[go_sem] theorem Tu (ids pins:List Nat) (l:List Act):AV.jP ids pins (l.flatMap lS)=l.flatMap lS:=mK (um l)
@[go_sem] theorem Tv (ids:List Nat) (l:List Act):AV.j6 ids (l.flatMap lS)=true:=oB (um l)
@[go_sem] theorem RB (id:Nat) (c:List AV) (l:List Act):AV.fC id c (l.flatMap lS)=l.flatMap lS:=iK (um l)
theorem Fe (d:cR):bm prog 52 [.bC d.gs] (fun r=>r= .fn 111 [.bC [.bC d.gs]]):=by
 refine bc func52 ntmps52 ?_;(repeat' (first|refine bu (fun K hK=>?_);refine fy (bR 1 rfl rfl rfl) ?_;simp only [go_sem,seval];refine bt cL ?_|intro (K:St→Prop) hK|intro hc|(refine Gf 99 ?_ ?_ ?_ ?_<;>try exact VX)|fail));refine VY ?_;rfl
def nJ (args:List Int) (p:Int×Int):Bool:=args[p.1.toNat]! == args[p.2.toNat]!
theorem Ou (args:List Int) (l:List (Int×Int)) (h:∀ p∈l,0≤p.1∧p.1 < p.2∧p.2 < args.length):dR 112 [.bC [ints args]] Rh (nJ args) l:=by
 intro p hp;obtain ⟨h1,h2,h3⟩:=h p hp;obtain ⟨a,b⟩:=p;obtain ⟨i,rfl⟩:∃ i:Nat,a=i:=⟨a.toNat,(qg3 h1).symm⟩
 obtain ⟨j,rfl⟩:∃ i:Nat,b=i:=⟨b.toNat,(qg3 (by simp only at *;omega)).symm⟩
 simp only at h1 h2 h3;have hi:i < args.length:=by omega
 have hj:j < args.length:=by omega
 have e:nJ args ((i:Int),(j:Int))=(args[i] == args[j]):=by simp only [nJ,ql0];rw [bq hi,bq hj]
 rw [e];refine bc func112 ntmps112 ?_;(repeat' (first|refine gD 1 ?_;refine dK (.r 0 12 .nil) ?_|intro (K:St→Prop) hK|intro hc|(refine Gf 99 ?_ ?_ ?_ ?_<;>try exact VX)|fail));refine VY ?_;rfl
def vt (d:cR) (k:Nat) (s:eg) (args:List Int):List Act:=
 if s.diff.any (nJ args)=true then []
 else match nI (hasB (fX d)) d.init args s.pre [] with
  |none=>[]
  |some p=>[⟨(k:Int),args,p,Iu args s,Iv args s,s.cost⟩]
theorem Lm (d:cR) (k:Nat) (s:eg) (args:List Int):(vt d k s args).length≤1:=by
 unfold vt;split
 ·simp
 split<;>simp
def Iw (d:cR) (k:Nat) (s:eg) (pre r:List Int) (A:List Act):List Act:=A++(E7 d pre r).flatMap (vt d k s)
def Ix (d:cR) (k:Nat) (s:eg) (pre:List Int) (t:Int) (r:List Int) (A:List Act) (j:Nat):List Act:=A++(Gp d pre t r j).flatMap (vt d k s)
theorem Ov (d:cR) (k:Nat) (s:eg) (pre:List Int) (A:List Act):Iw d k s pre [] A=A++vt d k s pre:=by rw [Iw,A9];simp
theorem Ln (d:cR) (k:Nat) (s:eg) (pre:List Int) (t:Int) (r:List Int) (A:List Act):Ix d k s pre t r A 0=A:=by rw [Ix,yi];simp
theorem Dk {d:cR} {k:Nat} {s:eg} {pre:List Int} {t:Int} {r:List Int} {A:List Act} {j:Nat} (h:j < (lM d t).length):Iw d k s (pre++[(lM d t)[j]]) r (Ix d k s pre t r A j)=Ix d k s pre t r A (j+1):=by
 rw [Iw,Ix,Ix,qd6,← qd8,← yj h]
theorem Ow (d:cR) (k:Nat) (s:eg) (pre:List Int) (t:Int) (r:List Int) (A:List Act):Ix d k s pre t r A (lM d t).length=Iw d k s pre (t::r) A:=by rw [Ix,wU,Iw]
theorem Ox (d:cR) (k:Nat) (s:eg) (pre:List Int) (t:Int) (r:List Int) (A:List Act) (j:Nat):(Ix d k s pre t r A j).length≤(Iw d k s pre (t::r) A).length:=by
 obtain ⟨u,hu⟩:=Ba d pre t r j;rw [Ix,Iw,← hu,qd8,← qd6,qa3 (bs:=u.flatMap _)];omega
instance:Inhabited Act:=⟨⟨0,[],[],[],[],0⟩⟩
def qi (d:cR) (k:Nat):List Act:=(List.range k).flatMap fun (p:Nat)=>(kO d d.cU[p]!.ts).flatMap (vt d p d.cU[p]!)
theorem vu (d:cR) (k:Nat):qi d (k+1)=qi d k++(kO d d.cU[k]!.ts).flatMap (vt d k d.cU[k]!):=by
 rw [qi,List.range_succ,qd8];simp [qi]
theorem rB {α β:Type} (f:α→List β) (h:∀ a,(f a).length≤1):∀ l:List α,(l.flatMap f).length≤l.length
 |[]=>qb3 _
 |x::l=>by
  have:=rB f h l;have:=h x;rw [qd5,qa3,qb8];omega
theorem vv {α β:Type} (f:α→List β) (c:Nat) (h:∀ a,(f a).length=c):∀ l:List α,(l.flatMap f).length=l.length * c
 |[]=>by simp
 |x::l=>by rw [qd5,qa3,h x,vv f c h l,qb8,qi9];omega
theorem Be (d:cR) (ho:d.dg.length≤8):∀ r:List Int,(kO d r).length≤8 ^ r.length
 |[]=>by simp [kO]
 |t::r=>by
  have h1:=Be d ho r;have h2:=nH d.types d.dg t d.dg.length;rw [kO,vv _ (kO d r).length (fun o=>by rw [qa2]),qb8,Nat.pow_succ,Nat.mul_comm (8 ^ r.length) 8];exact Nat.mul_le_mul (show (lM d t).length≤8 by unfold lM;omega) h1
theorem uo (d:cR) (h:zE d):∀ k,k≤d.cU.length→(qi d k).length≤k * 512
 |0,_=>by simp [qi]
 |k+1,hk=>by
  have h1:=uo d h k ak;have hs:=h.AQ d.cU[k] (qa4 ak);have h2:=Be d h.o8 d.cU[k].ts;have h3:=rB (vt d k d.cU[k]) (Lm d k d.cU[k]) (kO d d.cU[k].ts);have h4:8 ^ d.cU[k].ts.length≤8 ^ 3:=qk7 aB hs.T9;rw [vu,qa3,bq (show k < d.cU.length by omega)]
  have:(8:Nat) ^ 3=512:=by decide
  omega
theorem Oy (d:cR) (h:zE d):bm prog 110 [.fO,.fn 111 [.bC [.bC d.gs]]] (fun r=>r=Ll (qi d d.cU.length)):=by
 have hhi:=h.Ig;have hob:=h.obj;have ho8:=h.o8;have hs8:=h.s8;refine bc func110 ntmps110 ?_;refine Gx 1 (fun K hK K hK=>?_) VX VX VX;(refine cE (fe 2 0 502 6 112 112 aR aR al) ?_;simp only [go_sem,seval]);refine gR ?_;refine bY ?_;(repeat' (first|refine hK _ ?_;clear hK K|refine bE ?_));have hK9:=hK;refine kX 1000000001 aR aB ah ah ah func111 ntmps111 aR aR (fun y1 hyp1 hya1 hyb1=>?_);simp only [go_sem,seval,dy,bl,qb8,qf1,qg6,qh3,Nat.reduceSub];refine bH (fun K hK=>?_);refine dU ?_;refine cn rfl (fun K1 hK1=>?_);refine l9 (d:=2) 711 ah (.inl rfl) ah ?_;simp only [go_sem,seval];refine hK1 _ ?_;clear hK1 K1;refine lr ?_;refine hK _ ?_;clear hK K;refine Gx 2 ?_ VX VX VX;refine bP (0::10::11::12::13::[3,4,5,6,7,8,9,16,17,18,19,20,21,22,23,24,25,26,27,29,30,31,32,33,34,35,36,37,38,39,40,41,42,43,44,45,46,47,48,49,50,51,52,53,54,55,56,57,58,59,60,61,62,63,64]) (fun k:Nat=>k≤d.cU.length) (fun k=>d.cU.length - k) (fun k=>[(16,.int k)]) (fun k=>[(2,⟨109,[.sl 6 112 502 0 (qi d k).length],true⟩),(502,⟨112,(qi d k).flatMap lS,false⟩)]) 0 (qc6 _) ?_ ?_
 ·refine bA ?_
  exact aZ
 rintro k hk K hK;refine bA ?_;by_cases hlt:k < d.cU.length
 ·refine Gx 4 (fun _ hc K hK K hK=>?_) VX VX VX
  (refine cE (bR 3 rfl rfl rfl) ?_;simp only [go_sem,seval]);(refine cE (bR 4 rfl rfl rfl) ?_;simp only [go_sem,seval]);(repeat' (first|refine hK _ ?_;clear hK K|refine gD 4 ?_;refine dK (.r 0 6 (.it 6 1 .nil)) ?_|refine dH 109 ?_;refine bB (sP _ _) ?_|refine bE ?_));refine oC [0,5,6,7,8,9,10,11,12,13,17,18,19,20,21,22,23,24,25,26] ?_;simp only [kN,List.set_cons_succ,List.set_cons_zero];have hls:=vu d k;rw [bq hlt] at hls;have hal:=uo d h (k+1) ak;have hsch:=h.AQ d.cU[k] (qa4 hlt);generalize d.cU[k]=s at *;obtain ⟨nm,w,df,pr,ad,de,co⟩:=s;simp only at hls;have hpr8:=hsch.NW;have hprA:=hsch.pre;have hdf:=hsch.diff;have hw3:=hsch.T9;simp only at hpr8 hprA hdf hw3;have hK8:=hK;refine kX 1000000011 aR aB ah ah ah func158 ntmps158 aR aR (fun y hyp hya hyb=>?_);simp only [go_sem,seval,dy,bl,qb8,qf1,qg6,qh3,Nat.reduceSub];have key:∀ (r pre:List Int) (A:List Act),w=w.take pre.length++r→pre.length+r.length=w.length→(Iw d k ⟨nm,w,df,pr,ad,de,co⟩ pre r A).length≤5000→
   cX prog 159 [ints pre,.bC [ints w],.ptr 703 0,.bC d.cs,.ptr 704 0] [(2,⟨109,[.sl 6 112 502 0 (A).length],true⟩),(502,⟨112,(A).flatMap lS,false⟩),(1000000001,⟨1000000001,[.fO,.fn 111 [.bC [.bC d.gs]],.ptr 2 0,.any,.fO,.any,.fn 111 [.bC [.bC d.gs]],.any,.any,.any,.any,.any,.any],false⟩),(711,⟨189,[.yl 1000000001 y1],true⟩),(1000000011,⟨1000000001,[.any,.bC [.bC d.gs],.ptr 711 0,.bC [.int (k:Int)],.bC [str nm,ints w,qg df,b9 pr,bQ ad,bQ de,.int co],.any,.any,.any,.any,.any,.any,.any,.any,.any,dV d.cU,.int (d.cU.length:Int),.int (k:Int),.any,.any,.any,.any,.any,.any,.any,.any,.any,.any,.fn 158 [.bC [ints w],.bC d.cs],.any,.any,.any,.any,.any,.any,.any,.any,.any,.any,.any,.any,.any,.any,.any,.any,.any,.any,.any,.any,.any,.any,.any,.any,.any,.any,.any,.any,.any,.any,.any,.any,.any,.any,.any,.any,.any],false⟩),(703,⟨246,[.yl 1000000011 y],true⟩),(704,⟨246,[.fn 159 [.bC [ints w],.ptr 703 0,.bC d.cs,.ptr 704 0]],true⟩)] [] [703,704]
    (fun x hp=>x= .bool true∧hp=[(2,⟨109,[.sl 6 112 502 0 (Iw d k ⟨nm,w,df,pr,ad,de,co⟩ pre r A).length],true⟩),(502,⟨112,(Iw d k ⟨nm,w,df,pr,ad,de,co⟩ pre r A).flatMap lS,false⟩),(1000000001,⟨1000000001,[.fO,.fn 111 [.bC [.bC d.gs]],.ptr 2 0,.any,.fO,.any,.fn 111 [.bC [.bC d.gs]],.any,.any,.any,.any,.any,.any],false⟩),(711,⟨189,[.yl 1000000001 y1],true⟩),(1000000011,⟨1000000001,[.any,.bC [.bC d.gs],.ptr 711 0,.bC [.int (k:Int)],.bC [str nm,ints w,qg df,b9 pr,bQ ad,bQ de,.int co],.any,.any,.any,.any,.any,.any,.any,.any,.any,dV d.cU,.int (d.cU.length:Int),.int (k:Int),.any,.any,.any,.any,.any,.any,.any,.any,.any,.any,.fn 158 [.bC [ints w],.bC d.cs],.any,.any,.any,.any,.any,.any,.any,.any,.any,.any,.any,.any,.any,.any,.any,.any,.any,.any,.any,.any,.any,.any,.any,.any,.any,.any,.any,.any,.any,.any,.any,.any,.any,.any,.any,.any,.any],false⟩),(703,⟨246,[.yl 1000000011 y],true⟩),(704,⟨246,[.fn 159 [.bC [ints w],.ptr 703 0,.bC d.cs,.ptr 704 0]],true⟩)]):=by
   intro r
   induction r with
   |nil=>
    intro pre A hr hl hA;rw [Ov] at hA ⊢;simp only [qf1,Nat.add_zero,qa3] at hl hA;have hsm:=C2 df 112 [.bC [ints pre]] rfl (nJ pre) (Ou pre df fun p hp=>by have:=hdf p hp;omega);have hnd:=La d w pr pre hpr8 hprA hl;have hef:=Fc d ⟨nm,w,df,pr,ad,de,co⟩ hsch pre hl;simp only [qa3,vt] at hA ⊢;cases hb:df.any (nJ pre) with
    |true=>
     rw [hb] at hsm;simp only [hb,if_true,qe5] at hA ⊢;refine cA func159 ntmps159 ?_;refine Gx 2 (fun hc K hK K hK=>?_) VX VX VX;refine jQ aR ?_;intro o ho;have ho2:o∈[[0,1,2,3,4],[1,0,2,3,4],[1,2,0,3,4]]:=by refine Eq.mp (congrArg (o∈·) ?_) ho;kernel_rfl
     simp only [qc2,qf9,or_false] at ho2;rcases ho2 with rfl|rfl|rfl
     ·simp only [qe3,qe9,qa0,qb9,qb2]
      (first|refine bN _ ao ?_|refine bO ao aw ?_);(try simp only [go_sem,seval,dy,bl]);(first|refine bN _ ao ?_|refine bO ao aw ?_);(try simp only [go_sem,seval,dy,bl]);refine bD rfl rfl (fun K1 hK1=>?_);refine cM (dk _) aR (fun x hx=>?_);obtain rfl:=hx;simp only [go_sem,seval];refine hK1 _ ?_;clear hK1 K1;refine b8 1000000012 hyp hya hyb aR aR aR aR aR aB aB aB aR ah aR aR ?_;simp only [go_sem,seval];refine gR ?_;refine bY ?_;(first|refine ⟨_,_,Le.refl _,by rfl,by rfl,?_⟩|refine Exists.intro (by first|trivial|decide|(simp;done)|omega) ?_;refine ⟨_,_,Le.refl _,by rfl,by rfl,?_⟩);simp only [go_sem,seval];refine Gx 6 (fun K hK=>?_) VX VX VX;(refine Wd ?_;simp only [go_sem,seval]);(repeat' (first|refine gC 113 ?_;refine bg (hsm) ?_|intro (K:St→Prop) hK|intro hc|(refine Gf 99 ?_ ?_ ?_ ?_<;>try exact VX)|fail));(try simp only [Nat.reduceBEq,qc1,qc5,qa8,reduceIte]);refine ⟨_,_,_,1000000001,Le.refl _,by rfl,by rfl,by rfl,rfl,?_⟩;simp only [go_sem,seval];refine bD rfl rfl (fun K1 hK1=>?_);refine bt dn ?_;simp only [go_sem,seval];refine hK1 _ ?_;clear hK1 K1;refine cH ?_;refine iy ?_ VX VX VX;exact VZ
     ·simp only [qe3,qe9,qa0,qb9,qb2]
      (first|refine bN _ ao ?_|refine bO ao aw ?_);(try simp only [go_sem,seval,dy,bl]);(first|refine bN _ ao ?_|refine bO ao aw ?_);(try simp only [go_sem,seval,dy,bl]);refine bD rfl rfl (fun K1 hK1=>?_);refine cM (dk _) aR (fun x hx=>?_);obtain rfl:=hx;simp only [go_sem,seval];refine hK1 _ ?_;clear hK1 K1;refine b8 1000000012 hyp hya hyb aR aR aR aR aR aB aB aB aR ah aR aR ?_;simp only [go_sem,seval];refine gR ?_;refine bY ?_;(first|refine ⟨_,_,Le.refl _,by rfl,by rfl,?_⟩|refine Exists.intro (by first|trivial|decide|(simp;done)|omega) ?_;refine ⟨_,_,Le.refl _,by rfl,by rfl,?_⟩);simp only [go_sem,seval];refine Gx 6 (fun K hK=>?_) VX VX VX;(refine Wd ?_;simp only [go_sem,seval]);(repeat' (first|refine gC 113 ?_;refine bg (hsm) ?_|intro (K:St→Prop) hK|intro hc|(refine Gf 99 ?_ ?_ ?_ ?_<;>try exact VX)|fail));(try simp only [Nat.reduceBEq,qc1,qc5,qa8,reduceIte]);refine ⟨_,_,_,1000000001,Le.refl _,by rfl,by rfl,by rfl,rfl,?_⟩;simp only [go_sem,seval];refine bD rfl rfl (fun K1 hK1=>?_);refine bt dn ?_;simp only [go_sem,seval];refine hK1 _ ?_;clear hK1 K1;refine cH ?_;refine iy ?_ VX VX VX;exact VZ
     simp only [qe3,qe9,qa0,qb9,qb2];(first|refine bN _ ao ?_|refine bO ao aw ?_);(try simp only [go_sem,seval,dy,bl]);refine bD rfl rfl (fun K1 hK1=>?_);refine cM (dk _) aR (fun x hx=>?_);obtain rfl:=hx;simp only [go_sem,seval];refine hK1 _ ?_;clear hK1 K1;(first|refine bN _ ao ?_|refine bO ao aw ?_);(try simp only [go_sem,seval,dy,bl]);refine b8 1000000012 hyp hya hyb aR aR aR aR aR aB aB aB aR ah aR aR ?_;simp only [go_sem,seval];refine gR ?_;refine bY ?_;(first|refine ⟨_,_,Le.refl _,by rfl,by rfl,?_⟩|refine Exists.intro (by first|trivial|decide|(simp;done)|omega) ?_;refine ⟨_,_,Le.refl _,by rfl,by rfl,?_⟩);simp only [go_sem,seval];refine Gx 6 (fun K hK=>?_) VX VX VX;(refine Wd ?_;simp only [go_sem,seval]);(repeat' (first|refine gC 113 ?_;refine bg (hsm) ?_|intro (K:St→Prop) hK|intro hc|(refine Gf 99 ?_ ?_ ?_ ?_<;>try exact VX)|fail));(try simp only [Nat.reduceBEq,qc1,qc5,qa8,reduceIte]);refine ⟨_,_,_,1000000001,Le.refl _,by rfl,by rfl,by rfl,rfl,?_⟩;simp only [go_sem,seval];refine bD rfl rfl (fun K1 hK1=>?_);refine bt dn ?_;simp only [go_sem,seval];refine hK1 _ ?_;clear hK1 K1;refine cH ?_;refine iy ?_ VX VX VX;exact VZ
    |false=>
     rw [hb] at hsm;simp only [hb,qa8,if_false] at hA ⊢;cases hq:nI (hasB (fX d)) d.init pre pr [] with
     |none=>
      rw [hq] at hnd;unfold K9 at hnd;simp only [hq,qe5] at hA hnd ⊢;refine cA func159 ntmps159 ?_;refine Gx 2 (fun hc K hK K hK=>?_) VX VX VX;refine jQ aR ?_;intro o ho;have ho2:o∈[[0,1,2,3,4],[1,0,2,3,4],[1,2,0,3,4]]:=by refine Eq.mp (congrArg (o∈·) ?_) ho;kernel_rfl
      simp only [qc2,qf9,or_false] at ho2;rcases ho2 with rfl|rfl|rfl
      ·simp only [qe3,qe9,qa0,qb9,qb2]
       (first|refine bN _ ao ?_|refine bO ao aw ?_);(try simp only [go_sem,seval,dy,bl]);(first|refine bN _ ao ?_|refine bO ao aw ?_);(try simp only [go_sem,seval,dy,bl]);refine bD rfl rfl (fun K1 hK1=>?_);refine cM (dk _) aR (fun x hx=>?_);obtain rfl:=hx;simp only [go_sem,seval];refine hK1 _ ?_;clear hK1 K1;refine b8 1000000012 hyp hya hyb aR aR aR aR aR aB aB aB aR ah aR aR ?_;simp only [go_sem,seval];refine gR ?_;refine bY ?_;(first|refine ⟨_,_,Le.refl _,by rfl,by rfl,?_⟩|refine Exists.intro (by first|trivial|decide|(simp;done)|omega) ?_;refine ⟨_,_,Le.refl _,by rfl,by rfl,?_⟩);simp only [go_sem,seval];refine Gx 6 (fun K hK=>?_) VX VX VX;(refine Wd ?_;simp only [go_sem,seval]);(repeat' (first|refine gC 113 ?_;refine bg (hsm) ?_|refine gC 114 ?_;refine bg (hnd) ?_|intro (K:St→Prop) hK|intro hc|(refine Gf 99 ?_ ?_ ?_ ?_<;>try exact VX)|fail));(try simp only [Nat.reduceBEq,qc1,qc5,qa8,reduceIte]);refine ⟨_,_,_,1000000001,Le.refl _,by rfl,by rfl,by rfl,rfl,?_⟩;simp only [go_sem,seval];refine bD rfl rfl (fun K1 hK1=>?_);refine bt dn ?_;simp only [go_sem,seval];refine hK1 _ ?_;clear hK1 K1;refine cH ?_;refine iy ?_ VX VX VX;exact VZ
      ·simp only [qe3,qe9,qa0,qb9,qb2]
       (first|refine bN _ ao ?_|refine bO ao aw ?_);(try simp only [go_sem,seval,dy,bl]);(first|refine bN _ ao ?_|refine bO ao aw ?_);(try simp only [go_sem,seval,dy,bl]);refine bD rfl rfl (fun K1 hK1=>?_);refine cM (dk _) aR (fun x hx=>?_);obtain rfl:=hx;simp only [go_sem,seval];refine hK1 _ ?_;clear hK1 K1;refine b8 1000000012 hyp hya hyb aR aR aR aR aR aB aB aB aR ah aR aR ?_;simp only [go_sem,seval];refine gR ?_;refine bY ?_;(first|refine ⟨_,_,Le.refl _,by rfl,by rfl,?_⟩|refine Exists.intro (by first|trivial|decide|(simp;done)|omega) ?_;refine ⟨_,_,Le.refl _,by rfl,by rfl,?_⟩);simp only [go_sem,seval];refine Gx 6 (fun K hK=>?_) VX VX VX;(refine Wd ?_;simp only [go_sem,seval]);(repeat' (first|refine gC 113 ?_;refine bg (hsm) ?_|refine gC 114 ?_;refine bg (hnd) ?_|intro (K:St→Prop) hK|intro hc|(refine Gf 99 ?_ ?_ ?_ ?_<;>try exact VX)|fail));(try simp only [Nat.reduceBEq,qc1,qc5,qa8,reduceIte]);refine ⟨_,_,_,1000000001,Le.refl _,by rfl,by rfl,by rfl,rfl,?_⟩;simp only [go_sem,seval];refine bD rfl rfl (fun K1 hK1=>?_);refine bt dn ?_;simp only [go_sem,seval];refine hK1 _ ?_;clear hK1 K1;refine cH ?_;refine iy ?_ VX VX VX;exact VZ
      simp only [qe3,qe9,qa0,qb9,qb2];(first|refine bN _ ao ?_|refine bO ao aw ?_);(try simp only [go_sem,seval,dy,bl]);refine bD rfl rfl (fun K1 hK1=>?_);refine cM (dk _) aR (fun x hx=>?_);obtain rfl:=hx;simp only [go_sem,seval];refine hK1 _ ?_;clear hK1 K1;(first|refine bN _ ao ?_|refine bO ao aw ?_);(try simp only [go_sem,seval,dy,bl]);refine b8 1000000012 hyp hya hyb aR aR aR aR aR aB aB aB aR ah aR aR ?_;simp only [go_sem,seval];refine gR ?_;refine bY ?_;(first|refine ⟨_,_,Le.refl _,by rfl,by rfl,?_⟩|refine Exists.intro (by first|trivial|decide|(simp;done)|omega) ?_;refine ⟨_,_,Le.refl _,by rfl,by rfl,?_⟩);simp only [go_sem,seval];refine Gx 6 (fun K hK=>?_) VX VX VX;(refine Wd ?_;simp only [go_sem,seval]);(repeat' (first|refine gC 113 ?_;refine bg (hsm) ?_|refine gC 114 ?_;refine bg (hnd) ?_|intro (K:St→Prop) hK|intro hc|(refine Gf 99 ?_ ?_ ?_ ?_<;>try exact VX)|fail));(try simp only [Nat.reduceBEq,qc1,qc5,qa8,reduceIte]);refine ⟨_,_,_,1000000001,Le.refl _,by rfl,by rfl,by rfl,rfl,?_⟩;simp only [go_sem,seval];refine bD rfl rfl (fun K1 hK1=>?_);refine bt dn ?_;simp only [go_sem,seval];refine hK1 _ ?_;clear hK1 K1;refine cH ?_;refine iy ?_ VX VX VX;exact VZ
     |some q=>
      rw [hq] at hnd;unfold K9 at hnd;simp only [hq,qa3,qb4] at hA hnd ⊢;refine cA func159 ntmps159 ?_;refine Gx 2 (fun hc K hK K hK=>?_) VX VX VX;refine jQ aR ?_;intro o ho;have ho2:o∈[[0,1,2,3,4],[1,0,2,3,4],[1,2,0,3,4]]:=by refine Eq.mp (congrArg (o∈·) ?_) ho;kernel_rfl
      simp only [qc2,qf9,or_false] at ho2;rcases ho2 with rfl|rfl|rfl
      ·simp only [qe3,qe9,qa0,qb9,qb2]
       (first|refine bN _ ao ?_|refine bO ao aw ?_);(try simp only [go_sem,seval,dy,bl]);(first|refine bN _ ao ?_|refine bO ao aw ?_);(try simp only [go_sem,seval,dy,bl]);refine bD rfl rfl (fun K1 hK1=>?_);refine cM (dk _) aR (fun x hx=>?_);obtain rfl:=hx;simp only [go_sem,seval];refine hK1 _ ?_;clear hK1 K1;refine b8 1000000012 hyp hya hyb aR aR aR aR aR aB aB aB aR ah aR aR ?_;simp only [go_sem,seval];refine gR ?_;refine bY ?_;(first|refine ⟨_,_,Le.refl _,by rfl,by rfl,?_⟩|refine Exists.intro (by first|trivial|decide|(simp;done)|omega) ?_;refine ⟨_,_,Le.refl _,by rfl,by rfl,?_⟩);simp only [go_sem,seval];refine Gx 6 (fun K hK=>?_) VX VX VX;(refine Wd ?_;simp only [go_sem,seval]);(repeat' (first|refine gC 113 ?_;refine bg (hsm) ?_|refine gC 114 ?_;refine bg (hnd) ?_|refine gC 115 ?_;refine bg (hef) ?_|intro (K:St→Prop) hK|intro hc|(refine Gf 12 ?_ ?_ ?_ ?_<;>try exact VX)|fail));refine fU ?_;(first|refine bN _ ao ?_|refine bO ao aw ?_);(try simp only [go_sem,seval,dy,bl]);(first|refine bN _ ao ?_|refine bO ao aw ?_);(try simp only [go_sem,seval,dy,bl]);refine b8 1000000002 hyp1 hya1 hyb1 aR aR aR aR aR aB aB aB aR ah aR aR ?_;simp only [go_sem,seval];refine gR ?_;refine bY ?_;(first|refine ⟨_,_,Le.refl _,by rfl,by rfl,?_⟩|refine Exists.intro (by first|trivial|decide|(simp;done)|omega) ?_;refine ⟨_,_,Le.refl _,by rfl,by rfl,?_⟩);simp only [go_sem,seval];refine Go ?_ VX VX VX;(try simp only [Nat.reduceBEq,qc1,qc5,qa8,reduceIte]);refine ⟨_,_,_,1000000001,Le.refl _,by rfl,by rfl,by rfl,rfl,?_⟩;simp only [go_sem,seval];(first|refine bN _ ao ?_|refine bO ao aw ?_);(try simp only [go_sem,seval,dy,bl]);refine cH ?_;refine Go ?_ VX VX VX;(try simp only [Nat.reduceBEq,qc1,qc5,qa8,reduceIte]);refine ⟨_,_,_,1000000001,Le.refl _,by rfl,by rfl,by rfl,rfl,?_⟩;simp only [go_sem,seval];refine bD rfl rfl (fun K1 hK1=>?_);refine bt dn ?_;simp only [go_sem,seval];refine hK1 _ ?_;clear hK1 K1;refine cH ?_;refine Go ?_ VX VX VX;exact VZ
      ·simp only [qe3,qe9,qa0,qb9,qb2]
       (first|refine bN _ ao ?_|refine bO ao aw ?_);(try simp only [go_sem,seval,dy,bl]);(first|refine bN _ ao ?_|refine bO ao aw ?_);(try simp only [go_sem,seval,dy,bl]);refine bD rfl rfl (fun K1 hK1=>?_);refine cM (dk _) aR (fun x hx=>?_);obtain rfl:=hx;simp only [go_sem,seval];refine hK1 _ ?_;clear hK1 K1;refine b8 1000000012 hyp hya hyb aR aR aR aR aR aB aB aB aR ah aR aR ?_;simp only [go_sem,seval];refine gR ?_;refine bY ?_;(first|refine ⟨_,_,Le.refl _,by rfl,by rfl,?_⟩|refine Exists.intro (by first|trivial|decide|(simp;done)|omega) ?_;refine ⟨_,_,Le.refl _,by rfl,by rfl,?_⟩);simp only [go_sem,seval];refine Gx 6 (fun K hK=>?_) VX VX VX;(refine Wd ?_;simp only [go_sem,seval]);(repeat' (first|refine gC 113 ?_;refine bg (hsm) ?_|refine gC 114 ?_;refine bg (hnd) ?_|refine gC 115 ?_;refine bg (hef) ?_|intro (K:St→Prop) hK|intro hc|(refine Gf 12 ?_ ?_ ?_ ?_<;>try exact VX)|fail));refine fU ?_;(first|refine bN _ ao ?_|refine bO ao aw ?_);(try simp only [go_sem,seval,dy,bl]);(first|refine bN _ ao ?_|refine bO ao aw ?_);(try simp only [go_sem,seval,dy,bl]);refine b8 1000000002 hyp1 hya1 hyb1 aR aR aR aR aR aB aB aB aR ah aR aR ?_;simp only [go_sem,seval];refine gR ?_;refine bY ?_;(first|refine ⟨_,_,Le.refl _,by rfl,by rfl,?_⟩|refine Exists.intro (by first|trivial|decide|(simp;done)|omega) ?_;refine ⟨_,_,Le.refl _,by rfl,by rfl,?_⟩);simp only [go_sem,seval];refine Go ?_ VX VX VX;(try simp only [Nat.reduceBEq,qc1,qc5,qa8,reduceIte]);refine ⟨_,_,_,1000000001,Le.refl _,by rfl,by rfl,by rfl,rfl,?_⟩;simp only [go_sem,seval];(first|refine bN _ ao ?_|refine bO ao aw ?_);(try simp only [go_sem,seval,dy,bl]);refine cH ?_;refine Go ?_ VX VX VX;(try simp only [Nat.reduceBEq,qc1,qc5,qa8,reduceIte]);refine ⟨_,_,_,1000000001,Le.refl _,by rfl,by rfl,by rfl,rfl,?_⟩;simp only [go_sem,seval];refine bD rfl rfl (fun K1 hK1=>?_);refine bt dn ?_;simp only [go_sem,seval];refine hK1 _ ?_;clear hK1 K1;refine cH ?_;refine Go ?_ VX VX VX;exact VZ
      simp only [qe3,qe9,qa0,qb9,qb2];(first|refine bN _ ao ?_|refine bO ao aw ?_);(try simp only [go_sem,seval,dy,bl]);refine bD rfl rfl (fun K1 hK1=>?_);refine cM (dk _) aR (fun x hx=>?_);obtain rfl:=hx;simp only [go_sem,seval];refine hK1 _ ?_;clear hK1 K1;(first|refine bN _ ao ?_|refine bO ao aw ?_);(try simp only [go_sem,seval,dy,bl]);refine b8 1000000012 hyp hya hyb aR aR aR aR aR aB aB aB aR ah aR aR ?_;simp only [go_sem,seval];refine gR ?_;refine bY ?_;(first|refine ⟨_,_,Le.refl _,by rfl,by rfl,?_⟩|refine Exists.intro (by first|trivial|decide|(simp;done)|omega) ?_;refine ⟨_,_,Le.refl _,by rfl,by rfl,?_⟩);simp only [go_sem,seval];refine Gx 6 (fun K hK=>?_) VX VX VX;(refine Wd ?_;simp only [go_sem,seval]);(repeat' (first|refine gC 113 ?_;refine bg (hsm) ?_|refine gC 114 ?_;refine bg (hnd) ?_|refine gC 115 ?_;refine bg (hef) ?_|intro (K:St→Prop) hK|intro hc|(refine Gf 12 ?_ ?_ ?_ ?_<;>try exact VX)|fail));refine fU ?_;(first|refine bN _ ao ?_|refine bO ao aw ?_);(try simp only [go_sem,seval,dy,bl]);(first|refine bN _ ao ?_|refine bO ao aw ?_);(try simp only [go_sem,seval,dy,bl]);refine b8 1000000002 hyp1 hya1 hyb1 aR aR aR aR aR aB aB aB aR ah aR aR ?_;simp only [go_sem,seval];refine gR ?_;refine bY ?_;(first|refine ⟨_,_,Le.refl _,by rfl,by rfl,?_⟩|refine Exists.intro (by first|trivial|decide|(simp;done)|omega) ?_;refine ⟨_,_,Le.refl _,by rfl,by rfl,?_⟩);simp only [go_sem,seval];refine Go ?_ VX VX VX;(try simp only [Nat.reduceBEq,qc1,qc5,qa8,reduceIte]);refine ⟨_,_,_,1000000001,Le.refl _,by rfl,by rfl,by rfl,rfl,?_⟩;simp only [go_sem,seval];(first|refine bN _ ao ?_|refine bO ao aw ?_);(try simp only [go_sem,seval,dy,bl]);refine cH ?_;refine Go ?_ VX VX VX;(try simp only [Nat.reduceBEq,qc1,qc5,qa8,reduceIte]);refine ⟨_,_,_,1000000001,Le.refl _,by rfl,by rfl,by rfl,rfl,?_⟩;simp only [go_sem,seval];refine bD rfl rfl (fun K1 hK1=>?_);refine bt dn ?_;simp only [go_sem,seval];refine hK1 _ ?_;clear hK1 K1;refine cH ?_;refine Go ?_ VX VX VX;exact VZ
   |cons t r ih=>
    intro pre A hr hl hA;have hlen:(t::r).length=r.length+1:=rfl;rw [hlen] at hl;have hne:¬((pre.length:Int)=(w.length:Int)):=by omega
    have hwt:w[pre.length]?=some t:=by
     have h1:(w.take pre.length).length=pre.length:=by rw [qc0];omega
     have h2:(w.take pre.length++t::r)[pre.length]?=some t:=by rw [qc7 (Nat.le_of_eq h1),h1,qm0];rfl
     rwa [← hr] at h2
    have hpw:pre.length < w.length:=by omega
    have hwe:w[pre.length]=t:=by rw [qa7 hpw] at hwt;exact ql1 hwt
    refine cA func159 ntmps159 ?_;(repeat' (first|refine gD 3 ?_;refine Wf ?_|refine dH 160 ?_;refine bB (KV _ _ _ aE aE aE) ?_|intro (K:St→Prop) hK|intro hc|(refine Gf 99 ?_ ?_ ?_ ?_<;>try exact VX)|fail));have hoe:wB d.types d.dg t d.dg.length=lM d t:=rfl;simp only [hwe,hoe];have hof:=nH d.types d.dg t d.dg.length;rw [hoe] at hof;refine bP [6,8,29,30,31,32,33,34,35,36,37,38,39,40,41] (fun j:Nat=>j≤(lM d t).length) (fun j=>(lM d t).length - j) (fun j=>[(29,.int j)]) (fun j=>[(2,⟨109,[.sl 6 112 502 0 (Ix d k ⟨nm,w,df,pr,ad,de,co⟩ pre t r A j).length],true⟩),(502,⟨112,(Ix d k ⟨nm,w,df,pr,ad,de,co⟩ pre t r A j).flatMap lS,false⟩)]) 0 (qc6 _) ?_ ?_
    ·rw [Ln]
     refine bA ?_;exact aZ
    rintro j hj K hK;refine bA ?_;by_cases hlt:j < (lM d t).length
    ·have ihj:=ih (pre++[(lM d t)[j]]) (Ix d k ⟨nm,w,df,pr,ad,de,co⟩ pre t r A j) (by
      rw [qa3,qb4,List.take_add_one,hwt,Option.toList_some,qd6];exact hr) (by rw [qa3,qb4];omega)
      (by rw [Dk hlt];exact qd3 (Ox d k ⟨nm,w,df,pr,ad,de,co⟩ pre t r A (j+1)) hA)
     rw [Dk hlt] at ihj;have hprb:(pre.length+1) * 8≤140737488355328:=by omega
     simp only [ints,qb5,qd4,qg5] at ihj;refine Gx 6 (fun _ hc K hK K hK=>?_) VX VX VX;(repeat' (first|refine gD 6 ?_;refine vP (s1:=?_) (.it 1 0 (.it 3 0 (.Aj 0 2 4 (.fk 2 4 (.it 4 1 (.it 5 3 (.it 6 3 (.it 7 1 .nil)))) (.it 2 1 (.it 5 3 (.it 6 3 (.it 7 1 .nil))))) (.fk 0 4 (.it 4 1 (.it 5 3 (.it 6 3 (.it 7 1 .nil)))) (.pY 0 1 5 3 (.it 5 3 (.it 6 3 (.it 7 1 .nil))) (.it 0 1 (.it 6 3 (.it 7 1 .nil))))) (.fk 0 2 (.it 2 1 (.it 5 3 (.it 6 3 (.it 7 1 .nil)))) (.pY 0 1 5 3 (.it 5 3 (.it 6 3 (.it 7 1 .nil))) (.it 0 1 (.it 6 3 (.it 7 1 .nil)))))))) ?_ ?_;rotate_left|refine c8 (fun K hK=>?_);(first|(refine mB (d:=some 35) (rv 35000 _) aR (by first|exact jE al|(intro id hid;simp only [qc2,qf9,or_false] at hid;rcases hid with rfl|rfl|rfl|rfl<;>first|rfl|(simp only [go_sem,seval];done)|(simp only [St.free,cz,go_sem,seval];done)|(simp only [go_sem,seval];rfl)|(simp [St.free,cz,AV.bz,AV.cq];try exact ef _ _ _ fun _=>rfl))) (fun x hp hx=>?_);obtain ⟨rfl,rfl⟩:=hx)|refine cN (d:=37) aJ aR aR aR aR ?_)|refine yP ?_;refine nR ?_|refine fQ (fun K hK=>?_);refine ck ?_|intro (K:St→Prop) hK|intro hc|(refine tG 99 ?_ ?_ ?_ ?_<;>try exact VX)|fail))
     all_goals (try (refine fQ (fun K hK=>?_);(try simp only [Nat.reduceBEq,qc5,qc1,qa8,reduceIte]);refine fy (dL (f:=AV.int) 35005 1 8 (pre.length+1) (pre++[(lM d t)[j]]) aR (by rw [jV,qb5];rfl) aC (fun _=>rfl) (fun _=>rfl) ak) ?_;simp only [AV.dT,sealS_any,sealS_v,sealS_isl,sealS_iptr,di,dz,sealS_agg,sealS_tup,sealS_fn,purge_agg,purge_tup,purge_fn,and_self,AV.bz,AV.cq,qf0,go_sem,seval,qb5,qd4,qg5];(refine eu aR (ihj) au (fun _ h=>by cases h) aR (fun x hp' hx=>?_);obtain ⟨rfl,rfl⟩:=hx<;>simp only [go_sem,seval,dy,bl]);refine hK _ ?_;clear hK K;refine HB VX VX VX VX))
     refine iy ?_ VX VX VX;refine ⟨j+1,by omega,by omega,?_⟩;refine bA ?_;exact aZ
    obtain rfl:j=(lM d t).length:=by omega
    rw [Ow];refine iy (fun hc K hK=>?_) VX VX VX;exact VZ
  refine bH (fun K hK=>?_);refine dU ?_;refine cn rfl (fun K1 hK1=>?_);refine l9 (d:=3) 703 ah (.inl rfl) ah ?_;simp only [go_sem,seval];refine hK1 _ ?_;clear hK1 K1;refine lr ?_;refine hK _ ?_;clear hK K;refine bH (fun K hK=>?_);refine dU ?_;refine cn rfl (fun K1 hK1=>?_);refine ov (d:=4) 704 ah ?_;simp only [go_sem,seval];refine hK1 _ ?_;clear hK1 K1;refine lr ?_;refine hK _ ?_;clear hK K;have hqa:Iw d k ⟨nm,w,df,pr,ad,de,co⟩ [] w (qi d k)=qi d (k+1):=by rw [hls,Iw,E7];simp
  have kb:=xH (args':=[.fO,.bC [ints w],.ptr 703 0,.bC d.cs,.ptr 704 0]) (key w [] (qi d k) aC aC (by rw [hqa];omega)) ⟨iO.nil 1 8,iO.ic _,iO.ic _,iO.ic _,iO.ic _,trivial⟩;rw [hqa] at kb;clear key;refine Gx 3 (fun K hK=>?_) VX VX VX;refine bu (fun K hK=>?_);refine bt cL ?_;simp only [go_sem,seval];refine hK _ ?_;clear hK K;refine Gx 3 ?_ VX VX VX;refine gR ?_;refine bY ?_;refine bu (fun K hK=>?_);(refine eu aR (kb) au (fun _ h=>by cases h) aR (fun x hp' hx=>?_);obtain ⟨rfl,rfl⟩:=hx<;>simp only [go_sem,seval,dy,bl]);refine hK _ ?_;clear hK K;(repeat' (refine gW ?_;refine eo ?_));refine ⟨_,_,.normal,1000000001,_,Le.refl _,iI,rfl,by rfl,?_⟩;simp only [go_sem,seval,dy,bl];refine hK8 _ ?_;clear hK8 hK;refine Go ?_ VX VX VX;refine ⟨k+1,by omega,by omega,?_⟩;refine bA ?_;exact aZ
 obtain rfl:k=d.cU.length:=by omega
 have hal:=uo d h d.cU.length (qb3 _);generalize qi d d.cU.length=X at *;refine Go (fun hc K hK=>?_) VX VX VX;refine ⟨_,_,.normal,1000000001,_,Le.refl _,iI,rfl,by rfl,?_⟩;simp only [go_sem,seval,dy,bl];refine hK9 _ ?_;clear hK9 hK;refine Go ?_ VX VX VX;refine wK (f:=Act.av) X rfl aR (by rw [zP];rfl) rfl (fun _=>rfl) (fun _=>rfl) ak rfl
def jc (d:cR):List Act:=qi d d.cU.length
theorem Ff (d:cR) (h:zE d):bm prog 51 [.fn 111 [.bC [.bC d.gs]]] (fun r=>r=Ll (jc d)):=by
 have ha:=Oy d h;rw [show qi d d.cU.length=jc d from rfl] at ha;refine bc func51 ntmps51 ?_;(repeat' (first|refine gC 110 ?_;refine bg (ha) ?_|intro (K:St→Prop) hK|intro hc|(refine Gf 99 ?_ ?_ ?_ ?_<;>try exact VX)|fail));refine VY ?_;rfl
end
section
attribute [local go_sem] ec fm j1
structure Bf where
 t:Task
 lits:List bG
 ins:List br
abbrev Bf.av (g:Bf):AV:=.agg [.int g.t.facts,ints g.t.init,ints g.t.goal,uk g.t.ops,b9 g.lits,bQ g.ins]
theorem Iy (g:Bf) (hn:g.lits.length≤24):bm prog 121 [g.av] (fun r=>r=g.av):=by
 obtain ⟨⟨fa,cB,go,ops⟩,l,ins⟩:=g;simp only at hn ⊢;refine bc func121 ntmps121 ?_;refine Go (fun K hK=>?_) VX VX VX;refine fD 3 100 3 40 68 ?_;refine bP [3,5,9,10,11,12,13,14,15,16,17,18,19,20,21,22,23,24,25,26,27] (fun k:Nat=>k≤l.length) (fun k=>l.length - k) (fun k=>[(9,.int k),(3,.sl 3 40 100 0 (l.take k).length)]) (fun k=>[(100,⟨68,(l.take k).flatMap lN,false⟩)]) 0 (qc6 _) ?_ ?_
 ·refine bA ?_
  exact aZ
 rintro k hk K hK;have hkl:(l.take k).length=k:=by rw [qc0];omega
 rw [hkl];refine bA ?_;by_cases hlt:k < l.length
 ·have hst:l.take (k+1)=l.take k++[l[k]]:=qa5 hlt
  (repeat' (first|refine gD 5 ?_;refine dK (.r 0 9 (.it 9 1 (.r 10 2 (.it 12 1 (.it 13 3 (.it 14 1 .nil)))))) ?_|refine dH 147 ?_;refine bB (dk _) ?_|refine c8 (fun K hK=>?_);refine cN (d:=25) aJ aR aR aR aR ?_|refine yP ?_;refine nR ?_|refine fQ (fun K hK=>?_);refine ck ?_|intro (K:St→Prop) hK|intro hc|(refine rh 99 ?_ ?_ ?_ ?_<;>try exact VX)|fail));refine ⟨k+1,by omega,by omega,?_⟩;rw [hst,qa3,hkl];refine bA ?_;exact aZ
 obtain rfl:k=l.length:=by omega
 rw [qd2];refine HA 7 (fun hc K hK K hK=>?_) VX VX VX;(refine cE (cV (f:=bG.av) 100 3 40 l.length l aR (dS _) aN (fun _=>rfl) (fun _=>rfl) ak) ?_;try simp only [go_sem,seval]);refine Go ?_ VX VX VX;refine V0 ?_;rfl
def oQ (d:cR) (l:List bG):Nat→List Int
 |0=>[]
 |k+1=>oQ d l k++if pR d l[k]! =true then [(k:Int)] else []
theorem uq (d:cR) (l:List bG):∀ k,(oQ d l k).length≤k
 |0=>qb3 _
 |k+1=>by
  have:=uq d l k;rw [oQ,qa3];split<;>simp<;>omega
abbrev lP (l x:List bG):List Int:=jq l x l.length
def wE (l:List bG) (x:Act):Op:=⟨lP l x.pre,lP l x.add,lP l x.del,x.cost⟩
def jL (x:Act):br:=⟨x.AQ,x.args⟩
def Fg (d:cR) (l:List bG) (ac:List Act):Bf:=⟨⟨l.length,oQ d l l.length,lP l d.goal,ac.map (wE l)⟩,l,ac.map jL⟩
def qE:AV:=.agg [.int 0,.fO,.fO,.fO,.fO,.fO]
def gp (d:cR) (l:List bG) (ac:List Act):AV:=if l.length≤24∧ac.length≤40 then .dC [(Fg d l ac).av,fault 0 0] else .dC [qE,fault 10 (-8)]
theorem Lo (d:cR) (l:List bG) (ac:List Act):bm prog 58 [.bC d.gs,b9 l,Ll ac] (fun r=>r=gp d l ac):=by
 by_cases h1:l.length≤24
 ·by_cases h2:ac.length≤40
  ·rw [gp,if_pos ⟨h1,h2⟩]
   have hg:=oR l d.goal;refine bc func58 ntmps58 ?_;(repeat' (first|refine gC 54 ?_;refine bg (hg) ?_|intro (K:St→Prop) hK|intro hc|(refine Gf 4 ?_ ?_ ?_ ?_<;>try exact VX)|fail));(refine cE (fe 8 1 801 1 8 3 aR aR al) ?_;simp only [go_sem,seval]);(refine cE (fe 8 3 803 4 80 94 aR aR al) ?_;simp only [go_sem,seval]);(refine cE (fe 8 5 805 2 32 52 aR aR al) ?_;simp only [go_sem,seval]);refine Gx 5 ?_ VX VX VX;refine bP [12,13,57,58,59,60,61,62,63,64,65,66,67,68,69,70,71,72,73,74,75,76,77,78,79,80,81,82,83,84,85,86,87,88,89,90,91] (fun k:Nat=>k≤l.length) (fun k=>l.length - k) (fun k=>[(38,.int k)]) (fun k=>[(8,⟨40,[.int l.length,.sl 1 8 801 0 (oQ d l k).length,ints (lP l d.goal),.sl 4 80 803 0 0,b9 l,.sl 2 32 805 0 0],true⟩),(801,⟨3,(oQ d l k).map AV.int,false⟩)]) 0 (qc6 _) ?_ ?_
   ·refine bA ?_
    exact aZ
   rintro k hk K hK;refine bA ?_;have hil:=uq d l k;by_cases hlt:k < l.length
   ·have hst:oQ d l (k+1)=oQ d l k++if pR d l[k]=true then [(k:Int)] else []:=by rw [oQ,bq hlt]
    have hi:=K8 d l[k];cases hb:pR d l[k] with
    |true=>
     rw [hb] at hi hst;simp only [if_true] at hst;(repeat' (first|refine gC 53 ?_;refine bg (hi) ?_|refine bu (fun K hK=>?_);refine ck ?_|intro (K:St→Prop) hK|intro hc|(refine Gf 99 ?_ ?_ ?_ ?_<;>try exact VX)|fail));refine ⟨k+1,by omega,by omega,?_⟩;rw [hst,qa3,qb4,qb5];refine bA ?_;exact aZ
    |false=>
     rw [hb] at hi hst;simp only [qa8,if_false,qe5] at hst;(repeat' (first|refine gC 53 ?_;refine bg (hi) ?_|intro (K:St→Prop) hK|intro hc|(refine Gf 99 ?_ ?_ ?_ ?_<;>try exact VX)|fail));refine ⟨k+1,by omega,by omega,?_⟩;rw [hst];refine bA ?_;exact aZ
   obtain rfl:k=l.length:=by omega
   refine HA 11 (fun hc K hK K hK=>?_) VX VX VX;have hil:=uq d l l.length;generalize hI:oQ d l l.length=I at *;refine bP [12,13,57,58,59,60,61,62,63,64,65,66,67,68,69,70,71,72,73,74,75,76,77,78,79,80,81,82,83,84,85,86,87,88,89,90,91] (fun k:Nat=>k≤ac.length) (fun k=>ac.length - k) (fun k=>[(57,.int k)]) (fun k=>[(8,⟨40,[.int l.length,.sl 1 8 801 0 I.length,ints (lP l d.goal),.sl 4 80 803 0 ((ac.map (wE l)).take k).length,b9 l,.sl 2 32 805 0 ((ac.map jL).take k).length],true⟩),(803,⟨94,((ac.map (wE l)).take k).flatMap v7,false⟩),(805,⟨52,((ac.map jL).take k).flatMap kG,false⟩)]) 0 (qc6 _) ?_ ?_
   ·refine bA ?_
    exact aZ
   rintro k hk K hK;have l1:((ac.map (wE l)).take k).length=k:=by rw [qc0,qa2];omega
   have l2:((ac.map jL).take k).length=k:=by rw [qc0,qa2];omega
   rw [l1,l2];refine bA ?_;by_cases hlt:k < ac.length
   ·have s1:(ac.map (wE l)).take (k+1)=(ac.map (wE l)).take k++[wE l ac[k]]:=by rw [qa5 (by simpa using hlt),qj8]
    have s2:(ac.map jL).take (k+1)=(ac.map jL).take k++[jL ac[k]]:=by rw [qa5 (by simpa using hlt),qj8]
    have i1:=oR l ac[k].pre;have i2:=oR l ac[k].add;have i3:=oR l ac[k].del;(repeat' (first|refine gD 13 ?_;refine vP (s1:=?_) (.r 0 3 (.r 4 3 (.r 8 3 (.r 12 2 (.fk 3 15 (.fk 7 15 (.fk 11 15 (.it 14 0 (.it 15 1 (.it 16 3 .nil))) (.it 11 1 (.it 14 0 (.it 16 3 .nil)))) (.it 7 1 (.it 11 1 (.it 14 0 (.it 16 3 .nil))))) (.it 3 1 (.it 7 1 (.it 11 1 (.it 14 0 (.it 16 3 .nil)))))))))) ?_ ?_;rotate_left|refine dH 54 ?_;refine bB (i1) ?_|refine dH 54 ?_;refine bB (i2) ?_|refine dH 54 ?_;refine bB (i3) ?_|refine bu (fun K hK=>?_);refine ck ?_|refine c8 (fun K hK=>?_);refine eZ (d:=13) 13 al ?_|refine gO ?_;refine kJ ?_|intro (K:St→Prop) hK|intro hc|(refine rh 99 ?_ ?_ ?_ ?_<;>try exact VX)|fail));refine ⟨k+1,by omega,by omega,?_⟩;rw [s1,s2,qa3,qa3,l1,l2];refine bA ?_;exact aZ
   obtain rfl:k=ac.length:=by omega
   rw [qe8 aC,qe8 aC];generalize hX:ac.map (wE l)=X at *;generalize hY:ac.map jL=Y at *;have hXl:X.length=ac.length:=by rw [← hX,qa2]
   have hYl:Y.length=ac.length:=by rw [← hY,qa2]
   have hcp:=Iy ⟨⟨l.length,I,lP l d.goal,X⟩,l,Y⟩ h1;have hgr:Fg d l ac=⟨⟨l.length,I,lP l d.goal,X⟩,l,Y⟩:=by rw [← hX,← hY,← hI];rfl
   refine HA 17 (fun hc K hK K hK=>?_) VX VX VX;(refine cE (mv 801 I.length I aR aN) ?_;simp only [go_sem,seval]);(refine cE (cV (f:=Op.av) 803 4 80 ac.length X aR (Da _) (by exact hXl) (fun _=>rfl) (fun _=>rfl) ak) ?_;try simp only [go_sem,seval]);(refine cE (cV (f:=br.av) 805 2 32 ac.length Y aR (mS _) (by exact hYl) (fun _=>rfl) (fun _=>rfl) ak) ?_;try simp only [go_sem,seval]);(repeat' (first|refine gC 121 ?_;refine bg (hcp) ?_|intro (K:St→Prop) hK|intro hc|(refine Gf 99 ?_ ?_ ?_ ?_<;>try exact VX)|fail));refine V2 ?_;rw [hgr];rfl
  rw [gp,if_neg (fun h=>h2 h.2)];refine bc func58 ntmps58 ?_;refine Go (fun hc hc K hK=>?_) VX VX VX;refine V2 ?_;rfl
 rw [gp,if_neg (fun h=>h1 h.1)];refine bc func58 ntmps58 ?_;refine Go (fun hc K hK=>?_) VX VX VX;refine V2 ?_;rfl
def qP (R:List Bool) (p:Int):Bool:=!R[p.toNat]!
def lZ (R:List Bool) (l:List Int):List Bool:=l.foldl (fun R p=>R.set p.toNat true) R
theorem vw (l:List Int):∀ R:List Bool,(lZ R l).length=R.length:=by
 induction l with
 |nil=>intro R;rfl
 |cons a l ih=>intro R;show (lZ (R.set a.toNat true) l).length=_;rw [ih,qk1]
theorem Fh {l:List Int} {k:Nat} (h:k < l.length) (R:List Bool):lZ R (l.take (k+1))=(lZ R (l.take k)).set l[k].toNat true:=by
 rw [qa5 h,lZ,List.foldl_append];rfl
abbrev Sy:=Bool×List Bool×List Bool
def yn (pre add:Nat→List Int) (i:Nat) (x:Sy):Sy:=
 if x.2.1[i]! =false∧(pre i).any (qP x.2.2)=false then (true,x.2.1.set i true,lZ x.2.2 (add i)) else x
def dB (pre add:Nat→List Int):Nat→Sy→Sy
 |0,x=>x
 |k+1,x=>yn pre add k (dB pre add k x)
def yo (pre add:Nat→List Int) (n:Nat):Nat→List Bool×List Bool→List Bool×List Bool
 |0,x=>x
 |f+1,x=>if (dB pre add n (false,x.1,x.2)).1=true then yo pre add n f (dB pre add n (false,x.1,x.2)).2 else (dB pre add n (false,x.1,x.2)).2
def mT (U:List Bool):Nat:=U.count false
theorem Dm {U:List Bool} {i:Nat} (h:i < U.length) (h0:U[i]! =false):mT (U.set i true)+1=mT U:=by
 rw [bq h] at h0;have hp:0 < U.count false:=List.count_pos_iff.2 (h0 ▸ qa4 h);rw [mT,mT,List.count_set h,h0];simp;omega
theorem pS (pre add:Nat→List Int):∀ (k:Nat) (x:Sy),(dB pre add k x).2.1.length=x.2.1.length∧(dB pre add k x).2.2.length=x.2.2.length
 |0,x=>⟨rfl,rfl⟩
 |k+1,x=>by
  have h:=pS pre add k x;rw [dB,yn];split
  ·exact ⟨by simp only [qk1];exact h.1,by simp only [vw];exact h.2⟩
  exact h
theorem sT (pre add:Nat→List Int):∀ (k:Nat) (x:Sy),k≤x.2.1.length→mT (dB pre add k x).2.1≤mT x.2.1∧((dB pre add k x).1=true→x.1=true∨mT (dB pre add k x).2.1 < mT x.2.1)
 |0,x,_=>⟨qb3 _,fun h=>.inl h⟩
 |k+1,x,hk=>by
  have h:=sT pre add k x ak;have hl:=(pS pre add k x).1;rw [dB,yn];split
  ·rename_i hc
   have:=Dm ak hc.1;exact ⟨by simp only;omega,fun _=>.inr aQ⟩
  exact h
abbrev rH (n:Nat) (R:List Bool):Hp:=[(8,⟨115,[.sl 1 1 43 0 n],true⟩),(43,⟨4,R.map AV.bool,true⟩)]
theorem Oz (R:List Bool) (p:Nat) (hp:p < R.length):cX prog 56 [.int (p:Int),.ptr 8 0] (rH R.length R) [] [8] (fun x hp=>x= .bool (qP R p)∧hp=rH R.length R):=by
 have e:qP R p= !R[p]:=by rw [qP,ql0,bq hp]
 rw [e];refine cA func56 ntmps56 ?_;refine Go (fun _=>?_) VX VX VX;exact VZ
theorem OA (R:List Bool) (xs:List Int) (h:∀ p∈xs,0≤p∧p < R.length) :
 cX prog 117 [ints xs,.fn 56 [.ptr 8 0]] (rH R.length R) [] [8] (fun x hp=>x= .int (mR (qP R) xs)∧hp=rH R.length R):=by
 refine cA func117 ntmps117 ?_;(refine bU (i:=0) rfl (fun hb=>?_);(try simp only [qa2] at hb));refine Go (fun K hK=>?_) VX VX VX;refine bP [4,5,8,9,10,11,12,13,14,15,16,17,18] (fun k:Nat=>k≤xs.length∧∀ i (hi:i < xs.length),i < k→qP R xs[i]=false) (fun k=>xs.length - k) (fun k=>[(8,.int k)]) (fun _=>[]) 0 ⟨by omega,by omega⟩ ?_ ?_
 ·refine bA ?_
  exact aZ
 rintro k ⟨hk,hn⟩ K hK;refine bA ?_;by_cases hlt:k < xs.length
 ·have hx:=h xs[k] (qa4 hlt)
  have c1:=Oz R xs[k].toNat ak;rw [qg3 hx.1] at c1;cases ho:qP R xs[k] with
  |true=>
   rw [ho] at c1;(repeat' (first|refine bu (fun K hK=>?_);(refine eu aR (c1) au (fun _ h=>by cases h) aR (fun x hp' hx=>?_);obtain ⟨rfl,rfl⟩:=hx<;>simp only [go_sem,seval,dy,bl])|intro (K:St→Prop) hK|intro hc|(refine Gf 99 ?_ ?_ ?_ ?_<;>try exact VX)|fail));rw [iP hlt ho hn];exact VZ
  |false=>
   rw [ho] at c1;(repeat' (first|refine bu (fun K hK=>?_);(refine eu aR (c1) au (fun _ h=>by cases h) aR (fun x hp' hx=>?_);obtain ⟨rfl,rfl⟩:=hx<;>simp only [go_sem,seval,dy,bl])|intro (K:St→Prop) hK|intro hc|(refine Gf 99 ?_ ?_ ?_ ?_<;>try exact VX)|fail));refine ⟨k+1,⟨by omega,cj hn fun _=>ho⟩,by omega,?_⟩;refine bA ?_;exact aZ
 refine iy (fun hc K hK=>?_) VX VX VX;rw [gv fun i hi=>hn i hi ak];exact VZ
theorem OB (R:List Bool) (xs:List Int) (h:∀ p∈xs,0≤p∧p < R.length) :
 cX prog 55 [ints xs,.fn 56 [.ptr 8 0]] (rH R.length R) [] [8] (fun x hp=>x= .bool (xs.any (qP R))∧hp=rH R.length R):=by
 have c1:=OA R xs h;rw [← jJ];generalize mR (qP R) xs=z at *;refine cA func55 ntmps55 ?_;(repeat' (first|refine bu (fun K hK=>?_);(refine bL (c1) au (fun _ h=>by cases h) aR (fun x hp' hx=>?_);obtain ⟨rfl,rfl⟩:=hx<;>simp only [go_sem,seval,dy,bl])|intro (K:St→Prop) hK|intro hc|(refine Gf 99 ?_ ?_ ?_ ?_<;>try exact VX)|fail));exact VZ
end
end Go.Proofs.YtkbiagkbmodgdaaGreat
