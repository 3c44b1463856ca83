/- Part of a proof. No condition. -/
import Derived.Test.YtkbiagkbmodgdaaGreatZph
import Derived.Laws.BitsAllLaws
import Derived.Test.YtkbiagkbmodgdaaGreatZabo
import Derived.Test.YtkbiagkbmodgdaaGreatZdgr
import Derived.Test.YtkbiagkbmodgdaaGreatZdte
import Derived.Test.YtkbiagkbmodgdaaGreatZgcb
import Derived.Test.YtkbiagkbmodgdaaGreatZgg
import Derived.Test.YtkbiagkbmodgdaaGreatZshl
set_option linter.unusedSimpArgs false
set_option linter.unusedVariables false
namespace Go.Proofs.YtkbiagkbmodgdaaGreat
open Go.Ab
open Go Tryz
section
set_option maxRecDepth 10000
attribute [local irreducible] PV ff ew AW bm da en dQ Ab.Fin fi er gF RV kh Le eV fL ma iG kM dJ dt
set_option maxHeartbeats 2000000
theorem OD (xs:List Int) (id:Nat) (fl:Bool) (hl:xs.length≤17592186044416):dQ prog 186 [.sl 1 8 id 0 xs.length] id ⟨3,xs.map AV.int,fl⟩ (fun x bk=>x= .dC []∧bk=⟨3,(nw xs).map AV.int,false⟩):=
 Eu hl (fun blk off cap zs w h1 h2 h3=>Tryz.slices_Sort_int blk off cap zs w h1 h2 h3) (fun p cap w=>Tryz.slices_Sort_int_none p cap w)
theorem Fi (xs:List Int) (id:Nat) (fl:Bool) (hl:xs.length≤1000000):dQ prog 187 [.sl 1 8 id 0 xs.length] id ⟨3,xs.map AV.int,fl⟩ (fun x bk=>x= .sl 1 8 id 0 (Lib.compact xs).length∧bk=⟨3,(Lib.compact xs).map AV.int,false⟩):=
 yV hl (fun blk off cap zs w h1 h2 h3=>Tryz.slices_Compact_int blk off cap zs w h1 h2 h3) (fun p cap w=>Tryz.slices_Compact_int_empty p cap w)
def mU (del s:List Int):List Int:=s.filter fun x=>!hasB del x
variable {del s:List Int} {k:Nat}
theorem Iz (hk:k < s.length) (h:hasB del s[k]=false):mU del (s.take (k+1))=mU del (s.take k)++[s[k]]:=by
 unfold mU;rw [qa5 hk,qh6,List.filter_cons_of_pos (by simp [h])];rfl
theorem Lr (hk:k < s.length) (h:hasB del s[k]=true):mU del (s.take (k+1))=mU del (s.take k):=by
 unfold mU;rw [qa5 hk,qh6,List.filter_cons_of_neg (by simp [h])];simp
theorem zQ:(mU del (s.take k)).length≤k:=by
 unfold mU;have:=qh8 (fun x=>!hasB del x) (s.take k);have h2:(s.take k).length≤k:=by rw [qc0];omega
 omega
theorem rC (s add del:List Int) (hs:s.length≤1000) (ha:add.length≤1000) (hd:del.Pairwise (· < ·)):bm prog 137 [ints s,ints add,ints del] (fun r=>r=ints (oK s add del)):=by
 refine bc func137 ntmps137 ?_;refine Go (fun K hK=>?_) VX VX VX;refine fD 7 100 1 8 3 ?_;refine ba [7,9,10,11,14,15,16,17,18,19,20,21,22,23,24,25,26,27,28,29,30] (fun k:Nat=>k≤s.length) (fun k=>s.length - k) (fun k=>[(14,.int k),(7,.sl 1 8 100 0 (mU del (s.take k)).length)]) (fun k=>[(100,⟨3,(mU del (s.take k)).map AV.int,false⟩)]) 0 ak ?_ ?_
 ·refine bA ?_
  exact aZ
 rintro k hk K hK;refine bA ?_;have hl:=zQ (del:=del) (s:=s) (k:=k);by_cases hlt:k < s.length
 ·(repeat' (first|refine gC 136 ?_;refine bg (zI _ _ aE) ?_|refine bu (fun K hK=>?_);refine ck ?_|intro (K:St→Prop) hK|intro hc|(refine Gf 99 ?_ ?_ ?_ ?_<;>try exact VX)|fail))
  all_goals refine ⟨k+1,by omega,by omega,?_⟩
  ·rw [Iz hlt aE]
   refine bA ?_;exact aZ
  rw [Lr hlt aE];refine bA ?_;exact aZ
 obtain rfl:k=s.length:=by omega
 rw [qd2] at *;have hnl:(mU del s++add).length=(mU del s).length+add.length:=qa3;have hnb:=zQ (del:=del) (s:=s) (k:=s.length);rw [qd2] at hnb;have hr:oK s add del=Ko (mU del s++add):=rfl;refine HA 10 (fun hc K hK K hK=>?_) VX VX VX;simp only [go_sem,seval,jV,qa2];rw [← hnl,← qb5];have hx:(mU del s++add).length≤2000:=by omega
 generalize mU del s++add=xs at *;have hsl:xs.length=(nw xs).length:=(List.length_mergeSort xs).symm;(repeat' (first|(refine bu (fun K hK=>?_);refine mw (hT:=by exact of_decide_eq_true rfl) (d:=some 35) (OD xs 100 _ ak) aR (fun x bk hx=>?_);obtain ⟨rfl,rfl⟩:=hx;simp only [Nat.reduceBEq,ql9,qc5,qc1,qi7,go_sem,seval])|intro (K:St→Prop) hK|intro hc|(refine Gf 11 ?_ ?_ ?_ ?_<;>try exact VX)|fail));have hr2:oK s add del=Lib.compact (nw xs):=hr;clear hr;have hys:(nw xs).length≤2000:=by omega
 rw [hsl];clear hsl;generalize nw xs=ys at *;(repeat' (first|(refine bu (fun K hK=>?_);refine mw (hT:=by exact of_decide_eq_true rfl) (d:=some 37) (Fi ys 100 _ ak) aR (fun x bk hx=>?_);obtain ⟨rfl,rfl⟩:=hx;simp only [Nat.reduceBEq,ql9,qc5,qc1,qi7,go_sem,seval])|intro (K:St→Prop) hK|intro hc|(refine Gf 99 ?_ ?_ ?_ ?_<;>try exact VX)|fail));refine kj (Lib.compact ys) rfl aR aR rfl (fun _=>rfl) (fun _=>rfl) (by rw [hr2])
end
section
set_option maxRecDepth 10000
attribute [local irreducible] dP fv mu lV dj PV ff ew AW bm da en dQ cX Ab.Fin fi er gF iN RV kh Le eV fL ma iG kM dJ dt
set_option maxHeartbeats 8000000
theorem RD (L:Int) (h0L:0≤L) (hL:L≤24) (S:fp) (all:Int) (c:SSet) (hc:Sg L c) (h:nX L S) (hv:Vd S.ns all) (hb:S.ns.length+1200+CU+CU≤DB) :
 cX prog 68 [.ptr 702 0,c.av] (Om L S all) [] [702,700] (fun x hp=>x= .bool (x8 L all c S).2∧hp=Om L (x8 L all c S).1 all):=by
 have r1:=ue h0L hL hc h;have c1:=Db L h0L hL S all c hc h ak;have hR:x8 L all c S=(let x:=oN L c S;let y:=AU L x.1 all;let z:=gK L 0 y.1 x.2 y.2;(z.1,decide (z.2=0))):=rfl;simp only at hR;generalize oN L c S=x at *;have g1:=r1.gr.len;have hb2:=sN r1.ok.no h0L (r1.gr.vd hv);have r2:=sO h0L L.toNat x.1 Ky all r1.ok (E0 h0L) (r1.gr.vd hv) ak;have c2:=Rq L h0L hL x.1 all r1.ok (r1.gr.vd hv) ak;have ey:(lR L.toNat x.1 Ky all).1.1=(AU L x.1 all).1∧(lR L.toNat x.1 Ky all).2=(AU L x.1 all).2:=⟨rfl,rfl⟩
 generalize hy:AU L x.1 all=y at *;have k1:=r2.ok;have k2:=r2.vd;have k3:=r2.gr;rw [ey.1] at k1 k2 k3;rw [ey.2] at k2;have g2:=k3.len;have hp:=sL hL;have c3:=A8 L h0L hL y.1 x.2 y.2 k1 (k3.vd r1.vd) k2 ak;generalize gK L 0 y.1 x.2 y.2=z at *;rw [hR];refine cA func68 ntmps68 ?_;refine Gx 1 (fun K hK=>?_) VX VX VX;(refine cE (bR 3 rfl rfl rfl) ?_;simp only [go_sem,seval]);refine pM [.ptr 702 0,.ptr 702 0,.ptr 702 0,.ptr 700 0,.ptr 702 0,c.av,.int x.2,.ptr 702 0,.ptr 702 0,.ptr 702 0,.ptr 700 0,.ptr 702 0,.ptr 702 0,.ptr 702 1,.int all,.int y.2,.int z.2,.bool (decide (z.2=0)),.bool (decide (z.2=0))] [[0],[5],[6],[7],[0],[3],[9,10],[0],[12],[13],[14],[0],[16],[17],[18],[15,19],[8,11,20],[21],[22]] [6,15,16] [(0,0),(0,1),(0,2),(1,0),(1,1),(1,2),(2,0),(2,1),(2,2),(3,0),(3,1),(3,2),(4,0),(5,0),(7,0),(7,1),(8,0),(8,1),(9,0),(9,1),(10,0),(10,1),(11,0),(11,1),(12,0),(12,1),(13,0),(13,1),(14,0),(14,1),(17,3),(18,3)] [fun h=>Om L x.1 all++fT (bl (Om L S all)++[]) [702,700] h,fun h=>kF L y.1++fT (bl (kF L x.1)++[]) [700] h,fun h=>kF L z.1++fT (bl (kF L y.1)++[]) [700] h] aR ai aD (all_cons ⟨_,rfl,rfl,aG⟩ (all_cons ⟨_,rfl,rfl,aG⟩ (all_cons ⟨_,rfl,rfl,aG⟩ (all_cons ⟨_,rfl,rfl,ax⟩ (all_cons ⟨_,rfl,rfl,ax⟩ (all_cons ⟨_,rfl,rfl,ax⟩ (all_cons ⟨_,rfl,rfl,aj⟩ (all_cons ⟨_,rfl,rfl,aj⟩ (all_cons ⟨_,rfl,rfl,aj⟩ (all_cons ⟨_,rfl,rfl,ab⟩ (all_cons ⟨_,rfl,rfl,ab⟩ (all_cons ⟨_,rfl,rfl,ab⟩ (all_cons ⟨_,rfl,rfl,aG⟩ (all_cons ⟨_,rfl,rfl,ab⟩ (all_cons ⟨_,rfl,rfl,aG⟩ (all_cons ⟨_,rfl,rfl,aG⟩ (all_cons ⟨_,rfl,rfl,ax⟩ (all_cons ⟨_,rfl,rfl,ax⟩ (all_cons ⟨_,rfl,rfl,aj⟩ (all_cons ⟨_,rfl,rfl,aj⟩ (all_cons ⟨_,rfl,rfl,ab⟩ (all_cons ⟨_,rfl,rfl,ab⟩ (all_cons ⟨_,rfl,rfl,aG⟩ (all_cons ⟨_,rfl,rfl,aG⟩ (all_cons ⟨_,rfl,rfl,ax⟩ (all_cons ⟨_,rfl,rfl,ax⟩ (all_cons ⟨_,rfl,rfl,aj⟩ (all_cons ⟨_,rfl,rfl,aj⟩ (all_cons ⟨_,rfl,rfl,ab⟩ (all_cons ⟨_,rfl,rfl,ab⟩ (all_cons ⟨_,rfl,rfl,(by first|exact jX (uP aR aR) aR|exact jX (pe aR aR) aR|exact jX (ph aR aR ai) aR)⟩ (all_cons ⟨_,rfl,rfl,(by first|exact jX (dn) aR)⟩ all_nil)))))))))))))))))))))))))))))))) (eC (fun f hfl hU hfm K1 hK1=>⟨_,rfl,rfl,(by (refine bL (by rw [fE hU aR];exact c1) au (fun _ h=>by cases h) aR (fun x hp' hx=>?_);obtain ⟨rfl,rfl⟩:=hx;rw [fW hfm aA aA];exact hK1))⟩) (eC (fun f hfl hU hfm K1 hK1=>⟨_,rfl,rfl,(by (refine bL (by rw [fE hU aR];exact c2) au (fun _ h=>by cases h) aR (fun x hp' hx=>?_);obtain ⟨rfl,rfl⟩:=hx;rw [fW hfm aA aA];exact hK1))⟩) (eC (fun f hfl hU hfm K1 hK1=>⟨_,rfl,rfl,(by (refine bL (by rw [fE hU aR];exact c3) au (fun _ h=>by cases h) aR (fun x hp' hx=>?_);obtain ⟨rfl,rfl⟩:=hx;rw [fW hfm aA aA];exact hK1))⟩) pI))) ?_;simp only [go_sem,seval,dy,bl,F4,qb8,qf1];refine Go ?_ VX VX VX;exact VZ
end
section
set_option maxRecDepth 10000
attribute [local irreducible] PV ff ew AW bm da en dQ Ab.Fin fi er gF RV kh Le eV fL ma iG kM dJ dt
set_option maxHeartbeats 2000000
theorem Dn (s p:List Int) (hs:s.Pairwise (· < ·)) (hp:p.Pairwise (· < ·)):bm prog 127 [ints s,ints p] (fun r=>r= .bool (dX p s)):=by
 have hs':=qh9.1 hs;have hp':=qh9.1 hp;refine bc func127 ntmps127 ?_;(refine bU (i:=0) rfl (fun hb=>?_);(try simp only [qa2] at hb));(refine bU (i:=1) rfl (fun hb1=>?_);(try simp only [qa2] at hb1));refine Go (fun K hK=>?_) VX VX VX;refine ba [4,5,7,10,11,12,13,14,15,16,17,18,19,20,21,22,23,24,25,26,27,28,29,30,31,32,33,34,35,36,37,38,39,40] (fun q:Nat×Nat=>q.1≤p.length∧q.2≤s.length∧(∀ j (hj:j < p.length),j < q.1→hasB s p[j]=true)∧∀ a (ha:a < s.length),a < q.2→∀ j (hj:j < p.length),q.1≤j→s[a] < p[j]) (fun q=>p.length - q.1) (fun q=>[(10,.int q.1),(5,.int q.2)]) (fun _=>[]) (0,0) ⟨by simp,by simp,by simp,by simp⟩ ?_ ?_
 ·refine bA ?_
  exact aZ
 rintro ⟨k,i⟩ ⟨hk,hi,hn,hl⟩ K hK;simp only at hk hi hn hl;refine bA ?_;by_cases hlt:k < p.length
 ·refine Go (fun _ hc K hK K hK=>?_) VX VX VX
  refine ba [5,14,15,16,17,18,19,20,21,22,23,24,25,26,27] (fun i:Nat=>i≤s.length∧∀ a (ha:a < s.length),a < i→∀ j (hj:j < p.length),k≤j→s[a] < p[j]) (fun i=>s.length - i) (fun i=>[(5,.int i)]) (fun _=>[]) i ⟨hi,hl⟩ ?_ ?_
  ·refine bA ?_
   exact aZ
  clear hi hl;rintro i ⟨hi,hl⟩ K hK;refine bA ?_;by_cases hit:i < s.length
  ·have hnf:s[i] < p[k]→∀ a (ha:a < s.length),a < i+1→∀ j (hj:j < p.length),k≤j→s[a] < p[j]:=fun hc a ha hai j hj hkj=>by
    rcases qc4 a i with h|h
    ·exact hl a ha h j hj hkj
    obtain rfl:a=i:=by omega
    rcases qc4 k j with h2|h2
    ·have:=hp' k j hlt hj h2;omega
    obtain rfl:j=k:=by omega
    exact hc
   have hno:p[k] < s[i]→hasB s p[k]=false:=fun hc=>by
    rw [ky];intro hm;obtain ⟨a,ha,he⟩:=qa9 hm;rcases qc4 a i with h|h
    ·have:=hl a ha h k hlt (qb3 _);omega
    rcases qc4 i a with h2|h2
    ·have:=hs' i a hit ha h2;omega
    obtain rfl:a=i:=by omega
    omega
   refine iy (fun _ hc hc=>?_) (fun _ _ hc hc hc hc K hK=>?_) (fun _ _ hc hc hc hc K hK=>?_) VX
   ·refine ⟨i+1,⟨by omega,hnf aE⟩,by omega,?_⟩
    refine bA ?_;exact aZ
   ·refine VY ?_
    rw [show dX p s=false from A0 hlt (hno ak)]
   refine ⟨(k+1,i),⟨by simp only;omega,by simp only;omega,?_,?_⟩,by simp only;omega,?_⟩
   ·intro j hj hjk
    rcases qc4 j k with h|h
    ·exact hn j hj h
    obtain rfl:j=k:=by simp only at hjk;omega
    rw [ev,← hc];exact qa4 hit
   ·exact fun a ha hai j hj hkj=>hl a ha hai j hj (by simp only at hkj;omega)
   refine bA ?_;exact aZ
  obtain rfl:i=s.length:=by omega
  have hno:hasB s p[k]=false:=by rw [ky];intro hm;obtain ⟨a,ha,he⟩:=qa9 hm;have:=hl a ha ha k hlt (qb3 _);omega
  refine iy (fun hc hc K hK=>?_) VX VX VX;refine VY ?_;rw [show dX p s=false from A0 hlt hno]
 obtain rfl:k=p.length:=by omega
 refine iy (fun hc K hK=>?_) VX VX VX;refine VY ?_;rw [show dX p s=true from AZ hn (qb3 _)]
theorem uv (s p:List Int) (n m:Int) (hs:isSet s n=true) (hp:isSet p m=true):bm prog 127 [ints s,ints p] (fun r=>r= .bool (dX p s)):=Dn s p (ct.1 hs).2 (ct.1 hp).2
theorem Qj {t:Task} (hw:xZ t) {x:Int} (hx:0≤x∧x < t.ops.length):∃ h:x.toNat < t.ops.length,t.ops[x.toNat]! =t.ops[x.toNat]∧isSet t.ops[x.toNat].pre t.facts=true∧isSet t.ops[x.toNat].add t.facts=true∧isSet t.ops[x.toNat].del t.facts=true:=by
 have h:x.toNat < t.ops.length:=by omega
 obtain ⟨p1,p2,p3,_⟩:=Ia (hw.ops _ (qa4 h)).1;exact ⟨h,bq h,p1,p2,p3⟩
theorem RE (t:Task) (s:List Int) (x:Int) (hw:xZ t) (hs:isSet s t.facts=true) (hx:0≤x∧x < t.ops.length):bm prog 177 [t.av,ints s,.int x] (fun r=>r= .bool (dX (t.ops[x.toNat]!).pre s)):=by
 obtain ⟨h,hg,p1,p2,p3⟩:=Qj hw hx;have h40:=hw.P9;rw [hg];refine bc func177 ntmps177 ?_;(repeat' (first|refine gC 127 ?_;refine bg (uv _ _ _ _ hs p1) ?_|intro (K:St→Prop) hK|intro hc|(refine Gf 99 ?_ ?_ ?_ ?_<;>try exact VX)|fail));refine VY ?_;rfl
theorem Gy {s:List Int} {n:Int} (hs:isSet s n=true) (h0:0≤n) (h24:n≤24):s.length≤1000:=by
 have:=Ib hs h0;omega
theorem OE (t:Task) (s:List Int) (x:Int) (hw:xZ t) (hs:isSet s t.facts=true) (hx:0≤x∧x < t.ops.length):bm prog 178 [t.av,ints s,.int x] (fun r=>r=ints (bF t.facts s t.ops[x.toNat]!)):=by
 obtain ⟨h,hg,p1,p2,p3⟩:=Qj hw hx;have h40:=hw.P9;rw [hg,← Kq hw.f0 hs p2];have l1:=Gy hs hw.f0 hw.f1;have l2:=Gy p2 hw.f0 hw.f1;have hd:=(ct.1 p3).2;refine bc func178 ntmps178 ?_;(repeat' (first|refine gC 137 ?_;refine bg (rC _ _ _ l1 l2 hd) ?_|intro (K:St→Prop) hK|intro hc|(refine Gf 99 ?_ ?_ ?_ ?_<;>try exact VX)|fail));refine VY ?_;rfl
end
section
set_option maxRecDepth 10000
attribute [local irreducible] PV ff ew AW bm da en Ab.Fin fi er gF RV kh Le eV fL ma iG kM dJ dt
set_option maxHeartbeats 2000000
theorem sU (t:Task) (s:List Int) (i:Nat) (hi:i < t.ops.length) (h40:t.ops.length≤40):bm prog 78 [t.av,ints s,.int i] (fun r=>r= .bool (dX (t.ops[i]!).pre s)):=by
 rw [bq hi];refine bc func78 ntmps78 ?_;(repeat' (first|refine gC 77 ?_;refine bg (oO _ _) ?_|refine bu (fun K hK=>?_);(first|refine bt (cf aR aR az) ?_|refine bt (cQ aR aR az) ?_)|intro (K:St→Prop) hK|intro hc|(refine yJ 99 ?_ ?_ ?_ ?_<;>try exact VX)|fail));refine VY ?_;rfl
variable {s:List Int} {k:Nat}
theorem Ls {o:Op}:(rL o s k).length≤k:=by
 unfold rL;have:=qh8 (CO o s) (sK k);simp only [sK,qa2,List.length_range] at this;exact this
theorem yp (t:Task) (s:List Int) (i:Nat) (hi:i < t.ops.length) (h40:t.ops.length≤40) (h0:0≤t.facts) (h24:t.facts≤24):bm prog 79 [t.av,ints s,.int i] (fun r=>r=ints (bF t.facts s t.ops[i]!)):=by
 obtain ⟨n,hn⟩:=Int.eq_ofNat_of_zero_le h0;rw [bq hi];unfold bF;rw [show t.facts.toNat=n by omega];refine bc func79 ntmps79 ?_;(repeat' (first|refine gC 148 ?_;refine bg (vk _ _) ?_|refine bu (fun K hK=>?_);(first|refine bt (cf aR aR az) ?_|refine bt (cQ aR aR az) ?_|refine ck ?_|refine xw 39 42 1 8 3 ?_;refine ck ?_)|intro (K:St→Prop) hK|intro hc|(refine yJ 99 ?_ ?_ ?_ ?_<;>try exact VX)|fail));refine fD 7 100 1 8 3 ?_;refine ba [7,8,9,10,11,12,13,14,15,16,17,18,19,20,21,22,23,24,25,26,27,28,29,30,31,32,33,34,35,36,37,38,39,40,41,42] (fun k:Nat=>k≤n) (fun k=>n - k) (fun k=>[(8,.int k),(7,.sl 1 8 100 0 (rL t.ops[i] s k).length)]) (fun k=>[(3,⟨38,t.cs,true⟩),(100,⟨3,(rL t.ops[i] s k).map AV.int,false⟩)]) 0 ak ?_ ?_
 ·rw [Ic]
  refine bA ?_;exact aZ
 rintro k hk K hK;refine bA ?_;have hl:=Ls (o:=t.ops[i]) (s:=s) (k:=k);by_cases hlt:k < n
 ·(repeat' (first|refine gC 148 ?_;refine bg (vk _ _) ?_|refine bu (fun K hK=>?_);(first|refine bt (cf aR aR az) ?_|refine bt (cQ aR aR az) ?_|refine ck ?_|refine xw 39 42 1 8 3 ?_;refine ck ?_)|intro (K:St→Prop) hK|intro hc|(refine yJ 99 ?_ ?_ ?_ ?_<;>try exact VX)|fail))
  all_goals refine ⟨k+1,by omega,by omega,?_⟩
  all_goals first
   |(rw [Kl (by simp [CO, *])];(refine bA ?_);(exact aZ);done)
   |(rw [NU (by simp [CO, *])];(refine bA ?_);(exact aZ);done)
 obtain rfl:k=n:=by omega
 (repeat' (first|refine gC 148 ?_;refine bg (vk _ _) ?_|refine bu (fun K hK=>?_);(first|refine bt (cf aR aR az) ?_|refine bt (cQ aR aR az) ?_|refine ck ?_|refine xw 39 42 1 8 3 ?_;refine ck ?_)|intro (K:St→Prop) hK|intro hc|(refine yJ 99 ?_ ?_ ?_ ?_<;>try exact VX)|fail));refine kj (rL t.ops[i] s k) rfl aR aR rfl (fun _=>rfl) (fun _=>rfl) rfl
variable {xs:List Int}
theorem IA (h:k < xs.length):dm (xs.take (k+1))=dm (xs.take k)+2 ^ xs[k].toNat:=by
 rw [qa5 h,tV];simp [dm]
theorem Bk:∀ (k:Nat),dm (xs.take k)≤dm xs:=fun k=>by
 have h:=tV (xs.take k) (xs.drop k);rw [qk3] at h;omega
abbrev Tx (l:List (List Int)):AV:=.cD 1 24 (l.map fun x=>ints x)
def U0 (t:Task) (l:List (List Int)) (j q:Nat):Prop:=∀ p,p < q→dX (t.ops[p]!).pre l[j]! =true→bF t.facts l[j]! t.ops[p]!∈l
structure RI (t:Task) (s:List Int) (i:Nat) (l:List (List Int)):Prop where
 head:l[0]?=some s
 le:i≤l.length
 set:∀ x∈l,isSet x t.facts=true
 reach:∀ x∈l,vc t s x
 len:l.length≤2000
 nodup:l.Nodup
 cl:∀ j,j < i→U0 t l j t.ops.length
theorem RI.step {t:Task} {i q:Nat} {l:List (List Int)} (h:RI t s i l) (hi:i < l.length) (hq:q < t.ops.length) (hs:dX (t.ops[q]!).pre l[i]! =true):vc t s (bF t.facts l[i]! t.ops[q]!):=by
 refine (h.reach l[i]! ?_).step ?_ hs
 ·rw [bq hi];exact qa4 hi
 rw [bq hq];exact qa4 hq
@[go_sem] theorem Fj (id:Nat) (l:List (List Int)):AV.cG id (l.map fun x=>ints x)=l.map fun x=>ints x:=so id _ _ fun _=>rfl
@[go_sem] theorem Qk (id:Nat) (l:List (List Int)) (x:List Int):AV.cG id ((l.map fun x=>ints x)++[ints x])=(l.map fun x=>ints x)++[ints x]:=by
 rw [rW,Fj];rfl
end
section
def fZ (plan:List Int):List Nat:=plan.map Int.toNat
def jD (t:Task) (s:List Int) (plan:List Nat):Bool:=match iz t s plan with
 |some e=>dX t.goal e
 |none=>false
variable {plan:List Int} {k:Nat}
theorem IB (h:k < plan.length):fZ (plan.take (k+1))=fZ (plan.take k)++[plan[k].toNat]:=by
 unfold fZ;rw [qa5 h,qb5];rfl
theorem IC {t:Task} (h:k < plan.length) (hx:0≤plan[k]∧plan[k] < t.ops.length):ft t (fZ (plan.take (k+1)))=ft t (fZ (plan.take k))+(t.ops[plan[k].toNat]' ak).cost:=by
 have hl:plan[k].toNat < t.ops.length:=by omega
 rw [IB h,CR,ft,ft,qa7 hl];simp
end
section
set_option maxRecDepth 10000
attribute [local irreducible] PV ff ew AW bm da en dQ Ab.Fin fi er gF RV kh Le eV fL ma iG kM dJ dt
set_option maxHeartbeats 4000000
def mV (t:Task):List Int→List Int→List (List Int)
 |s,[]=>[s]
 |s,x::r=>if dX (t.ops[x.toNat]!).pre s then s::mV t (bF t.facts s t.ops[x.toNat]!) r else [s]
variable {t:Task} {s r:List Int} {x:Int}
theorem zR (h:dX (t.ops[x.toNat]!).pre s=false):mV t s (x::r)=[s]:=by rw [mV,h];rfl
theorem Gz (h:dX (t.ops[x.toNat]!).pre s=true):mV t s (x::r)=s::mV t (bF t.facts s t.ops[x.toNat]!) r:=by rw [mV,h];rfl
def uw (t:Task) (plan:List Int):Prop:=∀ x∈plan,0≤x∧x < t.ops.length
structure U1 (t:Task) (s plan:List Int) (k:Nat) (pre:List (List Int)) (u:List Int):Prop where
 le:k≤plan.length
 len:pre.length=k
 set:isSet u t.facts=true
 eq:mV t s plan=pre++mV t u (plan.drop k)
theorem RF (t:Task) (s plan:List Int) (hw:xZ t) (hs:isSet s t.facts=true) (hp:uw t plan) (h60:plan.length≤1000):bm prog 126 [t.av,ints s,ints plan] (fun r=>r=Tx (mV t s plan)):=by
 have h0:=hw.f0;refine bc func126 ntmps126 ?_;refine Gx 1 (fun K hK=>?_) VX VX VX;refine dU ?_;refine cn rfl (fun K1 hK1=>?_);refine bt jh ?_;simp only [go_sem,seval];refine hK1 _ ?_;clear hK1 K1;refine cn rfl (fun K1 hK1=>?_);refine cM (dk _) aR (fun x hx=>?_);obtain rfl:=hx;simp only [go_sem,seval];refine hK1 _ ?_;clear hK1 K1;refine cn rfl (fun K1 hK1=>?_);refine ka (kW (d:=12) ⟨by decide,by decide,by decide⟩ aR aR aR aR aR ?_);simp only [go_sem,seval];refine hK1 _ ?_;clear hK1 K1;refine DW ?_;refine Go (fun K hK=>?_) VX VX VX;refine ba (1::12::[1,7,9,15,16,17,18,19,20,21,22,23,24,25,26,27,28,29,30,31,32]) (fun q:Nat×Bool×List (List Int)×List Int=>U1 t s plan q.1 q.2.2.1 q.2.2.2) (fun q=>plan.length - q.1) (fun q=>[(15,.int q.1),(1,ints q.2.2.2),(7,.sl 1 24 12 0 (q.2.2.1++[q.2.2.2]).length)])
  (fun q=>[(3,⟨38,t.cs,true⟩),(12,⟨35,(q.2.2.1++[q.2.2.2]).map (fun x=>ints x),q.2.1⟩)]) (0,true,[],s) ⟨by simp,rfl,hs,by simp⟩ ?_ ?_
 ·refine bA ?_
  exact aZ
 rintro ⟨k,fl,pre,u⟩ ⟨hk,hpl,hu,he⟩ K hK;simp only at hk hpl hu he;refine bA ?_;by_cases hlt:k < plan.length
 ·have hx:=hp _ (qa4 hlt)
  have hst:=rq h0 u t.ops[plan[k].toNat]!;have hd:plan.drop k=plan[k]::plan.drop (k+1):=qe2 hlt;rw [hd] at he;(repeat' (first|refine gC 177 ?_;refine bg (RE _ _ _ hw hu hx) ?_|refine gC 178 ?_;refine bg (OE _ _ _ hw hu hx) ?_|refine bu (fun K hK=>?_);refine ck ?_|intro (K:St→Prop) hK|intro hc|(refine yJ 99 ?_ ?_ ?_ ?_<;>try exact VX)|fail))
  ·have hf:mV t s plan=pre++[u]:=by rw [he,zR aE]
   refine kj (f:=fun x=>ints x) (pre++[u]) rfl aR (by simp only [qb5,qd4,qg5];rfl) aC (fun _=>rfl) (fun _=>rfl) (by rw [hf])
  refine ⟨(k+1,false,pre++[u],bF t.facts u t.ops[plan[k].toNat]!),⟨by simp only;omega,by simp;omega,hst,by simp only;rw [he,Gz aE,qd6];rfl⟩,by simp only;omega,?_⟩;refine bA ?_;exact aZ
 obtain rfl:k=plan.length:=by omega
 refine iy (fun hc K hK=>?_) VX VX VX;have hf:mV t s plan=pre++[u]:=by rw [he,qi3];rfl
 refine kj (f:=fun x=>ints x) (pre++[u]) rfl aR (by simp only [qb5,qd4,qg5];rfl) aC (fun _=>rfl) (fun _=>rfl) (by rw [hf])
theorem zS {t:Task}:∀ (plan:List Int) (s:List Int),uw t plan→
 (∃ e,iz t s (fZ plan)=some e∧(mV t s plan).length=plan.length+1∧(mV t s plan)[plan.length]?=some e)∨(iz t s (fZ plan)=none∧(mV t s plan).length≤plan.length)
 |[],s,_=>.inl ⟨s,rfl,rfl,rfl⟩
 |x::r,s,hp=>by
  have hx:=hp x aC;have hlt:x.toNat < t.ops.length:=by omega
  have hg:t.ops[x.toNat]! =t.ops[x.toNat]:=bq hlt;have e:iz t s (fZ (x::r))=if dX t.ops[x.toNat].pre s then iz t (bF t.facts s t.ops[x.toNat]) (fZ r) else none:=by show iz t s (x.toNat::fZ r)=_;rw [iz,qa7 hlt]
  cases hs:dX (t.ops[x.toNat]!).pre s with
  |false=>
   rw [zR hs];rw [hg] at hs;rw [e,hs];exact .inr ⟨rfl,by simp⟩
  |true=>
   rw [Gz hs];rw [hg] at hs ⊢;rw [e,hs];simp only [if_true,qb8,qb2];rcases zS r (bF t.facts s t.ops[x.toNat]) (fun y hy=>hp y (by simp [hy])) with ⟨d,h1,h2,h3⟩|⟨h1,h2⟩
   ·exact .inl ⟨d,h1,by omega,h3⟩
   exact .inr ⟨h1,by omega⟩
theorem Dp {t:Task} (h0:0≤t.facts):∀ (plan:List Int) (s:List Int),isSet s t.facts=true→∀ u∈mV t s plan,isSet u t.facts=true
 |[],s,hs,u,hu=>by rw [mV,qd7] at hu;rw [hu];exact hs
 |x::r,s,hs,u,hu=>by
  rw [mV] at hu;split at hu
  ·rcases qc2.1 hu with rfl|hu
   ·exact hs
   exact Dp h0 r _ (rq h0 _ _) u hu
  rw [qd7] at hu;rw [hu];exact hs
theorem Lt (t:Task) (s plan:List Int) (hw:xZ t) (hs:isSet s t.facts=true) (hp:uw t plan) (h60:plan.length≤1000):bm prog 60 [t.av,ints s,ints plan] (fun r=>r= .bool (jD t s (fZ plan))):=by
 have hgs:=hw.goal;have hall:=Dp hw.f0 plan s hs;have hrun:=RF t s plan hw hs hp h60;rcases zS plan s hp with ⟨e,h1,h2,h3⟩|⟨h1,h2⟩
 ·have hlt:plan.length < (mV t s plan).length:=by omega
  have he:(mV t s plan)[plan.length]=e:=by rw [qa7 hlt,qd9] at h3;exact h3
  have hes:isSet (mV t s plan)[plan.length] t.facts=true:=hall _ (qa4 hlt);have hw2:jD t s (fZ plan)=dX t.goal (mV t s plan)[plan.length]:=by rw [jD,h1,he]
  rw [hw2];clear h3 he hw2;generalize mV t s plan=l at *;refine bc func60 ntmps60 ?_;(repeat' (first|refine gD 2 ?_;refine Wg ?_|refine gC 126 ?_;refine bg (hrun) ?_|refine dH 127 ?_;refine bB (uv _ _ _ _ hes hgs) ?_|intro (K:St→Prop) hK|intro hc|(refine rh 99 ?_ ?_ ?_ ?_<;>try exact VX)|fail))
  all_goals (refine VY ?_)
  all_goals rfl
 have hw2:jD t s (fZ plan)=false:=by rw [jD,h1]
 rw [hw2];generalize mV t s plan=l at *;refine bc func60 ntmps60 ?_;(repeat' (first|refine gD 2 ?_;refine Wg ?_|refine gC 126 ?_;refine bg (hrun) ?_|intro (K:St→Prop) hK|intro hc|(refine rh 99 ?_ ?_ ?_ ?_<;>try exact VX)|fail))
 all_goals (refine VY ?_)
 all_goals rfl
theorem Lu {p:Int×Int} (e:cK t=p):bm prog 128 [t.av] (fun r=>r=jA p):=by
 have:=qL t;rw [e] at this;exact this
end
section
set_option maxRecDepth 10000
set_option maxHeartbeats 4000000
structure n9 where
 st:List Int
 val:Int
def lI:List n9→List (Int×Int)→List (Int×Int)
 |[],kv=>kv
 |e::r,kv=>lI r (kK kv ((dm e.st:Nat):Int) e.val)
def Lv (kv:List (Int×Int)) (s:List Int):Int:=(lk kv ((dm s:Nat):Int)).getD 0
def ID (t:Task) (kv:List (Int×Int)) (s:List Int):Nat→Int
 |0=>1000000000
 |k+1=>if dX (t.ops[k]!).pre s=true then min (ID t kv s k) ((t.ops[k]!).cost+Lv kv (bF t.facts s t.ops[k]!)) else ID t kv s k
def pU (t:Task) (kv:List (Int×Int)) (s:List Int):Int:=if dX t.goal s=true then 0 else ID t kv s t.ops.length
def oT (t:Task) (kv:List (Int×Int)) (tb:List n9):Bool:=tb.all fun e=>!decide (pU t kv e.st < e.val)
theorem Bl:∀ (tb:List n9) (kv:List (Int×Int)) (w v:Int),lk (lI tb kv) w=some v→lk kv w=some v∨∃ e∈tb,((dm e.st:Nat):Int)=w∧e.val=v
 |[],kv,w,v,h=>.inl h
 |e::r,kv,w,v,h=>by
  rcases Bl r _ w v h with h1|⟨x,hx,h2⟩
  ·rw [lf] at h1
   split at h1
   ·rename_i e1
    injection h1 with h1
    exact .inr ⟨e,by simp,e1.symm,h1⟩
   exact .inl h1
  exact .inr ⟨x,by simp [hx],h2⟩
theorem Dq:∀ {s:List Int},s.Pairwise (· < ·)→(∀ x∈s,0≤x)→∀ i:Nat,(dm s).testBit i=hasB s (i:Int)
 |[],_,_,i=>by simp [dm,hasB]
 |x::r,hp,h0,i=>by
  have hpr:=qk5.1 hp;have ih:=Dq hpr.2 (fun y hy=>h0 y (by simp [hy])) i;have hx:=h0 x aC;obtain ⟨q,hq⟩:=tU (m:=x.toNat+1) (l:=r) fun y hy=>by have:=hpr.1 y hy;omega
  have hlt:2 ^ x.toNat < 2 ^ (x.toNat+1):=Nat.pow_lt_pow_right ak ak;have e:dm (x::r)=2 ^ (x.toNat+1) * q||| 2 ^ x.toNat:=by rw [← Nat.two_pow_add_eq_or_of_lt hlt,dm,hq,Nat.add_comm]
  rw [e,ql6,← hq,ih,ql3];have hc:hasB (x::r) (i:Int)=(decide (x.toNat=i)|| hasB r (i:Int)):=by rw [qf7,qe0,ev,ev,decide_eq_true_iff,qc2];exact or_congr_left ak
  rw [hc,Bool.or_comm]
variable {s:List Int} {n:Int}
theorem mm (h:isSet s n=true) (i:Nat):(dm s).testBit i=hasB s (i:Int):=Dq (ct.1 h).2 (fun x hx=>((ct.1 h).1 x hx).1) i
theorem ln (h:isSet s n=true) (hn:n≤24):dm s < 2 ^ 24:=by
 refine Gg (n:=24) (ct.1 h).2 fun x hx=>?_;have:=(ct.1 h).1 x hx;omega
theorem GA {p:List Int} (hs:isSet s n=true) (hp:isSet p n=true):dm s&&&dm p=dm p↔dX p s=true:=by
 rw [lC];constructor
 ·intro h x hx
  have h0:=(ct.1 hp).1 x hx;have h1:=congrArg (fun z=>z.testBit x.toNat) h;simp only [Nat.testBit_and,mm hs,mm hp,qg3 h0.1] at h1;rw [(ev p x).mpr hx,Bool.and_true] at h1;exact (ev s x).mp h1
 intro h;apply Nat.eq_of_testBit_eq;intro i;rw [Nat.testBit_and,mm hs,mm hp];cases hq:hasB p (i:Int) with
 |false=>simp
 |true=>rw [(ev s _).mpr (h _ ((ev p _).mp hq))];rfl
variable {o:Op}
theorem IE (h0:0≤n) (hn:n≤24) (hs:isSet s n=true) (ho:mj o n=true):dm s&&&(4294967295 - dm o.del)||| dm o.add=dm (bF n s o):=by
 unfold mj at ho;simp only [qa1] at ho;obtain ⟨⟨⟨o1,o2⟩,o3⟩,o4⟩:=ho;have hd:=ln o3 hn;apply Nat.eq_of_testBit_eq;intro i;have e:4294967295 - dm o.del=2 ^ 32 - (dm o.del+1):=by omega
 rw [ql6,Nat.testBit_and,mm hs,mm o2,mm (rq h0 s o),e,Nat.testBit_two_pow_sub_succ ak,mm o3];have hlt:∀ {l:List Int},isSet l n=true→hasB l (i:Int)=true→i < 24∧(i:Int) < n:=fun hl hi=>by
  have:=(ct.1 hl).1 _ ((ev _ _).mp hi);omega
 rw [qf7,ev,pN];simp only [qe0,qa1,decide_eq_true_iff,qb7,ev,ky];constructor
 ·rintro (⟨h1,h2,h3⟩|h1)
  ·have:=hlt hs ((ev _ _).mpr h1);exact ⟨by omega,.inr ⟨h1,h3⟩⟩
  have:=hlt o2 ((ev _ _).mpr h1);exact ⟨by omega,.inl h1⟩
 rintro ⟨h1,h2|⟨h2,h3⟩⟩
 ·exact .inr h2
 have:=hlt hs ((ev _ _).mpr h2);exact .inl ⟨h2,by omega,h3⟩
theorem Ql {a b:Nat} (ha:a < 2 ^ 24) (hb:b < 2 ^ 24):bits .and .u32 (a:Int) (b:Int)=((a&&&b:Nat):Int):=(bits_nat .u32 32 aB rj a b ak ak).1
theorem RG (h0:0≤n) (hn:n≤24) (hs:isSet s n=true) (ho:mj o n=true):
 bits .or .u32 (bits .andNot .u32 ((dm s:Nat):Int) ((dm o.del:Nat):Int)) ((dm o.add:Nat):Int)=((dm (bF n s o):Nat):Int):=by
 have h1:=ln hs hn;have ho':=ho;unfold mj at ho';simp only [qa1] at ho';have h2:=ln ho'.1.2 hn;have h3:=ln ho'.1.1.2 hn;have h4:dm s&&&(4294967295 - dm o.del) < 2 ^ 24:=Nat.lt_of_le_of_lt Nat.and_le_left h1;rw [u32_andNot_nat _ _ ak ak];rw [(bits_nat .u32 32 aB rj _ (dm o.add) ak ak).2,IE h0 hn hs ho]
end
section
set_option maxRecDepth 10000
attribute [local irreducible] dP fv mu lV dj PV ff ew AW bm da en dQ cX Ab.Fin fi er gF iN RV kh Le eV fL ma iG kM dJ dt
set_option maxHeartbeats 8000000
abbrev wh (l:List SSet):AV:=.cD 2 48 (l.map SSet.av)
instance:Inhabited SSet:=⟨⟨[],[]⟩⟩
def BF (L:Int) (c:SSet):Bool:=isSet c.eM L&&isSet c.no L&&kx c.eM c.no
def nM (L:Int) (l:List SSet) (i:Nat):Option (Int×Int):=if BF L l[i]! =true then none else some (5,(i:Int))
def ju (t:Task) (l:List SSet):Int×Int:=if cK t≠(0,0) then cK t else if 2000 < l.length then (2,-8) else (bx (nM t.facts l) l.length).getD (0,0)
theorem jd {α:Type} {g:Nat→Option α}:∀ {n k:Nat},bx g n=none→k < n→g k=none
 |0,k,_,h=>by omega
 |n+1,k,hn,h=>by
  rw [bx,Option.or_eq_none_iff] at hn;by_cases e:k=n
  ·subst e;exact hn.2
  exact jd hn.1 ak
variable {t:Task} {l:List SSet}
theorem OF (h:ju t l=(0,0)):xZ t∧l.length≤2000∧∀ c∈l,Gh t.facts c:=by
 unfold ju at h;split at h
 ·rename_i h1;exact absurd h h1
 rename_i h1;split at h
 ·simp at h
 rename_i h2;refine ⟨iJ.1 (qg1.1 h1),by omega,fun c hc=>?_⟩;cases hf:bx (nM t.facts l) l.length with
 |some q=>
  rw [hf] at h;simp only [qf3] at h;subst h;obtain ⟨i,_,hg⟩:=dh hf;unfold nM at hg;split at hg<;>simp at hg
 |none=>
  obtain ⟨i,hi,rfl⟩:=qa9 hc;have h3:=jd hf hi;unfold nM at h3;rw [bq hi] at h3;split at h3
  ·rename_i h4
   unfold BF at h4;simp only [qa1] at h4;exact ⟨h4.1.1,h4.1.2⟩
  cases h3
theorem zT (h:ju t l≠(0,0)):(ju t l).1≠0:=by
 unfold ju at h ⊢;split
 ·rename_i h1;exact wR h1
 rename_i h1;rw [if_neg h1] at h;split
 ·simp
 rename_i h2;rw [if_neg h2] at h;cases hf:bx (nM t.facts l) l.length with
 |none=>rw [hf] at h;exact absurd rfl h
 |some q=>
  obtain ⟨i,_,hg⟩:=dh hf;unfold nM at hg;split at hg
  ·cases hg
  injection hg with hg;subst hg;simp
theorem GB (t:Task) (l:List SSet):bm prog 61 [t.av,wh l] (fun r=>r=jA (ju t l)):=by
 by_cases hf:cK t=(0,0)
 ·have hv:=Lu hf
  by_cases h2:2000 < l.length
  ·have e:ju t l=(2,-8):=by unfold ju;rw [if_neg (by simp [hf]),if_pos h2]
   rw [e];refine bc func61 ntmps61 ?_;(refine bU (i:=1) rfl (fun hb=>?_);(try simp only [qa2] at hb));(repeat' (first|refine gC 128 ?_;refine bg (hv) ?_|intro (K:St→Prop) hK|intro hc|(refine Gf 99 ?_ ?_ ?_ ?_<;>try exact VX)|fail))
   all_goals (refine V0 ?_)
   all_goals rfl
  have e:ju t l=(bx (nM t.facts l) l.length).getD (0,0):=by unfold ju;rw [if_neg (by simp [hf]),if_neg h2]
  rw [e];refine bc func61 ntmps61 ?_;(refine bU (i:=1) rfl (fun hb=>?_);(try simp only [qa2] at hb));(repeat' (first|refine gC 128 ?_;refine bg (hv) ?_|intro (K:St→Prop) hK|intro hc|(refine Gf 99 ?_ ?_ ?_ ?_<;>try exact VX)|fail));refine ba [6,7,20,21,22,23,24,25,26,27,28,29,30,31,32,33,34,35,36,37,38,39,40,41,42,43,44,45,46,47,48] (fun k:Nat=>k≤l.length∧bx (nM t.facts l) k=none) (fun k=>l.length - k) (fun k=>[(20,.int k)]) (fun _=>[(2,⟨38,t.cs,true⟩),(4,⟨42,[.int 0,.int 0],true⟩)]) 0 ⟨by omega,rfl⟩ ?_ ?_
  ·refine bA ?_
   exact aZ
  rintro k ⟨hk,hn⟩ K hK;refine bA ?_;by_cases hlt:k < l.length
  ·have e1:=mQ l[k].eM t.facts
   have e2:=mQ l[k].no t.facts;have hg:nM t.facts l k=if BF t.facts l[k]=true then none else some (5,(k:Int)):=by unfold nM;rw [bq hlt]
   cases h1:isSet l[k].eM t.facts with
   |false=>
    rw [h1] at e1;rw [BF,h1,if_neg aC] at hg;(repeat' (first|refine gC 129 ?_;refine bg (e1) ?_|intro (K:St→Prop) hK|intro hc|(refine Gf 99 ?_ ?_ ?_ ?_<;>try exact VX)|fail));refine V0 ?_;rw [cp hn hg hlt];rfl
   |true=>
    rw [h1] at e1;cases h2:isSet l[k].no t.facts with
    |false=>
     rw [h2] at e2;rw [BF,h2,if_neg aC] at hg;(repeat' (first|refine gC 129 ?_;refine bg (e1) ?_|refine gC 129 ?_;refine bg (e2) ?_|intro (K:St→Prop) hK|intro hc|(refine Gf 99 ?_ ?_ ?_ ?_<;>try exact VX)|fail));refine V0 ?_;rw [cp hn hg hlt];rfl
    |true=>
     rw [h2] at e2;have e3:=rA l[k].eM l[k].no t.facts h2;cases h3:kx l[k].eM l[k].no with
     |false=>
      rw [h3] at e3;rw [BF,h3,if_neg aC] at hg;(repeat' (first|refine gC 129 ?_;refine bg (e1) ?_|refine gC 129 ?_;refine bg (e2) ?_|refine gC 66 ?_;refine bg (e3) ?_|intro (K:St→Prop) hK|intro hc|(refine Gf 99 ?_ ?_ ?_ ?_<;>try exact VX)|fail));refine V0 ?_;rw [cp hn hg hlt];rfl
     |true=>
      rw [h3] at e3;rw [BF,h1,h2,h3,if_pos aR] at hg;(repeat' (first|refine gC 129 ?_;refine bg (e1) ?_|refine gC 129 ?_;refine bg (e2) ?_|refine gC 66 ?_;refine bg (e3) ?_|intro (K:St→Prop) hK|intro hc|(refine Gf 99 ?_ ?_ ?_ ?_<;>try exact VX)|fail));(refine ⟨k+1,⟨by omega,cJ hn hg⟩,by omega,?_⟩;(refine bA ?_);(exact aZ))
  obtain rfl:k=l.length:=by omega
  refine iy (fun hc K hK=>?_) VX VX VX;refine V0 ?_;rw [hn];rfl
 have hac:=wR hf;have e:ju t l=cK t:=by unfold ju;rw [if_pos hf]
 rw [e];refine bc func61 ntmps61 ?_;(repeat' (first|refine gC 128 ?_;refine bg (qL _) ?_|intro (K:St→Prop) hK|intro hc|(refine Gf 99 ?_ ?_ ?_ ?_<;>try exact VX)|fail))
 all_goals (refine V0 ?_)
 all_goals rfl
theorem IF (a b:List Int) (ha:a.length≤1000) (hb:b.length≤1000):bm prog 138 [ints a,ints b] (fun r=>r=ints (oK a b [])):=by
 have hu:=ks (args':=[ints a,ints b,.fO]) (rC a b [] ha hb List.Pairwise.nil) ⟨iO.ic _,iO.ic _,iO.nil 1 8,trivial⟩;refine bc func138 ntmps138 ?_;(repeat' (first|refine gC 137 ?_;refine bg (hu) ?_|intro (K:St→Prop) hK|intro hc|(refine Gf 99 ?_ ?_ ?_ ?_<;>try exact VX)|fail));refine VY ?_;rfl
def RH:Option SSet→List AV
 |some nx=>[nx.av,.bool true]
 |none=>[.agg [.v (.slice none 0 0),.v (.slice none 0 0)],.bool false]
theorem Lw (L:Int) (h0L:0≤L) (hL:L≤24) (c:SSet) (o:Op) (hc:Gh L c) (ho:mj o L=true):bm prog 67 [c.av,o.av] (fun r=>r= .dC (RH (kz c o))):=by
 obtain ⟨n,rfl⟩:∃ n:Nat,L=n:=⟨L.toNat,by omega⟩
 have ho':=ho;unfold mj at ho';simp only [qa1] at ho';obtain ⟨⟨⟨o1,o2⟩,o3⟩,o4⟩:=ho';have q1:=nA hc.n;have q2:=nA hc.o;have q3:=nA o1;have q4:=nA o2;have q5:=nA o3;have e3:=rA o.pre c.no n hc.o;cases hd:kx o.pre c.no with
 |false=>
  rw [hd] at e3;have e:kz c o=none:=by unfold kz;rw [if_pos hd]
  rw [e];refine bc func67 ntmps67 ?_;(repeat' (first|refine gC 66 ?_;refine bg (e3) ?_|intro (K:St→Prop) hK|intro hc|(refine Gf 99 ?_ ?_ ?_ ?_<;>try exact VX)|fail));refine aY (Le.refl _) (du (bn af) (aW aR)) ae ?_;rfl
 |true=>
  rw [hd] at e3;have e:kz c o=some ⟨oK (oK c.eM o.pre []) o.add o.del,oK c.no o.del o.add⟩:=by unfold kz;rw [if_neg (by simp [hd])]
  have hu:=oL hc.n o1 (del:=[]);have q6:=nA hu;have c1:=IF c.eM o.pre ak ak;have c2:=rC (oK c.eM o.pre []) o.add o.del ak ak (ct.1 o3).2;have c3:=rC c.no o.del o.add ak ak (ct.1 o2).2;rw [e];generalize oK c.eM o.pre []=u at *;generalize oK u o.add o.del=v at *;generalize oK c.no o.del o.add=w at *;refine bc func67 ntmps67 ?_;(repeat' (first|refine gD 3 ?_;refine dK (.r 0 4 (.r 5 4 (.it 4 1 (.it 9 1 (.it 10 0 .nil))))) ?_|refine gC 66 ?_;refine bg (e3) ?_|refine dH 138 ?_;refine bB (c1) ?_|refine dH 137 ?_;refine bB (c2) ?_|refine gC 137 ?_;refine bg (c3) ?_|intro (K:St→Prop) hK|intro hc|(refine Gf 99 ?_ ?_ ?_ ?_<;>try exact VX)|fail));refine aY (Le.refl _) (du (bn af) (aW aR)) ae ?_;rfl
theorem lJ (xs:List Int) (n:Int) (hs:isSet xs n=true) (hn:n≤24):bm prog 65 [ints xs] (fun r=>r= .v (.int .u32 (dm xs:Nat))):=by
 have hb:=ln hs hn;have hm:=(ct.1 hs).1;refine bc func65 ntmps65 ?_;(refine bU (i:=0) rfl (fun hb0=>?_);(try simp only [qa2] at hb0));refine Go (fun K hK=>?_) VX VX VX;refine ba [3,5,8,9,10,11,12,13,14,15,16] (fun k:Nat=>k≤xs.length) (fun k=>xs.length - k) (fun k=>[(3,.v (.int .u32 (dm (xs.take k):Nat))),(8,.int k)]) (fun _=>[]) 0 ak ?_ ?_
 ·refine bA ?_
  exact aZ
 rintro k hk K hK;refine bA ?_;by_cases hlt:k < xs.length
 ·have h1:=hm xs[k] (qa4 hlt)
  have h2:=IA hlt;have h3:=Bk (xs:=xs) (k+1);have h4:dm (xs.take k) < 2 ^ xs[k].toNat:=Gg ((ct.1 hs).2.sublist (List.take_sublist ..)) fun x hx=>by
   have h5:=hm x (List.mem_of_mem_take hx);obtain ⟨i,hi,rfl⟩:=qa9 hx;rw [qc0] at hi;have:=qh9.1 (ct.1 hs).2 i k ak hlt ak;rw [List.getElem_take] at h5 ⊢;omega
  have h5:=yW h1.1 ak h4;rw [← h2] at h5;have e2:(1 * 2 ^ xs[k].toNat:Int)=((2 ^ xs[k].toNat:Nat):Int):=by rw [Int.one_mul,Int.natCast_pow];rfl
  have h6:(2 ^ xs[k].toNat:Nat) < 2 ^ 24:=Nat.pow_lt_pow_right aB ak;obtain ⟨g,hg⟩:∃ g:Nat,2 ^ xs[k].toNat=g:=⟨_,rfl⟩
  rw [hg] at e2 h6;refine Go (fun _ hc=>?_) VX VX VX;refine ⟨k+1,by omega,by omega,?_⟩;rw [← h5];refine bA ?_;exact aZ
 obtain rfl:k=xs.length:=by omega
 refine iy (fun hc K hK=>?_) VX VX VX;refine VY ?_;rw [qd2]
end
section
set_option maxRecDepth 10000
attribute [local irreducible] dP fv mu lV dj PV ff ew AW bm da en dQ cX Ab.Fin fi er gF iN RV kh Le eV fL ma iG kM dJ dt
set_option maxHeartbeats 16000000
theorem OG {t:Task} {l:List SSet} {p:Int×Int} (e:ju t l=p):bm prog 61 [t.av,wh l] (fun r=>r=jA p):=by
 have:=GB t l;rw [e] at this;exact this
theorem Lx (L:Int) (h0L:0≤L) (hL:L≤24) (w:Nat) (S:fp) (h:nX L S) (hw:w < 2 ^ 24) (hb:S.ns.length+24≤DB) :
 cX prog 64 [.ptr 700 0,.v (.int .u32 w)] (kF L S) [] [700] (fun x hp=>x= .int (lD (fun i=>w.testBit i) L.toNat S 1).2∧hp=kF L (lD (fun i=>w.testBit i) L.toNat S 1).1):=by
 obtain ⟨n,rfl⟩:∃ n:Nat,L=n:=⟨L.toNat,by omega⟩
 exact Oj n ak w S h hw hb
theorem Fk (t:Task) (l:List SSet) (hf:ju t l≠(0,0)):bm prog 24 [t.av,wh l] (fun r=>r= .dC [.bool false,jA (ju t l)]):=by
 have hac:=zT hf;have hv:=GB t l;refine bc func24 ntmps24 ?_;(repeat' (first|refine gD 3 ?_;refine dK (.r 0 2 (.it 2 3 .nil)) ?_|refine gC 61 ?_;refine bg (hv) ?_|refine gO ?_;refine kJ ?_|intro (K:St→Prop) hK|intro hc|(refine rh 99 ?_ ?_ ?_ ?_<;>try exact VX)|fail))
 all_goals (refine V4 ?_)
 all_goals rfl
theorem OH (t:Task) (l:List SSet) (hf:ju t l=(0,0)):bm prog 24 [t.av,wh l] (fun r=>r= .dC [.bool (tX t l),fault 0 0]):=by
 have hv:=OG hf;obtain ⟨hw,hl2,hs⟩:=OF hf;have h0L:=hw.f0;have hL:=hw.f1;refine bc func24 ntmps24 ?_;(repeat' (first|refine gC 61 ?_;refine bg (hv) ?_|intro (K:St→Prop) hK|intro hc|(refine Gf 4 ?_ ?_ ?_ ?_<;>try exact VX)|fail));(refine cE (bR 2 rfl rfl rfl) ?_;simp only [go_sem,seval]);refine gR ?_;refine bY ?_;refine bu (fun KN hKN=>?_);refine pA 1000000001 func62 ntmps62 aB aB ah ah ah ?_;refine Gx 1 (fun K hK=>?_) VX VX VX;refine dU ?_;refine cn rfl (fun K0 hK0=>?_);refine bt jh ?_;simp only [go_sem,seval];refine hK0 _ ?_;clear hK0 K0;refine cn rfl (fun K0 hK0=>?_);refine pA 1000000002 func130 ntmps130 aB aB ah ah ah ?_;refine Gx 1 (fun K hK=>?_) VX VX VX;refine dU ?_;refine cn rfl (fun K1 hK1=>?_);refine bt jh ?_;simp only [go_sem,seval];refine hK1 _ ?_;clear hK1 K1;refine cn rfl (fun K1 hK1=>?_);refine lu (d:=4) 2000000001 aB ah aU ?_;simp only [go_sem,seval];refine hK1 _ ?_;clear hK1 K1;refine cn rfl (fun K1 hK1=>?_);refine lu (d:=5) 2000000002 aB ah aU ?_;simp only [go_sem,seval];refine hK1 _ ?_;clear hK1 K1;refine cn rfl (fun K1 hK1=>?_);refine bt (tg aR) ?_;simp only [go_sem,seval];refine hK1 _ ?_;clear hK1 K1;refine cn rfl (fun K1 hK1=>?_);refine l9 (d:=7) 700 ah (.inr ⟨_,rfl⟩) ah ?_;simp only [go_sem,seval];refine hK1 _ ?_;clear hK1 K1;refine DW ?_;(repeat' (first|refine hK _ ?_;clear hK K|refine gW ?_;refine eo ?_|refine gT ?_;refine eY ?_));(refine ⟨_,_,_,Le.refl _,(aX (aW aR)),by rfl,?_⟩;simp only [go_sem,seval]);refine hK0 _ ?_;clear hK0 K0;refine cn rfl (fun K1 hK1=>?_);refine bt (tg aR) ?_;simp only [go_sem,seval];refine hK1 _ ?_;clear hK1 K1;refine cn rfl (fun K1 hK1=>?_);refine l9 (d:=11) 702 ah (.inr ⟨_,rfl⟩) ah ?_;simp only [go_sem,seval];refine hK1 _ ?_;clear hK1 K1;refine DW ?_;refine Gx 2 (fun K hK K hK=>?_) VX VX VX;(refine cE (fe 700 1 701 3 24 270 aR aR al) ?_;simp only [go_sem,seval]);refine gR ?_;refine bY ?_;refine Go ?_ VX VX VX;have hG:CU=16777216:=rfl;have hDB:DB=5000000000000:=rfl;obtain ⟨RR,hRR⟩:∃ r,r=x9 t.facts l S0 0:=⟨_,rfl⟩
 refine bP [7,14,15,16,17,18,19,20,21,22,23,24,25,26,27,28,29,30,31,32,33] (fun q:Nat×fp×Int=>q.1≤l.length∧nX t.facts q.2.1∧Vd q.2.1.ns q.2.2∧x9 t.facts (l.drop q.1) q.2.1 q.2.2=RR∧q.2.1.ns.length≤q.1 * 16778416) (fun q=>l.length - q.1) (fun q=>[(14,.int q.1)]) (fun q=>Om t.facts q.2.1 q.2.2) (0,S0,0) ⟨qc6 _,Qb _,v0 _,by rw [hRR];rfl,by simp [S0]⟩ ?_ ?_
 ·refine bA ?_
  exact aZ
 rintro ⟨k,T,a⟩ ⟨hk,hT,ha,he,hn⟩ K hK;simp only at hk hT ha he hn ⊢;refine bA ?_;by_cases hlt:k < l.length
 ·have hcok:=(hs l[k] (qa4 hlt)).T7 h0L hL
  rw [qe2 hlt] at he;unfold x9 at he;simp only at he;have r1:=ue h0L hL hcok hT;have c1:=Db t.facts h0L hL T a l[k] hcok hT ak;generalize oN t.facts l[k] T=x at he r1 c1;have g1:=r1.gr.len;have va:=r1.gr.vd ha;have c2:=Tl t.facts h0L hL x.1 a x.2 r1.ok va r1.vd ak;have r2:=gk h0L (.inr rfl) t.facts.toNat x.1 a x.2 r1.ok va r1.vd (nY h0L r1.ok va r1.vd);have ez:dE t.facts 1 t.facts.toNat x.1 a x.2=gK t.facts 1 x.1 a x.2:=rfl;rw [ez] at r2;generalize gK t.facts 1 x.1 a x.2=z at he r2 c2;have g2:=r2.gr.len;have hp:=sL hL;refine Gx 5 (fun _ hc K hK=>?_) VX VX VX;(refine cE (bR 7 rfl rfl rfl) ?_;simp only [go_sem,seval]);refine pM [.ptr 702 0,.ptr 702 0,.ptr 702 0,.ptr 702 0,.ptr 700 0,.ptr 702 0,.ptr 702 0,.ptr 702 1,.int a,.ptr 702 0,l[k].av,.int x.2,.int z.2,.ptr 702 0,.ptr 702 1,.any] [[5],[5],[19],[20],[21],[5],[23],[24],[25],[5],[7],[27,28],[22,26,29],[18],[31],[30,32]] [11,12,15] [(0,0),(0,1),(0,2),(1,0),(1,1),(2,0),(2,1),(3,0),(3,1),(4,0),(4,1),(5,0),(5,1),(6,0),(6,1),(7,0),(7,1),(8,0),(8,1),(9,0),(10,0),(13,2),(14,2)] [fun h=>Om t.facts x.1 a++fT (bl (Om t.facts T a)++[]) [702,700] h,fun h=>kF t.facts z.1++fT (bl (kF t.facts x.1)++[]) [700] h,fun h=>cP h 702 ⟨129,[.ptr 700 0,.int z.2],true⟩] aR ai aD (all_cons ⟨_,rfl,rfl,aG⟩ (all_cons ⟨_,rfl,rfl,aG⟩ (all_cons ⟨_,rfl,rfl,aG⟩ (all_cons ⟨_,rfl,rfl,aG⟩ (all_cons ⟨_,rfl,rfl,aG⟩ (all_cons ⟨_,rfl,rfl,ax⟩ (all_cons ⟨_,rfl,rfl,ax⟩ (all_cons ⟨_,rfl,rfl,aj⟩ (all_cons ⟨_,rfl,rfl,aj⟩ (all_cons ⟨_,rfl,rfl,ab⟩ (all_cons ⟨_,rfl,rfl,ab⟩ (all_cons ⟨_,rfl,rfl,aG⟩ (all_cons ⟨_,rfl,rfl,aG⟩ (all_cons ⟨_,rfl,rfl,ax⟩ (all_cons ⟨_,rfl,rfl,ax⟩ (all_cons ⟨_,rfl,rfl,aj⟩ (all_cons ⟨_,rfl,rfl,aj⟩ (all_cons ⟨_,rfl,rfl,ab⟩ (all_cons ⟨_,rfl,rfl,ab⟩ (all_cons ⟨_,rfl,rfl,aG⟩ (all_cons ⟨_,rfl,rfl,ab⟩ (all_cons ⟨_,rfl,rfl,ax⟩ (all_cons ⟨_,rfl,rfl,aj⟩ all_nil))))))))))))))))))))))) (eC (fun f hfl hU hfm K1 hK1=>⟨_,rfl,rfl,(by (refine bL (by rw [fE hU aR];exact c1) au (fun _ h=>by cases h) aR (fun x hp' hx=>?_);obtain ⟨rfl,rfl⟩:=hx;rw [fW hfm aA aA];exact hK1))⟩) (eC (fun f hfl hU hfm K1 hK1=>⟨_,rfl,rfl,(by (refine bL (by rw [fE hU aR];exact c2) au (fun _ h=>by cases h) aR (fun x hp' hx=>?_);obtain ⟨rfl,rfl⟩:=hx;rw [fW hfm aA aA];exact hK1))⟩) (eC (fun f hfl hU hfm K1 hK1=>⟨_,rfl,rfl,(by (refine sI (by rw [pJ hU aR];exact rfl) (by first|exact pJ hU aR|rfl) aR aR (by first|exact .inl rfl|exact .inr ⟨_,rfl⟩) aR (by exact of_decide_eq_true aR) ?_;exact hK1))⟩) pI))) ?_;simp only [go_sem,seval,dy,bl,F4,qb8,qf1];refine Go ?_ VX VX VX;refine ⟨(k+1,z.1,z.2),⟨by simp only;omega,r2.ok,r2.vd,he,by simp only;omega⟩,by simp only;omega,?_⟩;refine bA ?_;exact aZ
 obtain rfl:k=l.length:=by omega
 rw [qi3,x9] at he;refine iy (fun hc K hK=>?_) VX VX VX;(refine ⟨_,_,_,Le.refl _,(aX (aW aR)),by rfl,?_⟩;simp only [go_sem,seval]);refine hKN _ ?_;clear hKN;have hbit:(fun i:Nat=>(dm t.init).testBit i)=fun i:Nat=>hasB t.init (i:Int):=funext fun i=>mm hw.init i;have hwb:=ln hw.init hL;have hlen:T.ns.length≤33556832000:=by omega
 have cw:=lJ t.init t.facts hw.init hL;have c1:=Lx t.facts h0L hL (dm t.init) T hT hwb ak;have r1:=yb (fun i=>hasB t.init i) t.facts.toNat T 1 ak hT (v1 _) (by rw [jo _ _ ak];omega);rw [hbit] at c1;have hdead:tX t l=if (AO t T a).2=0 then false else (r8 t.facts a t.goal t.ops l (AO t T a).1).2:=by unfold tX;simp only;rw [← hRR,← he]
 have hini:AO t T a=gK t.facts 0 (lD (fun i=>hasB t.init i) t.facts.toNat T 1).1 (lD (fun i=>hasB t.init i) t.facts.toNat T 1).2 a:=rfl;rw [hini] at hdead;clear hini hbit;generalize lD (fun i=>hasB t.init i) t.facts.toNat T 1=c at *;have g1:=r1.gr.len;have va:=r1.gr.vd ha;have c2:=A8 t.facts h0L hL c.1 c.2 a r1.ok r1.vd va ak;have r2:=gk h0L (.inl rfl) t.facts.toNat c.1 c.2 a r1.ok r1.vd va (nY h0L r1.ok r1.vd va);have ez:dE t.facts 0 t.facts.toNat c.1 c.2 a=gK t.facts 0 c.1 c.2 a:=rfl;rw [ez] at r2;generalize gK t.facts 0 c.1 c.2 a=z at *;have g2:=r2.gr.len;have hp:=sL hL;have vz:=r2.gr.vd va;refine HA 5 (fun K hK K hK=>?_) VX VX VX;refine pM [.ptr 702 0,.ptr 702 0,.ptr 702 0,.ptr 700 0,.ptr 702 0,.ptr 702 0,.ptr 702 0,.ptr 700 0,.bC [ints t.init,ints t.goal,uk t.ops],ints t.init,.v (.int .u32 (dm t.init:Nat)),.int c.2,.ptr 702 0,.ptr 702 0,.ptr 702 1,.int a,.int z.2,.bool (decide (z.2=0))] [[7],[25],[26],[27],[7],[29],[30],[31],[2],[33],[34],[32,35],[7],[37],[38],[39],[28,36,40],[41]] [10,11,16] [(0,0),(0,1),(0,2),(1,0),(1,1),(1,2),(2,0),(2,1),(2,2),(3,0),(3,1),(3,2),(4,0),(4,1),(5,0),(5,1),(6,0),(6,1),(7,0),(7,1),(8,0),(9,0),(12,0),(12,1),(12,2),(13,0),(13,1),(13,2),(14,0),(14,1),(14,2),(15,0),(15,1),(15,2),(17,3)] [fun h=>h,fun h=>kF t.facts c.1++fT (bl (kF t.facts T)++[]) [700] h,fun h=>kF t.facts z.1++fT (bl (kF t.facts c.1)++[]) [700] h] aR ai aD (all_cons ⟨_,rfl,rfl,aG⟩ (all_cons ⟨_,rfl,rfl,aG⟩ (all_cons ⟨_,rfl,rfl,aG⟩ (all_cons ⟨_,rfl,rfl,ax⟩ (all_cons ⟨_,rfl,rfl,ax⟩ (all_cons ⟨_,rfl,rfl,ax⟩ (all_cons ⟨_,rfl,rfl,aj⟩ (all_cons ⟨_,rfl,rfl,aj⟩ (all_cons ⟨_,rfl,rfl,aj⟩ (all_cons ⟨_,rfl,rfl,ab⟩ (all_cons ⟨_,rfl,rfl,ab⟩ (all_cons ⟨_,rfl,rfl,ab⟩ (all_cons ⟨_,rfl,rfl,aG⟩ (all_cons ⟨_,rfl,rfl,aG⟩ (all_cons ⟨_,rfl,rfl,ax⟩ (all_cons ⟨_,rfl,rfl,ax⟩ (all_cons ⟨_,rfl,rfl,aj⟩ (all_cons ⟨_,rfl,rfl,aj⟩ (all_cons ⟨_,rfl,rfl,ab⟩ (all_cons ⟨_,rfl,rfl,ab⟩ (all_cons ⟨_,rfl,rfl,aj⟩ (all_cons ⟨_,rfl,rfl,ab⟩ (all_cons ⟨_,rfl,rfl,aG⟩ (all_cons ⟨_,rfl,rfl,aG⟩ (all_cons ⟨_,rfl,rfl,aG⟩ (all_cons ⟨_,rfl,rfl,ax⟩ (all_cons ⟨_,rfl,rfl,ax⟩ (all_cons ⟨_,rfl,rfl,ax⟩ (all_cons ⟨_,rfl,rfl,aj⟩ (all_cons ⟨_,rfl,rfl,aj⟩ (all_cons ⟨_,rfl,rfl,aj⟩ (all_cons ⟨_,rfl,rfl,ab⟩ (all_cons ⟨_,rfl,rfl,ab⟩ (all_cons ⟨_,rfl,rfl,ab⟩ (all_cons ⟨_,rfl,rfl,(by first|exact jX (uP aR aR) aR|exact jX (pe aR aR) aR|exact jX (ph aR aR ai) aR)⟩ all_nil))))))))))))))))))))))))))))))))))) (eC (fun f hfl hU hfm K1 hK1=>⟨_,rfl,rfl,(by (refine cM (by rw [fE hU aR];exact cw) (by rw [fE hU aR];rfl) (fun x hx=>?_);obtain rfl:=hx;exact hK1))⟩) (eC (fun f hfl hU hfm K1 hK1=>⟨_,rfl,rfl,(by (refine bL (by rw [fE hU aR];exact c1) au (fun _ h=>by cases h) aR (fun x hp' hx=>?_);obtain ⟨rfl,rfl⟩:=hx;rw [fW hfm aA aA];exact hK1))⟩) (eC (fun f hfl hU hfm K1 hK1=>⟨_,rfl,rfl,(by (refine bL (by rw [fE hU aR];exact c2) au (fun _ h=>by cases h) aR (fun x hp' hx=>?_);obtain ⟨rfl,rfl⟩:=hx;rw [fW hfm aA aA];exact hK1))⟩) pI))) ?_;simp only [go_sem,seval,dy,bl,F4,qb8,qf1];refine Go (fun hc=>?_) (fun hc K hK=>?_) VX VX
 ·refine V4 ?_
  rw [hdead,if_pos hc];rfl
 rw [if_neg hc] at hdead;obtain ⟨RS,hRS⟩:∃ r,r=r8 t.facts a t.goal t.ops l z.1:=⟨_,rfl⟩
 rw [← hRS] at hdead;refine bP [4,9,11,12,13,46,47,48,49,50,51,52,53,54,55,56,57,58,59,60,61,62,63,64,65,66,67,68,69,70,71,72,73,74,75,76,77,78,79] (fun q:Nat×fp=>q.1≤l.length∧nX t.facts q.2∧Vd q.2.ns a∧r8 t.facts a t.goal t.ops (l.drop q.1) q.2=RS∧q.2.ns.length≤33600000000+q.1 * 1342225280) (fun q=>l.length - q.1) (fun q=>[(46,.int q.1)]) (fun q=>kF t.facts q.2) (0,z.1) ⟨qc6 _,r2.ok,vz,by rw [hRS];rfl,by simp only;omega⟩ ?_ ?_
 ·refine bA ?_
  exact aZ
 clear he;rintro ⟨k,T⟩ ⟨hk,hT,ha,he,hn⟩ K hK;simp only at hk hT ha he hn ⊢;refine bA ?_;by_cases hlt:k < l.length
 ·have hsk:=hs l[k] (qa4 hlt)
  rw [qe2 hlt] at he;unfold r8 at he;have e3:=rA t.goal l[k].no t.facts hsk.o;cases hd:kx t.goal l[k].no with
  |true=>
   rw [hd] at e3;rw [if_pos hd] at he;(repeat' (first|refine gC 66 ?_;refine bg (e3) ?_|intro (K:St→Prop) hK|intro hc|(refine Gf 99 ?_ ?_ ?_ ?_<;>try exact VX)|fail));refine V4 ?_;rw [hdead,← he];rfl
  |false=>
   rw [hd] at e3;rw [if_neg (by simp [hd])] at he;(repeat' (first|refine gC 66 ?_;refine bg (e3) ?_|intro (K:St→Prop) hK|intro hc|(refine Gf 99 ?_ ?_ ?_ ?_<;>try exact VX)|fail));obtain ⟨RO,hRO⟩:∃ r,r=ve t.facts a l[k] t.ops T:=⟨_,rfl⟩
   rw [← hRO] at he;refine bP [4,11,12,13,60,61,62,63,64,65,66,67,68,69,70,71,72,73,74,75,76,77,78] (fun q:Nat×fp=>q.1≤t.ops.length∧nX t.facts q.2∧Vd q.2.ns a∧ve t.facts a l[k] (t.ops.drop q.1) q.2=RO∧q.2.ns.length≤T.ns.length+q.1 * 33555632) (fun q=>t.ops.length - q.1) (fun q=>[(60,.int q.1)]) (fun q=>kF t.facts q.2) (0,T) ⟨qc6 _,hT,ha,by rw [hRO];rfl,by simp only;omega⟩ ?_ ?_
   ·refine bA ?_
    exact aZ
   rintro ⟨j,T2⟩ ⟨hj,hT2,ha2,he2,hn2⟩ K hK;simp only at hj hT2 ha2 he2 hn2 ⊢;have h40:=hw.P9;refine bA ?_;by_cases hlt2:j < t.ops.length
   ·have hop:=(hw.ops t.ops[j] (qa4 hlt2)).1
    rw [qe2 hlt2] at he2;unfold ve at he2;have ci:=Lw t.facts h0L hL l[k] t.ops[j] hsk hop;cases hi:kz l[k] t.ops[j] with
    |none=>
     rw [hi] at ci he2;unfold RH at ci;simp only at he2;have hfin:T2.ns.length≤T.ns.length+(j+1) * 33555632:=qd3 hn2 (Nat.add_le_add_left (qh5 _ (Nat.le_succ j)) _);(repeat' (first|refine gC 67 ?_;refine bg (ci) ?_|intro (K:St→Prop) hK|intro hc|(refine Gf 99 ?_ ?_ ?_ ?_<;>try exact VX)|fail));refine ⟨(j+1,T2),⟨hlt2,hT2,ha2,he2,hfin⟩,by simp only;omega,?_⟩;refine bA ?_;exact aZ
    |some nx=>
     rw [hi] at ci he2;unfold RH at ci;simp only at he2;have hnx:=(CT hsk hop hi).T7 h0L hL;have r3:=Gi h0L hL hnx hT2 ha2;have c3:=RD t.facts h0L hL T2 a nx hnx hT2 ha2 ak;generalize x8 t.facts a nx T2=y at *;obtain ⟨Y,b⟩:=y;have g3:=r3.gr.len;simp only at he2 c3 g3;cases b with
     |true=>
      rw [if_pos rfl] at he2;have hfin:Y.ns.length≤T.ns.length+(j+1) * 33555632:=qd3 g3.2 (by have e:2 * CU+1200=33555632:=rfl;rw [e,qi9 j,← Nat.add_assoc];exact Nat.add_le_add_right hn2 _);(repeat' (first|refine gC 67 ?_;refine bg (ci) ?_|refine bu (fun K hK=>?_);(refine bL (c3) au (fun _ h=>by cases h) aR (fun x hp' hx=>?_);obtain ⟨rfl,rfl⟩:=hx<;>simp only [go_sem,seval,dy,bl])|intro (K:St→Prop) hK|intro hc|(refine Gf 99 ?_ ?_ ?_ ?_<;>try exact VX)|fail));refine ⟨(j+1,Y),⟨hlt2,r3.ok,r3.gr.vd ha2,he2,hfin⟩,by simp only;omega,?_⟩;refine bA ?_;exact aZ
     |false=>
      rw [if_neg aC] at he2;rw [← he2,if_neg aC] at he;(repeat' (first|refine gC 67 ?_;refine bg (ci) ?_|refine bu (fun K hK=>?_);(refine bL (c3) au (fun _ h=>by cases h) aR (fun x hp' hx=>?_);obtain ⟨rfl,rfl⟩:=hx<;>simp only [go_sem,seval,dy,bl])|intro (K:St→Prop) hK|intro hc|(refine Gf 99 ?_ ?_ ?_ ?_<;>try exact VX)|fail));refine V4 ?_;rw [hdead,← he];rfl
   obtain rfl:j=t.ops.length:=by omega
   rw [qi3,ve] at he2;rw [← he2,if_pos rfl] at he;simp only at he;have hfin:T2.ns.length≤33600000000+(k+1) * 1342225280:=by omega
   refine iy (fun hc K hK=>?_) VX VX VX;refine ⟨(k+1,T2),⟨by simp only;omega,hT2,ha2,he,hfin⟩,by simp only;omega,?_⟩;refine bA ?_;exact aZ
 obtain rfl:k=l.length:=by omega
 rw [qi3,r8] at he;refine iy (fun hc K hK=>?_) VX VX VX;refine V4 ?_;rw [hdead,← he];rfl
end
section
set_option maxRecDepth 10000
attribute [local irreducible] dP fv mu lV dj PV ff ew AW bm da en dQ cX Ab.Fin fi er gF iN RV kh Le eV fL ma iG kM dJ dt
set_option maxHeartbeats 8000000
abbrev u32 (n:Nat):AV:=.v (.int .u32 (n:Int))
abbrev zU (o:Op):List AV:=[u32 (dm o.pre),u32 (dm o.add),u32 (dm o.del),.int o.cost]
abbrev Qm (o:Op):AV:=.agg (zU o)
abbrev VR (t:Task):List AV:=[u32 (dm t.init),u32 (dm t.goal),.cD 4 24 (t.ops.map Qm)]
abbrev SA (t:Task):AV:=.bC (VR t)
abbrev I2 (l:List Op):List AV:=l.flatMap zU
@[go_sem] theorem Up (id:Nat) (l:List Op):AV.bz id (I2 l)=false:=ef id zU l fun _=>rfl
@[go_sem] theorem Ty (id:Nat) (l:List Op):AV.cG id (I2 l)=I2 l:=ir id zU l fun _=>rfl
theorem RJ (l:List Op):AV.cu (I2 l)=true:=gu zU l fun _=>rfl
@[go_sem] theorem Tz (id sz bw n:Nat) (es:List AV) (l:List Op):AV.dM id sz bw n es (I2 l)=I2 l:=e8 (RJ l)
@[go_sem] theorem U2 (l:List Op):(I2 l).length=l.length * 4:=by
 unfold I2
 induction l with
 |nil=>rfl
 |cons w l ih=>rw [qd5,qa3,ih,qb8];simp;omega
theorem OI {l:List Op} {k:Nat} (h:k < l.length):I2 (l.take (k+1))=I2 (l.take k)++zU l[k]:=by
 rw [qa5 h,I2,qd8];simp
theorem OJ (t:Task) (hw:xZ t) (s:List Int) (hs:isSet s t.facts=true):bm prog 143 [SA t,u32 (dm s)] (fun r=>r= .bool (dX t.goal s)):=by
 have h1:=Ql (ln hs hw.f1) (ln hw.goal hw.f1);have h2:=GA hs hw.goal;have e:(bits .and .u32 ((dm s:Nat):Int) ((dm t.goal:Nat):Int) == ((dm t.goal:Nat):Int))=dX t.goal s:=by rw [h1,qf7,beq_iff_eq,← h2];omega
 refine bc func143 ntmps143 ?_;(repeat' (first|refine gD 1 ?_;refine dK (.r 0 12 .nil) ?_|intro (K:St→Prop) hK|intro hc|(refine Gf 99 ?_ ?_ ?_ ?_<;>try exact VX)|fail));refine VY ?_;rw [← e]
theorem IG (t:Task):bm prog 125 [SA t] (fun r=>r=u32 (dm t.init)):=by
 refine bc func125 ntmps125 ?_;refine Go ?_ VX VX VX;refine VY ?_;rfl
theorem Ly (t:Task) (s:List Int):bm prog 194 [SA t,u32 (dm s)] (fun r=>r= .fn 222 [.bC [SA t],.bC [u32 (dm s)]]):=by
 refine bc func194 ntmps194 ?_;(repeat' (first|refine bu (fun K hK=>?_);refine fy (.trans (bR 2 rfl rfl rfl) (bR 3 rfl rfl rfl)) ?_;simp only [go_sem,seval];refine bt cL ?_|intro (K:St→Prop) hK|intro hc|(refine Gf 99 ?_ ?_ ?_ ?_<;>try exact VX)|fail));refine VY ?_;rfl
theorem Lz (t:Task) (hw:xZ t):bm prog 173 [t.av] (fun r=>r=SA t):=by
 have hL:=hw.f1;have h40:=hw.P9;have c1:=lJ t.init t.facts hw.init hL;have c2:=lJ t.goal t.facts hw.goal hL;refine bc func173 ntmps173 ?_;(repeat' (first|refine gD 1 ?_;refine dK (.r 0 2 (.r 3 2 (.it 2 1 (.it 5 1 (.it 6 0 (.it 7 1 (.it 8 0 .nil))))))) ?_|refine dH 65 ?_;refine bB (c1) ?_|refine dH 65 ?_;refine bB (c2) ?_|refine c8 (fun K hK=>?_);refine B8 (d:=13) 13 al (by exact .inr ⟨_,rfl⟩) al ?_|intro (K:St→Prop) hK|intro hc|(refine rh 99 ?_ ?_ ?_ ?_<;>try exact VX)|fail));(refine cE (fe 13 2 300 4 24 312 aR aR al) ?_;simp only [go_sem,seval]);refine bP [5,17,18,19,20,21,22,23,24,25,26,27,28,29,30,31,32,33,34,35,36,37,38,39,40,41,42] (fun k:Nat=>k≤t.ops.length) (fun k=>t.ops.length - k) (fun k=>[(17,.int k)]) (fun k=>[(13,⟨260,[u32 (dm t.init),u32 (dm t.goal),.sl 4 24 300 0 k],true⟩),(300,⟨312,I2 (t.ops.take k),false⟩)]) 0 (qc6 _) ?_ ?_
 ·refine bA ?_
  exact aZ
 rintro k hk K hK;refine bA ?_;by_cases hlt:k < t.ops.length
 ·have ho:=(hw.ops t.ops[k] (qa4 hlt)).1
  unfold mj at ho;simp only [qa1] at ho;have w1:=lJ t.ops[k].pre t.facts ho.1.1.1 hL;have w2:=lJ t.ops[k].add t.facts ho.1.1.2 hL;have w3:=lJ t.ops[k].del t.facts ho.1.2 hL;have hlen:(t.ops.take k).length=k:=by rw [qc0];omega
  have hs:=OI hlt;generalize t.ops.take k=l at *;(repeat' (first|refine gD 5 ?_;refine vP (s1:=?_) (.r 1 6 (.r 8 2 (.r 11 2 (.r 14 2 (.fk 0 7 (.it 7 1 (.it 10 1 (.it 13 1 (.it 16 0 (.it 17 1 (.it 18 3 (.it 19 1 (.it 20 1 (.it 21 3 .nil))))))))) (.fk 0 10 (.it 10 1 (.it 13 1 (.it 16 0 (.it 17 1 (.it 18 3 (.it 19 1 (.it 20 1 (.it 21 3 .nil)))))))) (.fk 0 13 (.it 13 1 (.it 16 0 (.it 17 1 (.it 18 3 (.it 19 1 (.it 20 1 (.it 21 3 .nil))))))) (.it 16 0 (.fk 0 17 (.it 17 1 (.it 18 3 (.it 19 1 (.it 20 1 (.it 21 3 .nil))))) (.pY 0 1 18 3 (.it 18 3 (.it 19 1 (.it 20 1 (.it 21 3 .nil)))) (.it 0 1 (.it 19 1 (.it 20 1 (.it 21 3 .nil)))))))))))))) ?_ ?_;rotate_left|refine dH 65 ?_;refine bB (w1) ?_|refine dH 65 ?_;refine bB (w2) ?_|refine dH 65 ?_;refine bB (w3) ?_|refine c8 (fun K hK=>?_);(first|refine eF (cf aR aR az) ?_|refine cN (d:=38) aJ aR aR aR aR ?_)|refine yP ?_;refine nR ?_|refine fQ (fun K hK=>?_);refine ck ?_|refine gO ?_;refine kJ ?_|intro (K:St→Prop) hK|intro hc|(refine rh 99 ?_ ?_ ?_ ?_<;>try exact VX)|fail));refine ⟨k+1,by omega,by omega,?_⟩;rw [hs];refine bA ?_;exact aZ
 obtain rfl:k=t.ops.length:=by omega
 rw [qd2];(refine cE (cV (f:=Qm) 300 4 24 t.ops.length t.ops aR (by rw [qg9];rfl) aR (fun _=>rfl) (fun _=>rfl) ak) ?_;try simp only [go_sem,seval]);(refine cE (bR 13 rfl rfl rfl) ?_;simp only [go_sem,seval]);refine iy (fun hc K hK=>?_) VX VX VX;refine VY ?_;rfl
@[local go_sem] theorem Uq:((0:Nat):Int)=0:=rfl
abbrev n9.av (e:n9):AV:=.agg [ints e.st,.int e.val]
abbrev yq (l:List n9):AV:=.cD 2 32 (l.map n9.av)
instance:Inhabited n9:=⟨⟨[],0⟩⟩
def Bm (L:Int) (l:List n9) (i:Nat):Bool:=!isSet l[i]!.st L|| (decide (0 < i)&&decide (fh l[i]!.st l[i-1]!.st≤0))
def ux (L:Int) (l:List n9) (i:Nat):Option (Int×Int):=if Bm L l i=true then some (5,(i:Int)) else if l[i]!.val < 1∨1000000000 < l[i]!.val then some (3,(i:Int)) else none
def je (t:Task) (l:List n9):Int×Int:=if cK t≠(0,0) then cK t else if 2000 < l.length then (2,-8) else (bx (ux t.facts l) l.length).getD (0,0)
structure SB (L:Int) (e:n9):Prop where
 st:isSet e.st L=true
 v1:1≤e.val
 v2:e.val≤1000000000
variable {t:Task} {l:List n9}
theorem Dr (h:je t l=(0,0)):xZ t∧l.length≤2000∧∀ e∈l,SB t.facts e:=by
 unfold je at h;split at h
 ·rename_i h1;exact absurd h h1
 rename_i h1;split at h
 ·simp at h
 rename_i h2;refine ⟨iJ.1 (qg1.1 h1),by omega,fun c hc=>?_⟩;cases hf:bx (ux t.facts l) l.length with
 |some q=>
  rw [hf] at h;simp only [qf3] at h;subst h;obtain ⟨i,_,hg⟩:=dh hf;unfold ux at hg;(repeat' split at hg)<;>simp at hg
 |none=>
  obtain ⟨i,hi,rfl⟩:=qa9 hc;have h3:=jd hf hi;unfold ux at h3;rw [bq hi] at h3;split at h3
  ·cases h3
  rename_i h4;split at h3
  ·cases h3
  rename_i h5;unfold Bm at h4;rw [bq hi] at h4;simp only [qe0,not_or,qb7,Bool.not_eq_false] at h4;exact ⟨h4.1,by omega,by omega⟩
theorem Dt (h:je t l≠(0,0)):(je t l).1≠0:=by
 unfold je at h ⊢;split
 ·rename_i h1;exact wR h1
 rename_i h1;rw [if_neg h1] at h;split
 ·simp
 rename_i h2;rw [if_neg h2] at h;cases hf:bx (ux t.facts l) l.length with
 |none=>rw [hf] at h;exact absurd rfl h
 |some q=>
  obtain ⟨i,_,hg⟩:=dh hf;unfold ux at hg;(repeat' split at hg)<;>first|(cases hg;done)|(injection hg with hg;subst hg;simp)
theorem GC (t:Task) (l:List n9):bm prog 122 [t.av,yq l] (fun r=>r=jA (je t l)):=by
 by_cases hf:cK t=(0,0)
 ·have hv:=Lu hf
  by_cases h2:2000 < l.length
  ·have e:je t l=(2,-8):=by unfold je;rw [if_neg (by simp [hf]),if_pos h2]
   rw [e];refine bc func122 ntmps122 ?_;(refine bU (i:=1) rfl (fun hb=>?_);(try simp only [qa2] at hb));(repeat' (first|refine gC 128 ?_;refine bg (hv) ?_|intro (K:St→Prop) hK|intro hc|(refine Gf 99 ?_ ?_ ?_ ?_<;>try exact VX)|fail))
   all_goals (refine V0 ?_)
   all_goals rfl
  have e:je t l=(bx (ux t.facts l) l.length).getD (0,0):=by unfold je;rw [if_neg (by simp [hf]),if_neg h2]
  rw [e];refine bc func122 ntmps122 ?_;(refine bU (i:=1) rfl (fun hb=>?_);(try simp only [qa2] at hb));(repeat' (first|refine gC 128 ?_;refine bg (hv) ?_|intro (K:St→Prop) hK|intro hc|(refine Gf 99 ?_ ?_ ?_ ?_<;>try exact VX)|fail));refine ba [6,7,20,21,22,23,24,25,26,27,28,29,30,31,32,33,34,35,36,37,38,39,40,41,42,43,44,45,46,47,48,49,50,51,52,53,54,55,56,57,58,59,60,61] (fun k:Nat=>k≤l.length∧bx (ux t.facts l) k=none) (fun k=>l.length - k) (fun k=>[(20,.int k)]) (fun _=>[(2,⟨38,t.cs,true⟩),(4,⟨42,[.int 0,.int 0],true⟩)]) 0 ⟨by omega,rfl⟩ ?_ ?_
  ·refine bA ?_
   exact aZ
  rintro k ⟨hk,hn⟩ K hK;refine bA ?_;by_cases hlt:k < l.length
  ·have e1:=mQ l[k].st t.facts
   have hg:ux t.facts l k=if Bm t.facts l k=true then some (5,(k:Int)) else if l[k].val < 1∨1000000000 < l[k].val then some (3,(k:Int)) else none:=by unfold ux;rw [bq hlt]
   have hbad:Bm t.facts l k=(!isSet l[k].st t.facts|| (decide (0 < k)&&decide (fh l[k].st l[k-1]!.st≤0))):=by unfold Bm;rw [bq hlt]
   cases h1:isSet l[k].st t.facts with
   |false=>
    rw [h1] at e1;rw [hbad,h1,if_pos aR] at hg;(repeat' (first|refine gD 9 ?_;refine dK (.r 0 4 (.it 4 1 (.r 5 18 .nil))) ?_|refine dH 129 ?_;refine bB (e1) ?_|intro (K:St→Prop) hK|intro hc|(refine Gf 99 ?_ ?_ ?_ ?_<;>try exact VX)|fail));refine V0 ?_;rw [cp hn hg hlt];rfl
   |true=>
    rw [h1] at e1 hbad;rcases qj4 k with rfl|hpos
    ·have hb0:Bm t.facts l 0=false:=by rw [hbad];rfl
     rw [hb0,if_neg aC] at hg;(repeat' (first|refine gD 9 ?_;refine dK (.r 0 4 (.it 4 1 (.r 5 13 (.it 18 2 (.r 19 4 .nil))))) ?_|refine dH 129 ?_;refine bB (e1) ?_|intro (K:St→Prop) hK|intro hc|(refine Gf 99 ?_ ?_ ?_ ?_<;>try exact VX)|fail))
     all_goals first
      |((refine V0 ?_);rw [cp hn (hg.trans (if_pos ak)) hlt];rfl)
      |(refine ⟨0+1,⟨by omega,cJ hn (hg.trans (if_neg ak))⟩,by omega,?_⟩;(refine bA ?_);(exact aZ))
    have hk1:k - 1 < l.length:=by omega
    have e2:=yh l[k].st l[k-1].st;rw [bq hk1,Bool.not_true,qc1,decide_eq_true hpos,qf4] at hbad;obtain ⟨m,rfl⟩:∃ m,k=m+1:=⟨k - 1,by omega⟩
    simp only [Nat.add_sub_cancel] at e2 hbad;generalize hz:fh l[m+1].st l[m].st=z at *;rw [hbad] at hg;(repeat' (first|refine gD 9 ?_;refine dK (.r 0 4 (.it 4 1 (.r 5 13 (.it 18 2 (.r 19 4 .nil))))) ?_|refine dH 129 ?_;refine bB (e1) ?_|refine dH 172 ?_;refine bB (e2) ?_|intro (K:St→Prop) hK|intro hc|(refine rh 99 ?_ ?_ ?_ ?_<;>try exact VX)|fail))
    all_goals first
     |((refine V0 ?_);rw [cp hn (hg.trans (if_pos (decide_eq_true ak))) hlt];rfl)
     |((refine V0 ?_);rw [cp hn ((hg.trans (if_neg (by rw [decide_eq_false ak];simp))).trans (if_pos ak)) hlt];rfl)
     |(refine ⟨m+1+1,⟨by omega,cJ hn ((hg.trans (if_neg (by rw [decide_eq_false ak];simp))).trans (if_neg ak))⟩,by omega,?_⟩;(refine bA ?_);(exact aZ))
  obtain rfl:k=l.length:=by omega
  refine iy (fun hc K hK=>?_) VX VX VX;refine V0 ?_;rw [hn];rfl
 have hac:=wR hf;have e:je t l=cK t:=by unfold je;rw [if_pos hf]
 rw [e];refine bc func122 ntmps122 ?_;(repeat' (first|refine gC 128 ?_;refine bg (qL _) ?_|intro (K:St→Prop) hK|intro hc|(refine Gf 99 ?_ ?_ ?_ ?_<;>try exact VX)|fail))
 all_goals (refine V0 ?_)
 all_goals rfl
end
section
set_option maxRecDepth 10000
attribute [local irreducible] dP fv mu lV dj PV ff ew AW bm da en dQ cX Ab.Fin fi er gF iN RV kh Le eV fL ma iG kM dJ dt
set_option maxHeartbeats 8000000
@[local go_sem] theorem TA (i g:Nat) (y:cF):AV.cq i (.yl g y)=(g == i):=rfl
@[local go_sem] theorem SC (i g:Nat) (y:cF):AV.dN i (.yl g y)=if (g == i)=true then .any else .yl g y:=rfl
variable {P:Program} {bh:Nat→Option TI} {all:Array Oper} {rest:List Oper} {d:Option Tmp} {op:Go.Op} {ty:TypeId} {pos:String} {bF:Array Edge} {s:St} {K:St→Prop}
theorem gU [hT:Tb P bh] (x:AV) (h:oZ bh op s= .ok x) (k:dj P all rest (s.put d x) K) (hnd:iL [(⟨d,op,ty,pos,bF,none⟩:Oper)]=true:=by rfl):dj P all (⟨d,op,ty,pos,bF,none⟩::rest) s K:=
 bD rfl hnd fun K1 hK1=>bt (by have:=mG (P:=P) (bh:=bh) op s;rw [h] at this;exact this) (hK1 _ k)
theorem jf [hT:Tb P bh] {c:Prop} {dc:Decidable c} {f:c→AV} (h:oZ bh op s=@PR.ex c dc f) (hc:c) (k:dj P all rest (s.put d (f hc)) K) (hnd:iL [(⟨d,op,ty,pos,bF,none⟩:Oper)]=true:=by rfl):dj P all (⟨d,op,ty,pos,bF,none⟩::rest) s K:=
 bD rfl hnd fun K1 hK1=>bt (by have:=mG (P:=P) (bh:=bh) op s;rw [h] at this;exact this hc) (hK1 _ k)
abbrev RL (t:Task) (kv:List (Int×Int)):Hp:=[(600,⟨206,[SA t,.mp 2000000001],true⟩),(2000000001,⟨1000000000,zq (kI .u32) kv,false⟩)]
def Bn (kv:List (Int×Int)):Prop:=∀ w v,lk kv w=some v→0≤v∧v≤1000000000
theorem TB {kv:List (Int×Int)} (h:Bn kv) (w:Int):0≤(lk kv w).getD 0∧(lk kv w).getD 0≤1000000000:=by
 cases hl:lk kv w with
 |none=>simp
 |some v=>exact h w v hl
theorem LA (t:Task) (hw:xZ t) (kv:List (Int×Int)) (hkv:Bn kv) (s:List Int) (hs:isSet s t.facts=true) :
 cX prog 176 [.ptr 600 0,u32 (dm s)] (RL t kv) [] [600] (fun x hp=>x= .int (pU t kv s)∧hp=RL t kv):=by
 have h40:=hw.P9;have hL:=hw.f1;have cg:=OJ t hw s hs;have cs:=Ly t s;cases hg:dX t.goal s with
 |true=>
  rw [hg] at cg;have e:pU t kv s=0:=by unfold pU;rw [if_pos hg]
  rw [e];refine cA func176 ntmps176 ?_;(repeat' (first|refine gC 143 ?_;refine bg (cg) ?_|intro (K:St→Prop) hK|intro hc|(refine Gf 99 ?_ ?_ ?_ ?_<;>try exact VX)|fail));exact VZ
 |false=>
  rw [hg] at cg;have e:pU t kv s=ID t kv s t.ops.length:=by unfold pU;rw [if_neg (by simp [hg])]
  rw [e];refine cA func176 ntmps176 ?_;(repeat' (first|refine gC 143 ?_;refine bg (cg) ?_|intro (K:St→Prop) hK|intro hc|(refine Gf 3 ?_ ?_ ?_ ?_<;>try exact VX)|fail));refine dU ?_;refine cn rfl (fun K1 hK1=>?_);refine ov (d:=5) 605 ah ?_;simp only [go_sem,seval];refine hK1 _ ?_;clear hK1 K1;refine DW ?_;(repeat' (first|refine hK _ ?_;clear hK K|refine bH (fun K hK=>?_)|refine gR ?_;refine bY ?_|refine gC 194 ?_;refine bg (cs) ?_|refine gW ?_;refine eo ?_|refine bE ?_));have hK9:=hK;refine kX 1000000001 aR aB ah ah ah func222 ntmps222 aR aR (fun y hyp hya hyb=>?_);simp only [go_sem,seval,dy,bl,qb8,qf1,qg6,qh3,Nat.reduceSub];refine Go ?_ VX VX VX;refine bP [4,5,11,12,13,14,15,16,17,18,19,20,21,22,23,24,25,26,27,28,29,30,31,32,33,34,35,36,37,38,39] (fun k:Nat=>k≤t.ops.length) (fun k=>t.ops.length - k) (fun k=>[(11,.int k)]) (fun k=>[(605,⟨3,[.int (ID t kv s k)],true⟩)]) 0 (qc6 _) ?_ ?_
  ·refine bA ?_
   exact aZ
  rintro k hk K hK;refine bA ?_;by_cases hlt:k < t.ops.length
  ·have ho:=hw.ops t.ops[k] (qa4 hlt)
   have hop:=ho.1;unfold mj at hop;simp only [qa1] at hop;have h1:=Ql (ln hs hL) (ln hop.1.1.1 hL);have h2:=GA hs hop.1.1.1;have hgd:(bits .and .u32 ((dm s:Nat):Int) ((dm t.ops[k].pre:Nat):Int) == ((dm t.ops[k].pre:Nat):Int))=dX t.ops[k].pre s:=by rw [h1,qf7,beq_iff_eq,← h2];omega
   have hst:=RG hw.f0 hL hs ho.1;have hlb:ID t kv s (k+1)=if dX t.ops[k].pre s=true then min (ID t kv s k) (t.ops[k].cost+Lv kv (bF t.facts s t.ops[k])) else ID t kv s k:=by rw [ID,bq hlt]
   cases hb:dX t.ops[k].pre s with
   |false=>
    rw [hb] at hgd;rw [hb,if_neg aC] at hlb;refine Gx 3 (fun _ hc K hK K hK=>?_) VX VX VX;refine fU ?_;iterate 7 ((first|refine gU _ ay ?_|refine jf ay aH ?_);simp only [go_sem,seval,dy,bl])
    simp only [hgd];(first|refine gU _ ay ?_|refine jf ay aH ?_);simp only [go_sem,seval,dy,bl];iterate 14 (refine sy aR aR aR ?_;simp only [go_sem,seval,dy,bl])
    (first|refine gU _ ay ?_|refine jf ay aH ?_);simp only [go_sem,seval,dy,bl];refine cH ?_;refine Go ?_ VX VX VX;refine ⟨k+1,by omega,by omega,?_⟩;rw [hlb];refine bA ?_;exact aZ
   |true=>
    rw [hb] at hgd;rw [hb,if_pos rfl] at hlb;refine Gx 3 (fun _ hc K hK K hK=>?_) VX VX VX;refine fU ?_;iterate 7 ((first|refine gU _ ay ?_|refine jf ay aH ?_);simp only [go_sem,seval,dy,bl])
    simp only [hgd];(first|refine gU _ ay ?_|refine jf ay aH ?_);simp only [go_sem,seval,dy,bl];iterate 10 (refine iT aR aR ?_;(first|refine gU _ ay ?_|refine jf ay aH ?_);simp only [go_sem,seval,dy,bl])
    refine iT aR aR ?_;(first|refine gU _ ay ?_|refine jf ay aH ?_);simp only [go_sem,seval,dy,bl];simp only [hst];refine iT aR aR ?_;(first|refine gU _ ay ?_|refine jf ay aH ?_);simp only [go_sem,seval,dy,bl];have hab:=TB hkv ((dm (bF t.facts s t.ops[k]):Nat):Int);have hat:Lv kv (bF t.facts s t.ops[k])=(lk kv ((dm (bF t.facts s t.ops[k]):Nat):Int)).getD 0:=rfl;rw [hat] at hlb;generalize ((dm (bF t.facts s t.ops[k]):Nat):Int)=w at *;refine iT aR aR ?_;refine b8 1000000002 hyp hya hyb aR aR aR aR aR aB aB aB aR ah aR aR ?_;simp only [go_sem,seval];refine gR ?_;refine bY ?_;(repeat' (refine gE ?_;refine iv ?_));refine ⟨_,_,Le.refl _,by rfl,by rfl,?_⟩;simp only [go_sem,seval];(repeat' (first|refine hK _ ?_;clear hK K|refine gD 6 ?_;refine dK (.r 0 9 (.it 9 1 (.r 10 2 (.it 12 3 .nil)))) ?_|refine c8 (fun K hK=>?_);(refine eF (JI (kt:=131) (kA:=kI .u32) (kv:=kv) (k:=w) aR aR aR).1 ?_)|refine gO ?_;refine kJ ?_|refine gE ?_;refine iv ?_|refine yO ?_;refine nQ ?_|refine bE ?_));refine ⟨_,_,_,1000000001,Le.refl _,by rfl,by rfl,by rfl,rfl,?_⟩;simp only [go_sem,seval];refine iT aR aR ?_;refine gU _ ay ?_;simp only [go_sem,seval,dy,bl];refine gU _ ay ?_;simp only [go_sem,seval,dy,bl];refine cH ?_;refine Go ?_ VX VX VX;refine ⟨k+1,by omega,by omega,?_⟩;rw [hlb];refine bA ?_;exact aZ
  obtain rfl:k=t.ops.length:=by omega
  refine Go (fun hc K hK=>?_) VX VX VX;refine ⟨_,_,.normal,1000000001,_,Le.refl _,iI,rfl,by rfl,?_⟩;simp only [go_sem,seval,dy,bl];refine hK9 _ ?_;clear hK9 hK;refine Go ?_ VX VX VX;exact VZ
end
end Go.Proofs.YtkbiagkbmodgdaaGreat
