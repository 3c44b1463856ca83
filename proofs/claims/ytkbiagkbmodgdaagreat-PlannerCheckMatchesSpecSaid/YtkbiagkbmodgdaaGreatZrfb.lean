/- Part of a proof. No condition. -/
import Derived.Test.YtkbiagkbmodgdaaGreatZph
import Derived.Test.YtkbiagkbmodgdaaGreatZdte
import Derived.Test.YtkbiagkbmodgdaaGreatZgg
set_option linter.unusedSimpArgs false
set_option linter.unusedVariables false
namespace Go.Proofs.YtkbiagkbmodgdaaGreat
open Go.Ab
open Go Tryz
set_option maxRecDepth 10000
section
theorem VA {P:Program} {bh:Nat→Option TI} [hT:Tb P bh] {ops:Array Oper} {hs:List Nat} {K:St→Prop} {r:Sc} {s:St} {d:Option Tmp} {fo:Operand} {f:FuncId} {caps:List AV} {args:Array Operand} {fx:Array TypeId} {ty:TypeId} {pos:String} {bF:Array Edge} {g:Option (Nat×Bool)} {x:AV} [hc:cI P f]
 (hf:s.eval fo= .fn f caps) (h:bm P f (cv s args++caps) (fun y=>y=x)) (hp:AV.cu (cv s args++caps)=true) (k:fv P bh ops hs K r (s.put d x)):iG P ops hs ⟨d,.call {callee:=.value fo,args,argTypes:=fx},ty,pos,bF,g⟩ r s K:=
 fun K' hK'=>fj hf h hp fun y hy=>by subst hy;exact hK' _ (pn _ _ k)
attribute [local irreducible] dP fv mu lV dj PV ff ew AW bm da en dQ cX Ab.Fin fi er gF iN RV kh Le eV fL ma iG kM dJ dt
set_option maxHeartbeats 4000000
attribute [local go_sem] ec
def mZ (args:List Int) (x:Int):Int:=if x < 0 then args[(-1 - x).toNat]! else x
theorem LW (x:Int) (args:List Int) (h:-(args.length:Int)≤x):bm prog 209 [.int x,ints args] (fun r=>r= .int (mZ args x)):=by
 refine bc func209 ntmps209 ?_;(refine bU (i:=1) rfl (fun hb=>?_);(try simp only [qa2] at hb));refine Go (fun _ hc K hK=>?_) (fun hc=>?_) VX VX
 all_goals (refine VY ?_)
 ·rw [mZ,if_pos ak,bq ak]
 rw [mZ,if_neg ak]
def SD (b:Bool):Int:=if b then 1 else 0
theorem LX (x:bG):bm prog 169 [x.av] (fun r=>r= .int (SD x.neg)):=by
 refine bc func169 ntmps169 ?_;refine Go (fun hc K hK=>?_) (fun hc=>?_) VX VX
 all_goals (refine VY ?_)
 all_goals simp [SD, *]
def DD (x y:bG):Int:=if wD x.x y.x=0 then lG (SD x.neg) (SD y.neg) else wD x.x y.x
theorem RT (x y:bG):DD x y=0↔x=y:=by
 obtain ⟨n,x⟩:=x;obtain ⟨m,y⟩:=y;unfold DD;simp only [bG.mk.injEq];split
 ·rename_i h
  rw [A6] at h;subst h;rw [n5];cases n<;>cases m<;>simp [SD]
 rename_i h;constructor
 ·exact fun e=>absurd e h
 exact fun e=>absurd ((A6 _ _).2 e.2) h
theorem Ru (x:bG):bm prog 163 [x.av] (fun r=>r=(bG.mk (!x.neg) x.x).av):=by
 refine bc func163 ntmps163 ?_;refine Go ?_ VX VX VX;refine V0 ?_;rfl
def j8 (l:List br) (a:br):Bool:=l.any (Ip a)
theorem LY (x:br) (l:List br):dR 166 [.bC [.int x.p,ints x.a]] br.av (Ip x) l:=by
 intro u hu;refine bc func166 ntmps166 ?_;(repeat' (first|refine gC 167 ?_;refine bg (uh _ _) ?_|intro (K:St→Prop) hK|intro hc|(refine Gf 99 ?_ ?_ ?_ ?_<;>try exact VX)|fail));refine VY ?_;rfl
theorem Bb (l:List br) (x:br):bm prog 116 [bQ l,x.av] (fun r=>r= .bool (j8 l x)):=by
 refine bc func116 ntmps116 ?_;(repeat' (first|refine gC 165 ?_;refine bg (C1 _ 166 [.bC [.int _,ints _]] rfl _ (LY ⟨_,_⟩ _)) ?_|refine bu (fun K hK=>?_);refine fy (bR 3 rfl rfl rfl) ?_;simp only [go_sem,seval];refine bt cL ?_|intro (K:St→Prop) hK|intro hc|(refine Gf 99 ?_ ?_ ?_ ?_<;>try exact VX)|fail));refine VY ?_;rfl
theorem OU (x y:bG):bm prog 120 [x.av,y.av] (fun r=>r= .int (DD x y)):=by
 refine bc func120 ntmps120 ?_;(repeat' (first|refine gD 2 ?_;refine dK (.r 0 4 (.r 5 2 (.r 8 2 (.it 4 1 (.it 7 1 (.it 10 1 (.it 11 1 (.it 12 1 (.it 13 1 (.it 14 0 .nil)))))))))) ?_|refine dH 167 ?_;refine bB (uh _ _) ?_|intro (K:St→Prop) hK|intro hc|(refine Gf 99 ?_ ?_ ?_ ?_<;>try exact VX)|fail));refine VA aR (LX x) aR ?_;simp only [go_sem,seval];(repeat' fail);refine VA aR (LX y) aR ?_;simp only [go_sem,seval];(repeat' (first|refine dH 171 ?_;refine bB (A4 _ _) ?_|refine dH 170 ?_;refine bB (Qf _ _) ?_|refine c8 (fun K hK=>?_);refine cN (d:=18) aJ aR aR aR aR ?_|intro (K:St→Prop) hK|intro hc|(refine rh 99 ?_ ?_ ?_ ?_<;>try exact VX)|fail));refine VY ?_;rfl
def LZ (x y:bG):Bool:=DD x y == 0
theorem Bv (x y:br):Ip x y=true↔x=y:=by rw [Ip,beq_iff_eq,A6]
theorem Bw (x y:bG):LZ x y=true↔x=y:=by rw [LZ,beq_iff_eq,RT]
def fY (l:List bG) (a:bG):Bool:=l.any (LZ a)
theorem yz {l:List br} {a:br}:j8 l a=true↔a∈l:=by simp [j8,qi0,Bv]
theorem ga {l:List bG} {a:bG}:fY l a=true↔a∈l:=by simp [fY,qi0,Bw]
theorem L0 (x:bG) (l:List bG):dR 119 [.bC [.bool x.neg,.int x.x.p,ints x.x.a]] bG.av (LZ x) l:=by
 intro u hu;refine bc func119 ntmps119 ?_;(repeat' (first|refine gC 120 ?_;refine bg (OU _ _) ?_|intro (K:St→Prop) hK|intro hc|(refine Gf 99 ?_ ?_ ?_ ?_<;>try exact VX)|fail));refine VY ?_;rfl
theorem wW (l:List bG) (x:bG):bm prog 57 [b9 l,x.av] (fun r=>r= .bool (fY l x)):=by
 refine bc func57 ntmps57 ?_;(repeat' (first|refine gC 118 ?_;refine bg (KO _ 119 [.bC [.bool _,.int _,ints _]] rfl _ (L0 ⟨_,⟨_,_⟩⟩ _)) ?_|refine bu (fun K hK=>?_);refine fy (bR 3 rfl rfl rfl) ?_;simp only [go_sem,seval];refine bt cL ?_|intro (K:St→Prop) hK|intro hc|(refine Gf 99 ?_ ?_ ?_ ?_<;>try exact VX)|fail));refine VY ?_;rfl
def jq (facts l:List bG):Nat→List Int
 |0=>[]
 |k+1=>jq facts l k++if fY l facts[k]! =true then [(k:Int)] else []
theorem uu (facts l:List bG):∀ k,(jq facts l k).length≤k
 |0=>qb3 _
 |k+1=>by
  have:=uu facts l k;rw [jq,qa3];split<;>simp<;>omega
theorem oR (facts l:List bG):bm prog 54 [b9 facts,b9 l] (fun r=>r=ints (jq facts l facts.length)):=by
 refine bc func54 ntmps54 ?_;(refine bU (i:=0) rfl (fun hb=>?_);(try simp only [qa2] at hb));refine Go (fun K hK=>?_) VX VX VX;refine fD 5 100 1 8 3 ?_;refine ba [5,6,7,10,11,12,13,14,15,16,17,18,19,20,21,22] (fun k:Nat=>k≤facts.length) (fun k=>facts.length - k) (fun k=>[(10,.int k),(5,.sl 1 8 100 0 (jq facts l k).length)]) (fun k=>[(100,⟨3,(jq facts l k).map AV.int,false⟩)]) 0 ak ?_ ?_
 ·refine bA ?_
  exact aZ
 rintro k hk K hK;refine bA ?_;have hrl:=uu facts l k;by_cases hlt:k < facts.length
 ·have hst:jq facts l (k+1)=jq facts l k++if fY l facts[k]=true then [(k:Int)] else []:=by rw [jq,bq hlt]
  have hh:=wW l facts[k];(repeat' (first|refine gC 57 ?_;refine bg (hh) ?_|refine bu (fun K hK=>?_);(refine ck ?_;simp only [go_sem,seval,dy,bl])|intro (K:St→Prop) hK|intro hc|(refine Gf 99 ?_ ?_ ?_ ?_<;>try exact VX)|fail))
  ·refine ⟨k+1,by omega,by omega,?_⟩
   rw [hst,if_pos aE];refine bA ?_;refine ea (by (repeat (first|exact .nil|refine .drop ?_|refine dG ?_ aS))) aI
  refine ⟨k+1,by omega,by omega,?_⟩;rw [hst,if_neg (by simp_all),qe5];refine bA ?_;exact aZ
 obtain rfl:k=facts.length:=by omega
 refine iy (fun hc K hK=>?_) VX VX VX;refine kj (jq facts l facts.length) rfl aR aR rfl (fun _=>rfl) (fun _=>rfl) rfl
def sQ (n:Nat) (x:br):Prop:=∀ i (h:i < x.a.length),-(n:Int)≤x.a[i]
def dw (args:List Int) (x:br):br:=⟨x.p,x.a.map (mZ args)⟩
theorem Gr (x:br) (args:List Int) (h:sQ args.length x):bm prog 162 [x.av,ints args] (fun r=>r=(dw args x).av):=by
 obtain ⟨p,a⟩:=x;refine bc func162 ntmps162 ?_;refine Go (fun K hK=>?_) VX VX VX;(refine dZ (id:=2) (j:=1) rfl rfl (fun hba=>?_);(try simp only [qa2] at hba));(refine cE (fe 5 1 100 1 8 3 aR aR al) ?_;simp only [go_sem,seval]);refine ba [7,14,15,16,17,18,19,20,21,22,23,24,25,26] (fun k:Nat=>k≤a.length) (fun k=>a.length - k) (fun k=>[(14,.int k)]) (fun k=>[(4,⟨66,[.v (.int .i64 0),.v (.slice none 0 0)],true⟩),(5,⟨66,[.int p,.sl 1 8 100 0 k],true⟩),(100,⟨3,((a.take k).map (mZ args)).map AV.int,false⟩)]) 0 ak ?_ ?_
 ·refine bA ?_
  exact aZ
 rintro k hk K hK;refine bA ?_;by_cases hlt:k < a.length
 ·have hv:=LW a[k] args (h k hlt)
  have hs:(a.take (k+1)).map (mZ args)=(a.take k).map (mZ args)++[mZ args a[k]]:=by rw [qa5 hlt,qb5];rfl
  have hlk:((a.take k).map (mZ args)).length=k:=by simp;omega
  generalize (a.take k).map (mZ args)=l at *;(repeat' (first|refine gD 5 ?_;refine dK (.r 0 4 (.it 4 1 (.it 5 1 (.it 6 3 (.it 7 1 (.it 8 3 .nil)))))) ?_|refine dH 209 ?_;refine bB (hv) ?_|refine c8 (fun K hK=>?_);(first|refine eF (cf aR aR az) ?_|refine cN (d:=23) aJ aR aR aR aR ?_)|refine fQ (fun K hK=>?_);refine ck ?_|refine gO ?_;refine kJ ?_|intro (K:St→Prop) hK|intro hc|(refine rh 99 ?_ ?_ ?_ ?_<;>try exact VX)|fail));refine ⟨k+1,by omega,by omega,?_⟩;rw [hs];refine bA ?_;exact aZ
 obtain rfl:k=a.length:=by omega
 rw [qd2];(refine cE (mv 100 a.length (a.map (mZ args)) aR aN) ?_;simp only [go_sem,seval]);refine iy (fun hc K hK=>?_) VX VX VX;refine V0 ?_;rfl
end
section
attribute [local irreducible] dP fv mu lV dj PV ff ew AW bm da en dQ cX Ab.Fin fi er gF iN RV kh Le eV fL ma iG kM dJ dt
set_option maxHeartbeats 4000000
attribute [local go_sem] ec
theorem uA (s:j7):bm prog 96 [str s] (fun r=>r= .bool (lF s)):=by
 obtain ⟨b,hb⟩:=s;refine bc func96 ntmps96 ?_;refine Go (fun K hK=>?_) VX VX VX;refine ba [2,3,4,5,6,7,8,9,10,11,12,13,14,15,16,17,18,19,20,21,22,23,24,25,26,27,28,29,30] (fun k:Nat=>k≤b.size∧∀ i,i < k→E3 i (E4 b i)=true) (fun k=>b.size - k) (fun k=>[(3,.int k)]) (fun _=>[]) 0 ⟨by omega,by omega⟩ ?_ ?_
 ·refine bA ?_
  exact aZ
 rintro k ⟨hk,hn⟩ K hK;refine bA ?_;by_cases hlt:k < b.size
 ·have hs:E3 k (E4 b k)=true→∀ i,i < k+1→E3 i (E4 b i)=true:=fun h i hi=>by
   rcases qc4 i k with h1|h1
   ·exact hn i h1
   obtain rfl:i=k:=by omega
   exact h
  have hno:¬E3 k (E4 b k)=true→lF ⟨b,hb⟩=false:=fun h=>by
   have:((List.range b.size).all fun i=>E3 i (E4 b i))=false:=by rw [List.all_eq_false];exact ⟨k,qh2.2 hlt,h⟩
   simp [lF,this]
  rw [Qd,← KI hlt] at hs hno;have hu:b[k].toNat < 256:=UInt8.toNat_lt _;(repeat' (first|refine gC 82 ?_;refine bg (qb _ _ _) ?_|intro (K:St→Prop) hK|intro hc|(refine Gf 99 ?_ ?_ ?_ ?_<;>try exact VX)|fail))
  all_goals first
   |(refine ⟨k+1,⟨by omega,hs ak⟩,by omega,?_⟩;(refine bA ?_);(exact aZ))
   |((refine VY ?_);rw [hno ak])
 have hall:((List.range b.size).all fun i=>E3 i (E4 b i))=true:=by rw [qc8];exact fun i hi=>hn i (by have:=qh2.1 hi;omega)
 (repeat' (first|refine gC 82 ?_;refine bg (qb _ _ _) ?_|intro (K:St→Prop) hK|intro hc|(refine yJ 99 ?_ ?_ ?_ ?_<;>try exact VX)|fail));refine VY ?_;simp only [lF,hall,qf4,KD];congr 1;rw [← Bool.decide_and,← Bool.decide_and,decide_eq_decide];omega
theorem z7 (d:cR) (ps:List Int):bm prog 97 [d.av,ints ps] (fun r=>r= .int (fG d ps)):=by
 obtain ⟨ty,ob,pr,sc,cB,go⟩:=d;refine bc func97 ntmps97 ?_;(refine bU (i:=1) rfl (fun hb=>?_);(try simp only [qa2] at hb));refine Gx 1 (fun K hK K hK=>?_) VX VX VX;(refine dZ (id:=2) (j:=0) rfl rfl (fun hbt=>?_);(try simp only [qa2] at hbt));refine Go (fun hc=>?_) (fun hc K hK=>?_) VX VX
 ·refine VY ?_
  rw [fG,if_pos ak]
 refine ba [4,5,9,10,11,12,13,14,15,16,17,18,19,20,21,22,23,24] (fun k:Nat=>k≤ps.length∧∀ i (hi:i < ps.length),i < k→E6 ty.length ps[i]=false) (fun k=>ps.length - k) (fun k=>[(5,.int k)]) (fun _=>[(2,⟨29,[cW ty,cW ob,cY pr,dV sc,bQ cB,b9 go],true⟩)]) 0 ⟨by omega,by omega⟩ ?_ ?_
 ·refine bA ?_
  exact aZ
 rintro k ⟨hk,hn⟩ K hK;refine bA ?_;by_cases hlt:k < ps.length
 ·have hp:E6 ty.length ps[k]= !KD ps[k] (-1) ((ty.length:Int) - 1):=by
   unfold E6 KD;rw [qf7];simp;omega
  (repeat' (first|refine gD 6 ?_;refine dK (.r 0 8 (.it 8 1 (.it 9 0 .nil))) ?_|refine dH 82 ?_;refine bB (qb _ _ _) ?_|intro (K:St→Prop) hK|intro hc|(refine Gf 99 ?_ ?_ ?_ ?_<;>try exact VX)|fail))
  ·refine VY ?_
   rw [fG,if_neg ak,if_pos];rw [qi0];exact ⟨_,qa4 hlt,by rw [hp,qb7,KF];omega⟩
  (refine ⟨k+1,⟨by omega,cj hn fun _=>by rw [hp,qj5,KE];omega⟩,by omega,?_⟩;(refine bA ?_);(exact aZ))
 refine iy (fun hc K hK=>?_) VX VX VX;refine VY ?_;rw [fG,if_neg ak,if_neg];simp only [qj7,qi6];intro x hx;obtain ⟨i,hi,rfl⟩:=qa9 hx;simp [hn i hi ak]
theorem Ft (l:List (j7×Int)) (hl:nZ l):∀ (n:Nat) (t:Int),(t+1).toNat≤n→t < l.length→bm prog 201 [cW l,.int t] (fun r=>r=ints (wC l t)):=by
 intro n
 induction n with
 |zero=>
  intro t hn ht;rw [C7 ak];refine bc func201 ntmps201 ?_;refine Go (fun hc K hK=>?_) VX VX VX;refine VY ?_;rfl
 |succ n ih=>
  intro t hn ht;by_cases h:t < 0
  ·rw [C7 ak]
   refine bc func201 ntmps201 ?_;refine Go (fun hc K hK=>?_) VX VX VX;refine VY ?_;rfl
  have hlt:t.toNat < l.length:=by omega
  have hp:=hl t.toNat hlt;have c1:=ih l[t.toNat].2 ak ak;have hlen:(wC l l[t.toNat].2).length≤l.length+1:=by have:=C8 l (l[t.toNat].2+1).toNat l[t.toNat].2;unfold wC;omega
  rw [Io hl ak hlt];generalize wC l l[t.toNat].2=s at *;refine bc func201 ntmps201 ?_;(refine bU (i:=0) rfl (fun hb=>?_);(try simp only [qa2] at hb));refine Gx 3 (fun hc K hK=>?_) VX VX VX;refine dU ?_;refine cn rfl (fun K1 hK1=>?_);refine bt jh ?_;simp only [go_sem,seval];refine hK1 _ ?_;clear hK1 K1;refine cn rfl (fun K1 hK1=>?_);refine ka (kW (d:=9) ⟨by decide,by decide,by decide⟩ aR aR aR aR aR ?_);simp only [go_sem,seval];refine hK1 _ ?_;clear hK1 K1;refine DW ?_;(repeat' (first|refine gC 201 ?_;refine bg (c1) ?_|refine bu (fun K hK=>?_);refine ck ?_|intro (K:St→Prop) hK|intro hc|(refine Gf 99 ?_ ?_ ?_ ?_<;>try exact VX)|fail));simp only [lq (f:=AV.int) (fun _=>rfl),Nat.add_comm 1 s.length];refine kj (t::s) rfl aR aR rfl (fun _=>rfl) (fun _=>rfl) rfl
theorem uB (l:List (j7×Int)) (a b:Int) (hl:nZ l) (ha:a < l.length):bm prog 154 [cW l,.int a,.int b] (fun r=>r= .bool (yc l a b)):=by
 have h:=KW l a b;have c1:=vk (wC l a) b;rw [h] at c1;refine bc func154 ntmps154 ?_;(repeat' (first|refine gC 201 ?_;refine bg (Ft _ aE _ _ (qb3 _) ak) ?_|refine gC 148 ?_;refine bg (c1) ?_|intro (K:St→Prop) hK|intro hc|(refine Gf 99 ?_ ?_ ?_ ?_<;>try exact VX)|fail));refine VY ?_;rfl
theorem OV (ts dg:List (j7×Int)) (t:Int) (hl:nZ ts) (ho:nB ts dg) (h8:dg.length≤8):bm prog 101 [cW ts,cW dg,.int t] (fun r=>r=ints (wB ts dg t dg.length)):=by
 refine bc func101 ntmps101 ?_;refine Go (fun K hK=>?_) VX VX VX;refine fD 7 100 1 8 3 ?_;refine ba [7,8,9,10,11,12,13,14,15,16,17,18,19,20,21,22,23,24,25,26] (fun k:Nat=>k≤dg.length) (fun k=>dg.length - k) (fun k=>[(8,.int k),(7,.sl 1 8 100 0 (wB ts dg t k).length)]) (fun k=>[(100,⟨3,(wB ts dg t k).map AV.int,false⟩)]) 0 ak ?_ ?_
 ·refine bA ?_
  exact aZ
 rintro k hk K hK;refine bA ?_;have hrl:=nH ts dg t k;by_cases hlt:k < dg.length
 ·have hob:=ho k hlt
  have hst:wB ts dg t (k+1)=wB ts dg t k++if yc ts dg[k].2 t=true then [(k:Int)] else []:=by rw [wB,bq hlt]
  (repeat' (first|refine gC 154 ?_;refine bg (uB _ _ _ aE ak) ?_|refine bu (fun K hK=>?_);(refine ck ?_;simp only [go_sem,seval,dy,bl])|intro (K:St→Prop) hK|intro hc|(refine Gf 99 ?_ ?_ ?_ ?_<;>try exact VX)|fail))
  ·refine ⟨k+1,by omega,by omega,?_⟩
   rw [hst,if_pos aE];refine bA ?_;refine ea (by (repeat (first|exact .nil|refine .drop ?_|refine dG ?_ aS))) aI
  refine ⟨k+1,by omega,by omega,?_⟩;rw [hst,if_neg (by simp_all),qe5];refine bA ?_;exact aZ
 obtain rfl:k=dg.length:=by omega
 refine iy (fun hc K hK=>?_) VX VX VX;refine kj (wB ts dg t dg.length) rfl aR aR rfl (fun _=>rfl) (fun _=>rfl) rfl
theorem uC (a b:Int):bm prog 156 [.int a,.int b] (fun r=>r= .int (lG a b)):=by
 refine bc func156 ntmps156 ?_;refine Go (fun hc K hK=>?_) (fun hc hc K hK=>?_) (fun hc hc=>?_) VX
 all_goals (refine VY ?_)
 all_goals (unfold lG;(repeat' split)<;>first|rfl|omega)
theorem qR:∀ {a b:List Int},(∀ i (h:i < a.length) (h2:i < b.length),a[i]=b[i])→fh a b=lG a.length b.length
 |[],[],_=>rfl
 |[],_::_,_=>by rw [fh,lG,if_pos (by simp only [qf1,qb8];omega)]
 |_::_,[],_=>by rw [fh,lG,if_neg (by simp only [qf1,qb8];omega),if_pos (by simp only [qf1,qb8];omega)]
 |x::a,y::b,h=>by
  have h0:x=y:=h 0 aC aC;rw [fh,if_pos ((n5 _ _).2 h0),qR fun i h1 h2=>h (i+1) (by simpa using h1) (by simpa using h2)];unfold lG;simp only [qb8];(repeat' split)<;>omega
theorem sV:∀ {a b:List Int} {k:Nat} (ha:k < a.length) (hb:k < b.length),(∀ i (h:i < a.length) (h2:i < b.length),i < k→a[i]=b[i])→a[k]≠b[k]→fh a b=lG a[k] b[k]
 |x::a,y::b,0,_,_,_,hne=>by
  rw [fh,if_neg (fun e=>hne ((n5 x y).1 e))];rfl
 |x::a,y::b,k+1,ha,hb,h,hne=>by
  have h0:x=y:=h 0 aC aC ak;rw [fh,if_pos ((n5 _ _).2 h0)];exact sV (by simpa using ha) (by simpa using hb) (fun i h1 h2 h3=>h (i+1) (by simpa using h1) (by simpa using h2) ak) hne
theorem GM (x y:br):bm prog 106 [x.av,y.av] (fun r=>r= .int (wD x y)):=by
 obtain ⟨p,a⟩:=x;obtain ⟨q,b⟩:=y;unfold wD;refine bc func106 ntmps106 ?_;(repeat' (first|refine gC 156 ?_;refine bg (uC _ _) ?_|intro (K:St→Prop) hK|intro hc|(refine Gf 99 ?_ ?_ ?_ ?_<;>try exact VX)|fail))
 ·refine VY ?_
  rw [if_neg (fun e=>by have:=(n5 _ _).1 e;omega)]
 have hpq:lG p q=0:=(n5 _ _).2 ak;(refine dZ (id:=2) (j:=1) rfl rfl (fun hba=>?_);(try simp only [qa2] at hba));(refine dZ (id:=3) (j:=1) rfl rfl (fun hbb=>?_);(try simp only [qa2] at hbb));refine ba [4,5,16,17,18,19,20,21,22,23,24,25,26,27,28,29,30,31,32,33,34,35,36,37,38,39,40,41,42,43,44,45,46,47,48,49,50,51] (fun k:Nat=>(k≤a.length∧k≤b.length)∧∀ i (h:i < a.length) (h2:i < b.length),i < k→a[i]=b[i]) (fun k=>a.length - k) (fun k=>[(5,.int k)]) (fun _=>[(2,⟨66,[.int p,ints a],true⟩),(3,⟨66,[.int q,ints b],true⟩)]) 0 ⟨by omega,by omega⟩ ?_ ?_
 ·refine bA ?_
  exact aZ
 rintro k ⟨hk,hn⟩ K hK;refine bA ?_;by_cases hlt:k < a.length
 ·by_cases hl2:k < b.length
  ·(repeat' (first|refine gD 6 ?_;refine dK (.r 0 11 .nil) ?_|refine gD 7 ?_;refine V7 ?_|refine dH 156 ?_;refine bB (uC _ _) ?_|intro (K:St→Prop) hK|intro hc|(refine Gf 99 ?_ ?_ ?_ ?_<;>try exact VX)|fail))
   ·refine VY ?_
    rw [if_pos hpq,sV hlt hl2 hn aE]
   (refine ⟨k+1,⟨by omega,fun i h1 h2 h3=>(qc4 i k).elim (hn i h1 h2) fun h4=>(by obtain rfl:i=k:=ak;assumption)⟩,by omega,?_⟩;(refine bA ?_);(exact aZ))
  (repeat' (first|refine gC 156 ?_;refine bg (uC _ _) ?_|intro (K:St→Prop) hK|intro hc|(refine yJ 99 ?_ ?_ ?_ ?_<;>try exact VX)|fail));refine VY ?_;rw [if_pos hpq,qR fun i h1 h2=>hn i h1 h2 ak]
 (repeat' (first|refine gC 156 ?_;refine bg (uC _ _) ?_|intro (K:St→Prop) hK|intro hc|(refine yJ 99 ?_ ?_ ?_ ?_<;>try exact VX)|fail));refine VY ?_;rw [if_pos hpq,qR fun i h1 h2=>hn i h1 h2 ak]
theorem L1 (x y:br):bm prog 105 [x.av,y.av] (fun r=>r= .bool (Ip x y)):=by
 refine bc func105 ntmps105 ?_;(repeat' (first|refine gC 106 ?_;refine bg (GM _ _) ?_|intro (K:St→Prop) hK|intro hc|(refine Gf 99 ?_ ?_ ?_ ?_<;>try exact VX)|fail));refine VY ?_;rfl
theorem L2 (x y:br):Ip x y=Ip y x:=by rw [qf7,Bv,Bv,eq_comm]
theorem DE (l:List br) (x:br):bm prog 46 [bQ l,x.av] (fun r=>r= .bool (j8 l x)):=by
 have hA:=fun y=>L1 y x;refine bc func46 ntmps46 ?_;(refine bU (i:=0) rfl (fun hb=>?_);(try simp only [qa2] at hb));refine Go (fun K hK=>?_) VX VX VX;refine ba [4,5,6,7,8,9,10,11,12,13,14,15,16,17] (fun k:Nat=>k≤l.length∧∀ i (hi:i < l.length),i < k→Ip x l[i]=false) (fun k=>l.length - k) (fun k=>[(5,.int k)]) (fun _=>[(3,⟨66,[.int x.p,ints x.a],true⟩)]) 0 ⟨by omega,by omega⟩ ?_ ?_
 ·refine bA ?_
  exact aZ
 rintro k ⟨hk,hn⟩ K hK;refine bA ?_;by_cases hlt:k < l.length
 ·have h1:=hA l[k]
  rw [L2] at h1;(repeat' (first|refine gD 4 ?_;refine dK (.r 0 5 (.it 5 1 .nil)) ?_|refine dH 105 ?_;refine bB (h1) ?_|intro (K:St→Prop) hK|intro hc|(refine Gf 99 ?_ ?_ ?_ ?_<;>try exact VX)|fail))
  ·refine VY ?_
   rw [j8,show l.any (Ip x)=true from qi0.2 ⟨_,qa4 hlt,by assumption⟩]
  (refine ⟨k+1,⟨by omega,cj hn fun _=>by simp only [*]⟩,by omega,?_⟩;(refine bA ?_);(exact aZ))
 refine iy (fun hc K hK=>?_) VX VX VX;refine VY ?_;rw [j8,show l.any (Ip x)=false from qi6.2 fun y hy=>by
  obtain ⟨i,hi,rfl⟩:=qa9 hy;rw [hn i hi ak];simp]
theorem OW (x y:bG):bm prog 47 [x.av,y.av] (fun r=>r= .int (DD x y)):=by
 obtain ⟨n,x⟩:=x;obtain ⟨m,y⟩:=y;have h1:=GM x y;unfold DD;simp only;generalize wD x y=c at *;refine bc func47 ntmps47 ?_;cases n<;>cases m
 all_goals (repeat' (first|refine gC 106 ?_;refine bg (h1) ?_|intro (K:St→Prop) hK|intro hc|(refine Gf 99 ?_ ?_ ?_ ?_<;>try exact VX)|fail))
 all_goals (refine VY ?_)
 all_goals first
  |(rw [if_neg aE];done)
  |(rw [if_pos aE];simp [*,SD,lG];done)
theorem L3 (x y:bG):LZ x y=LZ y x:=by rw [qf7,Bw,Bw,eq_comm]
theorem oW (l:List bG) (x:bG):bm prog 20 [b9 l,x.av] (fun r=>r= .bool (fY l x)):=by
 have hA:=fun y=>OW y x;refine bc func20 ntmps20 ?_;(refine bU (i:=0) rfl (fun hb=>?_);(try simp only [qa2] at hb));refine Go (fun K hK=>?_) VX VX VX;refine ba [4,5,6,7,8,9,10,11,12,13,14,15,16,17,18] (fun k:Nat=>k≤l.length∧∀ i (hi:i < l.length),i < k→LZ x l[i]=false) (fun k=>l.length - k) (fun k=>[(5,.int k)]) (fun _=>[(3,⟨68,[.bool x.neg,.int x.x.p,ints x.x.a],true⟩)]) 0 ⟨by omega,by omega⟩ ?_ ?_
 ·refine bA ?_
  exact aZ
 rintro k ⟨hk,hn⟩ K hK;refine bA ?_;by_cases hlt:k < l.length
 ·have h1:=hA l[k]
  have e:LZ x l[k]=decide (DD l[k] x=0):=by rw [L3,LZ,AY]
  generalize DD l[k] x=c at *;(repeat' (first|refine gD 4 ?_;refine dK (.r 0 5 (.it 5 1 (.it 6 0 .nil))) ?_|refine dH 47 ?_;refine bB (h1) ?_|intro (K:St→Prop) hK|intro hc|(refine Gf 99 ?_ ?_ ?_ ?_<;>try exact VX)|fail))
  ·refine VY ?_
   rw [fY,show l.any (LZ x)=true from qi0.2 ⟨_,qa4 hlt,by rw [e,decide_eq_true_eq];assumption⟩]
  (refine ⟨k+1,⟨by omega,cj hn fun _=>by rw [e,decide_eq_false_iff_not];assumption⟩,by omega,?_⟩;(refine bA ?_);(exact aZ))
 refine iy (fun hc K hK=>?_) VX VX VX;refine VY ?_;rw [fY,show l.any (LZ x)=false from qi6.2 fun y hy=>by
  obtain ⟨i,hi,rfl⟩:=qa9 hy;rw [hn i hi ak];simp]
theorem wj (l:List bG):bm prog 100 [b9 l] (fun r=>r=bQ (l.map bG.x)):=by
 refine bc func100 ntmps100 ?_;(refine bU (i:=0) rfl (fun hb=>?_);(try simp only [qa2] at hb));refine Go (fun K hK=>?_) VX VX VX;refine fD 3 100 2 32 66 ?_;refine ba [3,4,5,6,7,8,9,10,11,12,13,14,15,16,17,18] (fun k:Nat=>k≤l.length) (fun k=>l.length - k) (fun k=>[(4,.int k),(3,.sl 2 32 100 0 k)]) (fun k=>[(100,⟨66,((l.take k).map bG.x).flatMap kG,false⟩)]) 0 ak ?_ ?_
 ·refine bA ?_
  exact aZ
 rintro k hk K hK;refine bA ?_;by_cases hlt:k < l.length
 ·(repeat' (first|refine bu (fun K hK=>?_);(refine ck ?_;simp only [go_sem,seval,dy,bl])|intro (K:St→Prop) hK|intro hc|(refine Gf 99 ?_ ?_ ?_ ?_<;>try exact VX)|fail))
  have hst:((l.take (k+1)).map bG.x).flatMap kG=((l.take k).map bG.x).flatMap kG++[.int l[k].x.p,ints l[k].x.a]:=by rw [qa5 hlt,qb5,qd8];rfl
  refine ⟨k+1,by omega,by omega,?_⟩;rw [hst];refine bA ?_;exact aZ
 obtain rfl:k=l.length:=by omega
 rw [qd2];refine HA 6 (fun hc K hK K hK=>?_) VX VX VX;(refine cE (cV (f:=br.av) 100 2 32 l.length (l.map bG.x) aR (mS _) aN (fun _=>rfl) (fun _=>rfl) ak) ?_;try simp only [go_sem,seval]);refine Go ?_ VX VX VX;refine VY ?_;rfl
theorem L4 (d:cR) (ps:List Int) (x:br) (hl:nZ d.types) (ho:nB d.types d.dg) (hp:qH d ps):bm prog 153 [d.av,ints ps,x.av] (fun r=>r= .int (jH d ps x)):=by
 obtain ⟨ty,ob,pr,sc,cB,go⟩:=d;obtain ⟨p,a⟩:=x;simp only at hl ho;refine bc func153 ntmps153 ?_;(refine bU (i:=1) rfl (fun hb=>?_);(try simp only [qa2] at hb));refine Gx 1 (fun K hK K hK=>?_) VX VX VX;(refine dZ (id:=3) (j:=2) rfl rfl (fun hbp=>?_);(try simp only [qa2] at hbp));(refine dZ (id:=3) (j:=1) rfl rfl (fun hbo=>?_);(try simp only [qa2] at hbo));(refine dZ (id:=5) (j:=1) rfl rfl (fun hba=>?_);(try simp only [qa2] at hba));(repeat' (first|refine gC 82 ?_;refine bg (qb _ _ _) ?_|intro (K:St→Prop) hK|intro hc|(refine Gf 99 ?_ ?_ ?_ ?_<;>try exact VX)|fail))
 ·refine VY ?_
  rw [jH,if_pos aQ]
 ·refine VY ?_
  rw [jH,if_neg aQ,if_pos (by simp only;rw [bq ak];omega)]
 have hpl:p.toNat < pr.length:=by omega
 have hpb:=bq hpl;have hF:jH ⟨ty,ob,pr,sc,cB,go⟩ ps ⟨p,a⟩=(bx (vf ⟨ty,ob,pr,sc,cB,go⟩ ps ⟨p,a⟩) a.length).getD 0:=by rw [jH,if_neg aQ,if_neg (by simp only;rw [hpb];omega)]
 refine ba [6,8,9,10,32,33,34,35,36,37,38,39,40,41,42,43,44,45,46,47,48,49,50,51,52,53,54,55,56,57,58,59,60,61,62,63,64,65,66,67,68,69,70,71,72,73,74,75] (fun k:Nat=>k≤a.length∧bx (vf ⟨ty,ob,pr,sc,cB,go⟩ ps ⟨p,a⟩) k=none) (fun k=>a.length - k) (fun k=>[(8,.int k)]) (fun _=>[(3,⟨29,[cW ty,cW ob,cY pr,dV sc,bQ cB,b9 go],true⟩),(5,⟨66,[.int p,ints a],true⟩)]) 0 ⟨by omega,rfl⟩ ?_ ?_
 ·refine bA ?_
  exact aZ
 rintro k ⟨hk,hn⟩ K hK;refine bA ?_;by_cases hlt:k < a.length
 ·have hkw:k < pr[p.toNat].ts.length:=by omega
  have hg:vf ⟨ty,ob,pr,sc,cB,go⟩ ps ⟨p,a⟩ k=match tY ⟨ty,ob,pr,sc,cB,go⟩ ps a[k] with
   |none=>some 3
   |some t=>if yc ty t pr[p.toNat].ts[k]=true then none else some 8:=by
   simp only [vf];rw [bq hlt,hpb,bq hkw];cases tY ⟨ty,ob,pr,sc,cB,go⟩ ps a[k]<;>rfl
  have hto:tY ⟨ty,ob,pr,sc,cB,go⟩ ps a[k]=if 0≤a[k]∧a[k] < ob.length then some ob[a[k].toNat]!.2 else if a[k] < 0∧-(ps.length:Int)≤a[k] then some ps[(-1 - a[k]).toNat]! else none:=rfl
  by_cases hr:-(ps.length:Int)≤a[k]∧a[k] < ob.length
  ·by_cases h0:a[k] < 0
   ·have hq:(-1 - a[k]).toNat < ps.length:=by omega
    have ht:=hp _ hq;rw [if_neg ak,if_pos ⟨h0,hr.1⟩,bq hq] at hto;rw [hto] at hg;simp only at hg ht;have e1:(-a[k] - 1).toNat=(-1 - a[k]).toNat:=by omega
    have hq2:(-a[k] - 1).toNat < ps.length:=by omega
    have e2:ps[(-1 - a[k]).toNat]=ps[(-a[k] - 1).toNat]:=by simp only [e1]
    rw [e2] at hg ht;have hs:=uB ty ps[(-a[k] - 1).toNat] pr[p.toNat].ts[k] hl ht.2;(repeat' (first|refine gD 16 ?_;refine dK (.r 0 7 (.it 7 1 (.it 8 0 .nil))) ?_|refine gC 82 ?_;refine bg (qb _ _ _) ?_|refine dH 154 ?_;refine bB (uB _ _ _ aE ak) ?_|intro (K:St→Prop) hK|intro hc|(refine Gf 99 ?_ ?_ ?_ ?_<;>try exact VX)|fail))
    ·refine VY ?_
     rw [if_neg (by simp_all)] at hg;rw [hF,cp hn hg hlt];rfl
    rw [if_pos aE] at hg;(refine ⟨k+1,⟨by omega,cJ hn hg⟩,by omega,?_⟩;(refine bA ?_);(exact aZ))
   have hq:a[k].toNat < ob.length:=by omega
   have ht:=ho _ hq;rw [if_pos ak,bq hq] at hto;rw [hto] at hg;simp only at hg ht;have hs:=uB ty ob[a[k].toNat].2 pr[p.toNat].ts[k] hl ht.2;(repeat' (first|refine gD 16 ?_;refine dK (.r 0 7 (.it 7 1 (.it 8 0 .nil))) ?_|refine gC 82 ?_;refine bg (qb _ _ _) ?_|refine dH 154 ?_;refine bB (uB _ _ _ aE ak) ?_|intro (K:St→Prop) hK|intro hc|(refine Gf 99 ?_ ?_ ?_ ?_<;>try exact VX)|fail))
   ·refine VY ?_
    rw [if_neg (by simp_all)] at hg;rw [hF,cp hn hg hlt];rfl
   rw [if_pos aE] at hg;(refine ⟨k+1,⟨by omega,cJ hn hg⟩,by omega,?_⟩;(refine bA ?_);(exact aZ))
  rw [if_neg ak,if_neg ak] at hto;rw [hto] at hg;(repeat' (first|refine gC 82 ?_;refine bg (qb _ _ _) ?_|intro (K:St→Prop) hK|intro hc|(refine Gf 99 ?_ ?_ ?_ ?_<;>try exact VX)|fail));refine VY ?_;rw [hF,cp hn hg hlt];rfl
 refine iy (fun hc K hK=>?_) VX VX VX;refine VY ?_;obtain rfl:k=a.length:=by omega
 rw [hF,hn];rfl
theorem oX (d:cR) (ps:List Int) (l:List br) (m:Int) (hl:nZ d.types) (ho:nB d.types d.dg) (hp:qH d ps):bm prog 99 [d.av,ints ps,bQ l,.int m] (fun r=>r= .int (dF d ps l m)):=by
 have hat:=fun x=>L4 d ps x hl ho hp;obtain ⟨ty,ob,pr,sc,cB,go⟩:=d;refine bc func99 ntmps99 ?_;(refine bU (i:=2) rfl (fun hb=>?_);(try simp only [qa2] at hb));refine Go (fun hc K hK=>?_) (fun hc K hK=>?_) VX VX
 ·refine VY ?_
  rw [dF,if_pos ak]
 have hF:dF ⟨ty,ob,pr,sc,cB,go⟩ ps l m=(bx (qa ⟨ty,ob,pr,sc,cB,go⟩ ps l) l.length).getD 0:=by rw [dF,if_neg ak]
 refine ba [8,9,10,15,16,17,18,19,20,21,22,23,24,25,26,27,28,29,30] (fun k:Nat=>k≤l.length∧bx (qa ⟨ty,ob,pr,sc,cB,go⟩ ps l) k=none) (fun k=>l.length - k) (fun k=>[(9,.int k)]) (fun _=>[(4,⟨29,[cW ty,cW ob,cY pr,dV sc,bQ cB,b9 go],true⟩)]) 0 ⟨by omega,rfl⟩ ?_ ?_
 ·refine bA ?_
  exact aZ
 rintro k ⟨hk,hn⟩ K hK;refine bA ?_;by_cases hlt:k < l.length
 ·have hk2:=hat l[k]
  have hg:qa ⟨ty,ob,pr,sc,cB,go⟩ ps l k=if jH ⟨ty,ob,pr,sc,cB,go⟩ ps l[k]=0 then none else some (jH ⟨ty,ob,pr,sc,cB,go⟩ ps l[k]):=by rw [qa,bq hlt]
  generalize jH ⟨ty,ob,pr,sc,cB,go⟩ ps l[k]=e at *;(repeat' (first|refine gD 6 ?_;refine Wb ?_|refine dH 153 ?_;refine bB (hk2) ?_|intro (K:St→Prop) hK|intro hc|(refine Gf 99 ?_ ?_ ?_ ?_<;>try exact VX)|fail))
  ·refine VY ?_
   rw [if_neg aE] at hg;rw [hF,cp hn hg hlt];rfl
  rw [if_pos aE] at hg;(refine ⟨k+1,⟨by omega,cJ hn hg⟩,by omega,?_⟩;(refine bA ?_);(exact aZ))
 refine iy (fun hc K hK=>?_) VX VX VX;refine VY ?_;obtain rfl:k=l.length:=by omega
 rw [hF,hn];rfl
def Fu (d:cR) (s:eg):Int:=
 if fG d s.ts≠0 then fG d s.ts
 else if 8 < s.diff.length then 2
 else if s.diff.any (tZ s.ts.length)=true then 3
 else if r9 d s.ts s.pre≠0 then r9 d s.ts s.pre
 else if dF d s.ts s.add 8≠0 then dF d s.ts s.add 8
 else if dF d s.ts s.del 8≠0 then dF d s.ts s.del 8
 else if s.cost < 0∨100 < s.cost then 3 else 0
theorem OX (d:cR) (s:eg) (hl:nZ d.types) (ho:nB d.types d.dg):bm prog 98 [d.av,s.av] (fun r=>r= .int (Fu d s)):=by
 have hpar:=z7 d s.ts;have hlit:=fun (hp:qH d s.ts)=>oX d s.ts (s.pre.map bG.x) 8 hl ho hp;have hadd:=fun (hp:qH d s.ts)=>oX d s.ts s.add 8 hl ho hp;have fg:=fun (hp:qH d s.ts)=>oX d s.ts s.del 8 hl ho hp;have hpok:=@pO d s.ts;have hQ:Fu d s=if fG d s.ts≠0 then fG d s.ts
  else if 8 < s.diff.length then 2
  else if s.diff.any (tZ s.ts.length)=true then 3
  else if dF d s.ts (s.pre.map bG.x) 8≠0 then dF d s.ts (s.pre.map bG.x) 8
  else if dF d s.ts s.add 8≠0 then dF d s.ts s.add 8
  else if dF d s.ts s.del 8≠0 then dF d s.ts s.del 8
  else if s.cost < 0∨100 < s.cost then 3 else 0:=rfl
 generalize Fu d s=R at *;generalize fG d s.ts=eP at *;generalize dF d s.ts (s.pre.map bG.x) 8=eL at *;generalize dF d s.ts s.add 8=eA at *;generalize dF d s.ts s.del 8=eD at *;obtain ⟨nm,ts,df,pre,ad,de,co⟩:=s;obtain ⟨ty,ob,pr,sc,cB,go⟩:=d;simp only at hpar hlit hadd fg hpok hQ;by_cases hP:eP=0
 ·have hts:=(hpok hP).2
  have h1:=hlit hts;have h2:=hadd hts;have h3:=fg hts;clear hlit hadd fg hpok;rw [if_neg (by simp [hP])] at hQ;subst hP;refine bc func98 ntmps98 ?_;(repeat' (first|refine gC 97 ?_;refine bg (hpar) ?_|intro (K:St→Prop) hK|intro hc|(refine Gf 99 ?_ ?_ ?_ ?_<;>try exact VX)|fail))
  ·refine VY ?_
   rw [hQ,if_pos ak]
  rw [if_neg ak] at hQ;refine ba [4,6,18,19,20,21,22,23,24,25,26,27,28,29,30,31,32,33,34,35,36,37,38,39,40,41,42,43,44,45,46,47,48,49,50,51,52,53,54,55,56,57,58] (fun k:Nat=>k≤df.length∧∀ i (hi:i < df.length),i < k→tZ ts.length df[i]=false) (fun k=>df.length - k) (fun k=>[(6,.int k)]) (fun _=>[(2,⟨29,[cW ty,cW ob,cY pr,dV sc,bQ cB,b9 go],true⟩),(3,⟨100,[str nm,ints ts,qg df,b9 pre,bQ ad,bQ de,.int co],true⟩)]) 0 ⟨by omega,by omega⟩ ?_ ?_
  ·refine bA ?_
   exact aZ
  rintro k ⟨hk,hn⟩ K hK;refine bA ?_;by_cases hlt:k < df.length
  ·have hd:tZ ts.length df[k]=true↔(df[k].1 < 0∨df[k].2≤df[k].1)∨(ts.length:Int)≤df[k].2:=by simp [tZ]
   have hy:tZ ts.length df[k]=true→R=3:=fun h=>by rw [hQ,if_pos (qi0.2 ⟨_,qa4 hlt,h⟩)]
   have hz:¬tZ ts.length df[k]=true→tZ ts.length df[k]=false:=by simp
   rw [hd] at hy hz;(repeat' (first|refine gD 9 ?_;refine dK (.r 0 34 .nil) ?_|intro (K:St→Prop) hK|intro hc|(refine rh 99 ?_ ?_ ?_ ?_<;>try exact VX)|fail))
   all_goals first
    |((refine VY ?_);rw [hy ak];done)
    |(refine ⟨k+1,⟨by omega,cj hn fun _=>hz ak⟩,by omega,?_⟩;(refine bA ?_);(exact aZ))
  have hno:¬df.any (tZ ts.length)=true:=by simp only [qj7,qi6];intro x hx;obtain ⟨i,hi,rfl⟩:=qa9 hx;simp [hn i hi ak]
  rw [if_neg hno] at hQ;(repeat' (first|refine gD 11 ?_;refine dK (.r 0 5 (.it 5 1 (.it 6 1 (.it 7 0 .nil)))) ?_|refine dH 100 ?_;refine bB (wj _) ?_|refine dH 99 ?_;refine bB (h1) ?_|intro (K:St→Prop) hK|intro hc|(refine yJ 12 ?_ ?_ ?_ ?_<;>try exact VX)|fail));by_cases hL:eL=0
  ·subst hL
   rw [if_neg aC] at hQ;(repeat' (first|refine gC 99 ?_;refine bg (h2) ?_|intro (K:St→Prop) hK|intro hc|(refine Gf 14 ?_ ?_ ?_ ?_<;>try exact VX)|fail));by_cases hA:eA=0
   ·subst hA
    rw [if_neg aC] at hQ;(repeat' (first|refine gC 99 ?_;refine bg (h3) ?_|refine gC 82 ?_;refine bg (qb _ _ _) ?_|intro (K:St→Prop) hK|intro hc|(refine Gf 99 ?_ ?_ ?_ ?_<;>try exact VX)|fail))
    all_goals (refine VY ?_)
    all_goals rw [hQ]
    all_goals first
     |(rw [if_neg ak,if_pos ak];done)
     |(rw [if_neg ak,if_neg ak];simp [*];done)
     |(rw [if_pos ak];done)
   rw [if_pos hA] at hQ;refine Go (fun hc hc=>?_) VX VX VX
   all_goals (refine VY ?_)
   all_goals rw [hQ]
  rw [if_pos hL] at hQ;refine Go (fun hc hc hc=>?_) VX VX VX
  all_goals (refine VY ?_)
  all_goals rw [hQ]
 rw [if_pos hP] at hQ;refine bc func98 ntmps98 ?_;(repeat' (first|refine gC 97 ?_;refine bg (hpar) ?_|intro (K:St→Prop) hK|intro hc|(refine Gf 99 ?_ ?_ ?_ ?_<;>try exact VX)|fail));refine VY ?_;rw [hQ]
theorem lK {α:Type} {p:α→Bool} {l:List α} {k:Nat}:(l.take k).any p=true↔∃ i,∃ h:i < l.length,i < k∧p l[i]=true:=by
 rw [qi0];constructor
 ·rintro ⟨x,hx,hp⟩
  obtain ⟨i,hi,rfl⟩:=qa9 hx;rw [qc0] at hi;rw [List.getElem_take] at hp;exact ⟨i,by omega,by omega,hp⟩
 rintro ⟨i,h,hk,hp⟩;exact ⟨l[i],qj6.2 ⟨i,by rw [qc0];omega,by rw [List.getElem_take]⟩,hp⟩
theorem OY (l:List (j7×Int)):bm prog 94 [cW l] (fun r=>r=fault (gP l).1 (gP l).2):=by
 refine bc func94 ntmps94 ?_;(refine bU (i:=0) rfl (fun hb=>?_);(try simp only [qa2] at hb));(repeat' (first|refine gC 12 ?_;refine We ?_|intro (K:St→Prop) hK|intro hc|(refine Gf 99 ?_ ?_ ?_ ?_<;>try exact VX)|fail))
 ·refine V0 ?_
  rw [gP,if_pos ak];rfl
 have hF:∀ {k:Nat} {q:Int×Int},k < l.length→bx (C3 l) k=none→C3 l k=some q→gP l=q:=fun hk h1 h2=>by
  rw [gP,if_neg ak,cp h1 h2 hk];rfl
 refine ba [3,4,9,10,11,12,13,14,15,16,17,18,19,20,21,22,23,24,25,26,27,28,29,30,31,32,33,34,35,36,37,38,39,40,41,42,43,44,45,46,47,48,49,50,51,52,53,54,55,56,57,58,59,60] (fun k:Nat=>k≤l.length∧bx (C3 l) k=none) (fun k=>l.length - k) (fun k=>[(3,.int k)]) (fun _=>[(2,⟨42,[.v (.int .i64 0),.v (.int .i64 0)],true⟩)]) 0 ⟨by omega,rfl⟩ ?_ ?_
 ·refine bA ?_
  exact aZ
 rintro k ⟨hk,hn⟩ K hK;refine bA ?_;by_cases hlt:k < l.length
 ·have hg:C3 l k=if lF l[k].1=false∨l[k].1.b.toList=KP.toList then some (12,(k:Int)) else if (l.take k).any (fun u=>iQ u.1 l[k].1) then some (7,(k:Int)) else if l[k].2 < -1∨(k:Int)≤l[k].2 then some (3,(k:Int)) else none:=by rw [C3,bq hlt]
  have hF2:=fun q=>hF (q:=q) hlt hn;have hS:=fun h=>cJ (g:=C3 l) hn h;rw [hg] at hF2 hS;clear hg;(repeat' (first|refine gC 12 ?_;refine We ?_|refine gC 96 ?_;refine bg (uA _) ?_|intro (K:St→Prop) hK|intro hc|(refine Gf 99 ?_ ?_ ?_ ?_<;>try exact VX)|fail))
  all_goals first
   |((refine V0 ?_);refine congrArg (fun q:Int×Int=>fault q.1 q.2) (hF2 (12,(k:Int)) ?_).symm;rw [if_pos (by first|exact .inl aE|exact .inr aE)];done)
   |skip
  rw [if_neg (by rintro (h|h)<;>simp_all [KP])] at hF2 hS;refine ba [4,32,33,34,35,36,37,38,39,40,41,42,43,44,45,46,47,48,49] (fun j:Nat=>j≤k∧∀ i (hi:i < l.length),i < j→iQ l[i].1 l[k].1=false) (fun j=>k - j) (fun j=>[(4,.int j)]) (fun _=>[(2,⟨42,[.v (.int .i64 0),.v (.int .i64 0)],true⟩)]) 0 ⟨by omega,by omega⟩ ?_ ?_
  ·refine bA ?_
   exact aZ
  rintro j ⟨hj,hm⟩ K hK;refine bA ?_;by_cases hjk:j < k
  ·have hjl:j < l.length:=by omega
   (repeat' (first|refine gD 11 ?_;refine dK (.r 0 11 .nil) ?_|refine gC 12 ?_;refine We ?_|intro (K:St→Prop) hK|intro hc|(refine Gf 99 ?_ ?_ ?_ ?_<;>try exact VX)|fail))
   ·refine V0 ?_
    refine congrArg (fun q:Int×Int=>fault q.1 q.2) (hF2 (7,(k:Int)) ?_).symm;rw [if_pos (lK.2 ⟨j,hjl,hjk,by unfold iQ;simp_all⟩)]
   (refine ⟨j+1,⟨by omega,cj hm fun _=>by unfold iQ;simp_all⟩,by omega,?_⟩;(refine bA ?_);(exact aZ))
  rw [if_neg (fun h=>by
   obtain ⟨i,hi,hik,hp⟩:=lK.1 h;rw [hm i hi ak] at hp;cases hp)] at hF2 hS
  (repeat' (first|refine gC 12 ?_;refine We ?_|refine gC 82 ?_;refine bg (qb _ _ _) ?_|intro (K:St→Prop) hK|intro hc|(refine yJ 99 ?_ ?_ ?_ ?_<;>try exact VX)|fail))
  ·refine V0 ?_
   refine congrArg (fun q:Int×Int=>fault q.1 q.2) (hF2 (3,(k:Int)) ?_).symm;rw [if_pos ak]
  (refine ⟨k+1,⟨by omega,hS (by rw [if_neg ak])⟩,by omega,?_⟩;(refine bA ?_);(exact aZ))
 refine iy (fun hc K hK=>?_) VX VX VX;refine V0 ?_;obtain rfl:k=l.length:=by omega
 rw [gP,if_neg ak,hn];rfl
theorem OZ (ts l:List (j7×Int)):bm prog 95 [cW ts,cW l] (fun r=>r=fault (jK ts.length l).1 (jK ts.length l).2):=by
 refine bc func95 ntmps95 ?_;(refine bU (i:=0) rfl (fun hb0=>?_);(try simp only [qa2] at hb0));(refine bU (i:=1) rfl (fun hb=>?_);(try simp only [qa2] at hb));(repeat' (first|refine gC 12 ?_;refine We ?_|intro (K:St→Prop) hK|intro hc|(refine Gf 99 ?_ ?_ ?_ ?_<;>try exact VX)|fail))
 ·refine V0 ?_
  rw [jK,if_pos ak];rfl
 have hF:∀ {k:Nat} {q:Int×Int},k < l.length→bx (C4 ts.length l) k=none→C4 ts.length l k=some q→jK ts.length l=q:=fun hk h1 h2=>by
  rw [jK,if_neg ak,cp h1 h2 hk];rfl
 refine ba [5,6,11,12,13,14,15,16,17,18,19,20,21,22,23,24,25,26,27,28,29,30,31,32,33,34,35,36,37,38,39,40,41,42,43,44,45,46,47,48,49,50,51,52,53,54,55,56,57,58] (fun k:Nat=>k≤l.length∧bx (C4 ts.length l) k=none) (fun k=>l.length - k) (fun k=>[(5,.int k)]) (fun _=>[(4,⟨42,[.v (.int .i64 0),.v (.int .i64 0)],true⟩)]) 0 ⟨by omega,rfl⟩ ?_ ?_
 ·refine bA ?_
  exact aZ
 rintro k ⟨hk,hn⟩ K hK;refine bA ?_;by_cases hlt:k < l.length
 ·have hg:C4 ts.length l k=if lF l[k].1=false then some (12,-10 - (k:Int)) else if (l.take k).any (fun u=>iQ u.1 l[k].1) then some (7,-10 - (k:Int)) else if l[k].2 < -1∨(ts.length:Int)≤l[k].2 then some (3,-10 - (k:Int)) else none:=by rw [C4,bq hlt]
  have hF2:=fun q=>hF (q:=q) hlt hn;have hS:=fun h=>cJ (g:=C4 ts.length l) hn h;rw [hg] at hF2 hS;clear hg;(repeat' (first|refine gC 12 ?_;refine We ?_|refine gC 96 ?_;refine bg (uA _) ?_|intro (K:St→Prop) hK|intro hc|(refine Gf 99 ?_ ?_ ?_ ?_<;>try exact VX)|fail))
  ·refine V0 ?_
   refine congrArg (fun q:Int×Int=>fault q.1 q.2) (hF2 (12,-10 - (k:Int)) ?_).symm;rw [if_pos aE]
  rw [if_neg (by simp [*])] at hF2 hS;refine ba [6,27,28,29,30,31,32,33,34,35,36,37,38,39,40,41,42,43,44,45] (fun j:Nat=>j≤k∧∀ i (hi:i < l.length),i < j→iQ l[i].1 l[k].1=false) (fun j=>k - j) (fun j=>[(6,.int j)]) (fun _=>[(4,⟨42,[.v (.int .i64 0),.v (.int .i64 0)],true⟩)]) 0 ⟨by omega,by omega⟩ ?_ ?_
  ·refine bA ?_
   exact aZ
  rintro j ⟨hj,hm⟩ K hK;refine bA ?_;by_cases hjk:j < k
  ·have hjl:j < l.length:=by omega
   (repeat' (first|refine gD 11 ?_;refine dK (.r 0 11 .nil) ?_|refine gC 12 ?_;refine We ?_|intro (K:St→Prop) hK|intro hc|(refine Gf 99 ?_ ?_ ?_ ?_<;>try exact VX)|fail))
   ·refine V0 ?_
    refine congrArg (fun q:Int×Int=>fault q.1 q.2) (hF2 (7,-10 - (k:Int)) ?_).symm;rw [if_pos (lK.2 ⟨j,hjl,hjk,by unfold iQ;simp_all⟩)]
   (refine ⟨j+1,⟨by omega,cj hm fun _=>by unfold iQ;simp_all⟩,by omega,?_⟩;(refine bA ?_);(exact aZ))
  rw [if_neg (fun h=>by
   obtain ⟨i,hi,hik,hp⟩:=lK.1 h;rw [hm i hi ak] at hp;cases hp)] at hF2 hS
  (repeat' (first|refine gC 12 ?_;refine We ?_|refine gC 82 ?_;refine bg (qb _ _ _) ?_|intro (K:St→Prop) hK|intro hc|(refine yJ 99 ?_ ?_ ?_ ?_<;>try exact VX)|fail))
  ·refine V0 ?_
   refine congrArg (fun q:Int×Int=>fault q.1 q.2) (hF2 (3,-10 - (k:Int)) ?_).symm;rw [if_pos ak]
  (refine ⟨k+1,⟨by omega,hS (by rw [if_neg ak])⟩,by omega,?_⟩;(refine bA ?_);(exact aZ))
 refine iy (fun hc K hK=>?_) VX VX VX;refine V0 ?_;obtain rfl:k=l.length:=by omega
 rw [jK,if_neg ak,hn];rfl
end
end Go.Proofs.YtkbiagkbmodgdaaGreat
