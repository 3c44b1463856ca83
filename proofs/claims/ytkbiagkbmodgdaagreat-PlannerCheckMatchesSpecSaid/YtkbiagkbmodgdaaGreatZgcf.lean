/- Part of a proof. No condition. -/
import Derived.Test.YtkbiagkbmodgdaaGreatZph
import Derived.Test.YtkbiagkbmodgdaaGreatZgcb
import Derived.Test.YtkbiagkbmodgdaaGreatZgg
set_option linter.unusedSimpArgs false
set_option linter.unusedVariables false
namespace Go.Proofs.YtkbiagkbmodgdaaGreat
open Go.Ab
open Go Tryz
set_option maxRecDepth 10000
attribute [local irreducible] dP fv mu lV dj PV ff ew AW bm da en dQ cX Ab.Fin fi er gF iN RV kh Le eV fL ma iG kM dJ dt
set_option maxHeartbeats 8000000
section
class sR (i n:Nat):Prop where h:i < n
theorem De:∀ (l:List br) (i:Nat),(l.flatMap kG).drop (i * 2)=(l.drop i).flatMap kG
 |[],i=>by simp
 |x::l,0=>rfl
 |x::l,i+1=>by
  have:=De l i;rw [show (i+1) * 2=i * 2+1+1 by omega];simpa [kG] using this
variable {l:List br} {i:Nat}
@[local go_sem] theorem Oo [h:sR i l.length]:((l.flatMap kG).drop (i * 2)).take 2=kG (l[i]'h.h):=by
 rw [De,qe2 h.h];rfl
theorem Df:∀ (l:List br) (i:Nat) (x:br),i < l.length→((l.flatMap kG).set (i * 2) (.int x.p)).set (i * 2+1) (ints x.a)=(l.set i x).flatMap kG
 |[],i,x,h=>by simp at h
 |y::l,0,x,_=>rfl
 |y::l,i+1,x,h=>by
  have:=Df l i x (by simpa using h);rw [show (i+1) * 2=i * 2+1+1 by omega];simpa [kG] using this
@[local go_sem] theorem Oq {x:br} [h:sR i l.length]:((l.flatMap kG).set (i * 2) (.int x.p)).set (i * 2+1) (ints x.a)=(l.set i x).flatMap kG:=Df l i x h.h
instance Um {k:Nat} {x:br} [h:sR i l.length]:sR i (l.set k x).length:=⟨by rw [qk1];exact h.h⟩
@[local go_sem] theorem Lb (j:Nat):((j:Int)+1 - 1)=(j:Int):=by omega
@[local go_sem] theorem E9 (j:Nat):((j:Int)+1).toNat=j+1:=by omega
@[local go_sem] theorem Lc (l:List br):AV.cu (l.flatMap kG)=true:=ui l
def we (l:List br) (j:Nat):List br:=(l.set (j+1) l[j]!).set j l[j+1]!
def sd:Nat→List br→List br
 |0,l=>l
 |j+1,l=>if wD l[j+1]! l[j]! < 0 then sd j (we l j) else l
def sS (l:List br):Nat→List br
 |0=>l
 |k+1=>sd (k+1) (sS l k)
theorem vn (l:List br) (j:Nat):(we l j).length=l.length:=by simp [we]
theorem zN:∀ (j:Nat) (l:List br),(sd j l).length=l.length
 |0,_=>rfl
 |j+1,l=>by
  unfold sd;split
  ·rw [zN j,vn]
  rfl
theorem oP (l:List br):∀ k,(sS l k).length=l.length
 |0=>rfl
 |k+1=>by rw [sS,zN,oP]
theorem Is (l:List br) (fl:Bool) (hn:l.length≤8):dQ prog 269 [.sl 2 32 100 0 l.length,.int 0,.int l.length,.fn 167 []] 100 ⟨66,l.flatMap kG,fl⟩ (fun r bk=>r= .dC []∧bk=⟨66,(sS l (l.length - 1)).flatMap kG,fl⟩):=by
 refine xI func269 ntmps269 ?_;refine Go ?_ VX VX VX;refine bP [9,18,19,20,21,22,23,24,25,26,27,28,29,30,31,32,33,34,35,36,37,38,39,40,41,42,43,44,45,46,47,48,49,50,51,52] (fun i:Nat=>i≤l.length - 1) (fun i=>l.length - i) (fun i=>[(8,.int ((i:Int)+1))]) (fun i=>[(100,⟨66,(sS l i).flatMap kG,fl⟩)]) 0 ak ?_ ?_
 ·refine bA ?_
  refine ea (by (repeat (first|exact .nil|refine .drop ?_|refine dG ?_ aS))) aI
 rintro i hi K hK;refine bA ?_;have hl:=oP l i;by_cases hlt:i+1 < l.length
 ·refine Gx 4 (fun hc K hK=>?_) VX VX VX
  obtain ⟨R,hR⟩:∃ r,sd (i+1) (sS l i)=r:=⟨_,rfl⟩
  refine bP [9,18,19,20,21,22,23,24,25,26,27,28,29,30,31,32,33,34,35,36,37,38,39,40,41,42,43,44,45,46,47,48,49,50,51,52] (fun q:Nat×List br=>q.1≤i+1∧q.2.length=l.length∧sd q.1 q.2=R) (fun q=>q.1) (fun q=>[(9,.int q.1)]) (fun q=>[(100,⟨66,q.2.flatMap kG,fl⟩)]) (i+1,sS l i) ⟨qb3 _,hl,hR⟩ ?_ ?_
  ·refine bA ?_
   exact aZ
  rintro ⟨j,m⟩ ⟨hj,hm,he⟩ K hK;simp only at hj hm he ⊢;refine bA ?_;cases j with
  |zero=>
   unfold sd at he;subst he;simp only [show ((0:Nat):Int)=0 from rfl];(repeat' (first|refine gD 4 ?_;refine Wg ?_|intro (K:St→Prop) hK|intro hc|(refine yJ 99 ?_ ?_ ?_ ?_<;>try exact VX)|fail));refine ⟨i+1,by omega,by omega,?_⟩;rw [← hR];refine bA ?_;exact aZ
  |succ j=>
   unfold sd at he;simp only [show ((j+1:Nat):Int)=(j:Int)+1 from rfl];have h1:sR j m.length:=⟨by omega⟩
   have h2:sR (j+1) m.length:=⟨by omega⟩
   have hcm:=uh (m[j+1]'h2.h) (m[j]'h1.h);rw [bq h2.h,bq h1.h] at he;generalize hz:wD (m[j+1]'h2.h) (m[j]'h1.h)=z at *;by_cases hz0:z < 0
   ·rw [if_pos hz0] at he
    (repeat' (first|refine gD 4 ?_;refine Wg ?_|(refine c8 (fun K hK=>?_);refine fj aR hcm aR (fun x hx=>?_);obtain rfl:=hx)|intro (K:St→Prop) hK|intro hc|(refine rh 6 ?_ ?_ ?_ ?_<;>try exact VX)|fail));(repeat' (first|refine gD 6 ?_;refine vP (s1:=?_) (.r 0 2 (.r 5 10 (.DX 2 1 3 1 15 3 (.pY 3 1 15 3 (.pY 4 1 15 3 (.it 15 3 (.it 16 1 (.it 17 3 .nil))) (.it 4 1 (.it 16 1 (.it 17 3 .nil)))) (.it 3 1 (.it 4 1 (.it 16 1 (.it 17 3 .nil))))) (.DX 2 1 4 1 15 3 (.pY 4 1 15 3 (.it 15 3 (.it 16 1 (.it 17 3 .nil))) (.it 4 1 (.it 16 1 (.it 17 3 .nil)))) (.pY 2 1 15 3 (.it 15 3 (.it 16 1 (.it 17 3 .nil))) (.it 2 1 (.it 16 1 (.it 17 3 .nil)))) (.fk 2 4 (.it 4 1 (.it 16 1 (.it 17 3 .nil))) (.it 2 1 (.it 16 1 (.it 17 3 .nil))))) (.fk 2 3 (.it 3 1 (.it 4 1 (.it 16 1 (.it 17 3 .nil)))) (.fk 2 4 (.it 4 1 (.it 16 1 (.it 17 3 .nil))) (.it 2 1 (.it 16 1 (.it 17 3 .nil)))))))) ?_ ?_;rotate_left|refine yP ?_;refine nR ?_|refine gO ?_;refine kJ ?_|intro (K:St→Prop) hK|intro hc|(refine rh 99 ?_ ?_ ?_ ?_<;>try exact VX)|fail));refine ⟨(j,we m j),⟨by simp only;omega,by simp only [vn];exact hm,he⟩,by simp only;omega,?_⟩;have hsw:we m j=(m.set (j+1) (m[j]'h1.h)).set j (m[j+1]'h2.h):=by unfold we;rw [bq h2.h,bq h1.h]
    rw [hsw];refine bA ?_;exact aZ
   rw [if_neg hz0] at he;(repeat' (first|refine gD 4 ?_;refine Wg ?_|(refine c8 (fun K hK=>?_);refine fj aR hcm aR (fun x hx=>?_);obtain rfl:=hx)|intro (K:St→Prop) hK|intro hc|(refine tG 99 ?_ ?_ ?_ ?_<;>try exact VX)|fail));refine ⟨i+1,by omega,by omega,?_⟩;rw [show sS l (i+1)=m by rw [← he] at hR;exact hR];refine bA ?_;exact aZ
 obtain rfl:i=l.length - 1:=by omega
 refine Go (fun hc K hK=>?_) VX VX VX;refine ri (Le.refl _) iI aR ah (fun j hj=>rfl) (by first|rfl|exact dO _ _ (fun _=>rfl)|(simp only [go_sem,seval,dy,bl];done)) ⟨rfl,rfl⟩
theorem Rv (l:List br) (fl:Bool) (x:Int) (hn:l.length≤8):dQ prog 240 [.sl 2 32 100 0 l.length,.int 0,.int l.length,.int x,.fn 167 []] 100 ⟨66,l.flatMap kG,fl⟩ (fun r bk=>r= .dC []∧bk=⟨66,(sS l (l.length - 1)).flatMap kG,fl⟩):=by
 refine xI func240 ntmps240 ?_;refine Gx 2 ?_ VX VX VX;refine bP [] (fun _:Unit=>True) (fun _=>0) (fun _=>[]) (fun _=>[]) () trivial ?_ ?_
 ·refine bA ?_
  exact aZ
 rintro _ _ K hK;refine bA ?_;(repeat' (first|(refine bu (fun K hK=>?_);refine mw (hT:=by exact of_decide_eq_true rfl) (d:=some 30) (Is l _ hn) aR (fun x bk hx=>?_);obtain ⟨rfl,rfl⟩:=hx;simp only [Nat.reduceBEq,ql9,qc5,qc1,qi7,go_sem,seval])|intro (K:St→Prop) hK|intro hc|(refine Gf 99 ?_ ?_ ?_ ?_<;>try exact VX)|fail));refine ri (Le.refl _) iI aR ah (fun j hj=>rfl) (by first|rfl|exact dO _ _ (fun _=>rfl)|(simp only [go_sem,seval,dy,bl];done)) ⟨rfl,rfl⟩
variable {s:St} {x y:Operand} {t:TypeId} {n:Int} {b:ByteArray}
theorem pC [hu:cT prog t .string] (hx:s.eval x= .v (.string b)) (hy:s.eval y= .v (.int .u8 n)) (h0:0≤n) (h1:n.toNat < b.size):PV prog (.index t x y) s (.v (.int .u8 (b[n.toNat]'h1).toNat)):=
 dW fun _ _ _ a _ h=>by
  have e1:=h.eval x;rw [hx] at e1;have e2:=h.eval y;rw [hy] at e2;have hg:b[n.toNat]?=some (b[n.toNat]'h1):=getElem?_pos b n.toNat h1;exact ⟨_,.v,fun w' _ _ _ _ _=>by simp [execOp,fz e1,fz e2,Instr.index,run_underlying hu.ok,asIntOf,h0,hg]⟩
theorem Ld {d:Option Tmp} {ty:TypeId} {pos:String} {bF:Array Edge} {g:Option (Nat×Bool)} {K:St→Prop} [hu:cT prog t .string] (hx:s.eval x= .v (.string b)) (hy:s.eval y= .v (.int .u8 n)) (h0:0≤n) (h1:n.toNat < b.size)
 (hk:∀ v:Int,0≤v→v < 256→K (s.put d (.v (.int .u8 v)))):ff prog ⟨d,.index t x y,ty,pos,bF,g⟩ s K:=
 bt (pC hx hy h0 h1) (hk _ ak (by have:=UInt8.toNat_lt (b[n.toNat]'h1);omega))
theorem Lf (n:Int) (h:0≤n∧n≤8):bm prog 250 [.v (.int .u64 n)] (fun r=>∃ k:Int,r= .int k):=by
 have:n=0∨n=1∨n=2∨n=3∨n=4∨n=5∨n=6∨n=7∨n=8:=by omega
 rcases this with rfl|rfl|rfl|rfl|rfl|rfl|rfl|rfl|rfl
 all_goals
  refine bc func250 ntmps250 ?_;(repeat' (first|intro (K:St→Prop) hK|intro hc|(refine Gf 10 ?_ ?_ ?_ ?_<;>try exact VX)|fail));refine fU ?_;(first|refine bN _ ao ?_|refine bO ao aw ?_);(try simp only [go_sem,seval,dy,bl]);(first|refine bN _ ao ?_|refine bO ao aw ?_);(try simp only [go_sem,seval,dy,bl]);(first|refine bN _ ao ?_|refine bO ao aw ?_);(try simp only [go_sem,seval,dy,bl]);refine bD rfl rfl (fun K1 hK1=>?_);refine Ld aR aR aB (by decide +kernel) (fun v hv0 hv1=>?_);(try simp only [go_sem,seval]);refine hK1 _ ?_;clear hK1 K1;(first|refine bN _ ao ?_|refine bO ao aw ?_);(try simp only [go_sem,seval,dy,bl]);(first|refine bN _ ao ?_|refine bO ao aw ?_);(try simp only [go_sem,seval,dy,bl]);(first|refine bN _ ao ?_|refine bO ao aw ?_);(try simp only [go_sem,seval,dy,bl]);refine cH ?_;(repeat' (first|refine hK _ ?_;clear hK K|refine gT ?_;refine eY ?_));refine VY ?_;exact ⟨_,rfl⟩
theorem Lg (l:List br) (fl:Bool) (hn:l.length≤8):dQ prog 210 [.sl 2 32 100 0 l.length,.fn 167 []] 100 ⟨66,l.flatMap kG,fl⟩ (fun r bk=>r= .dC []∧bk=⟨66,(sS l (l.length - 1)).flatMap kG,fl⟩):=by
 have hlen:bm prog 218 [.v (.int .u64 (l.length:Int))] (fun r=>∃ k:Int,r= .int k):=by have h6:=Lf l.length ak;refine bc func218 ntmps218 ?_;(repeat' (first|(refine bu (fun K hK=>?_);refine cM (h6) aR (fun x hx=>?_);obtain ⟨k,rfl⟩:=hx)|intro (K:St→Prop) hK|intro hc|(refine Gf 99 ?_ ?_ ?_ ?_<;>try exact VX)|fail));refine VY ?_;exact ⟨_,rfl⟩
 refine xI func210 ntmps210 ?_;(repeat' (first|refine bu (fun K hK=>?_);(first|(refine cM (hlen) aR (fun x hx=>?_);obtain ⟨k,rfl⟩:=hx)|(refine mw (hT:=by exact of_decide_eq_true rfl) (d:=some 13) (Rv l _ _ hn) aR (fun x bk hx=>?_);obtain ⟨rfl,rfl⟩:=hx;simp only [Nat.reduceBEq,ql9,qc5,qc1,qi7,go_sem,seval]))|intro (K:St→Prop) hK|intro hc|(refine Gf 99 ?_ ?_ ?_ ?_<;>try exact VX)|fail));refine ri (Le.refl _) iI aR ah (fun j hj=>rfl) (by first|rfl|exact dO _ _ (fun _=>rfl)|(simp only [go_sem,seval,dy,bl];done)) ⟨rfl,rfl⟩
end
section
attribute [local go_sem] Oo Oq Lb E9 Lc
instance:DecidableEq br:=fun a b=>by
 cases a;cases b;simp only [br.mk.injEq];infer_instance
def fH:List br→List br
 |[]=>[]
 |[x]=>[x]
 |x::y::r=>if y=x then fH (y::r) else x::fH (y::r)
theorem qM (x y:br):∀ a:List br,fH (a++[x,y])=fH (a++[x])++if y=x then [] else [y]
 |[]=>by
  by_cases h:y=x
  ·subst h;simp [fH]
  simp [fH,h]
 |[z]=>by
  have:=qM x y [];simp only [qk0] at this;by_cases h:x=z
  ·subst h;simp [fH] at *;split<;>simp_all
  simp only [qi8,qk0,fH,h,if_false] at *;by_cases h2:y=x
  ·simp [h2]
  simp [h2]
 |z::w::a=>by
  have:=qM x y (w::a);simp only [qi8] at this ⊢;unfold fH;by_cases h:w=z
  ·simp only [h,if_true] at this ⊢;exact this
  simp only [h,if_false,this,qi8]
variable {l:List br} {p:Nat}
theorem wg (h:p+1 < l.length):fH (l.take (p+2))=fH (l.take (p+1))++if l[p+1]=l[p] then [] else [l[p+1]]:=by
 have e1:l.take (p+1)=l.take p++[l[p]]:=qa5 ak;have e3:l.take (p+1+1)=l.take (p+1)++[l[p+1]]:=qa5 h;have e2:l.take (p+2)=l.take p++[l[p],l[p+1]]:=by rw [show p+2=p+1+1 from rfl,e3,e1,qd6];rfl
 rw [e2,qM,e1]
theorem yk:∀ l:List br,(fH l).length≤l.length
 |[]=>qb3 _
 |[_]=>qb3 _
 |x::y::r=>by
  have:=yk (y::r);unfold fH;split
  ·simp only [qb8] at *;omega
  simp only [qb8] at *;omega
theorem Lh (x y:br):bm prog 212 [x.av,y.av] (fun r=>r= .bool (decide (x=y))):=by
 have e:(wD x y == 0)=decide (x=y):=by rw [qf7,beq_iff_eq,decide_eq_true_eq];exact A6 x y
 refine bc func212 ntmps212 ?_;(repeat' (first|refine gC 167 ?_;refine bg (uh _ _) ?_|refine bu (fun K hK=>?_);(first|refine bt (uP aR aR) ?_|refine bt (pe aR aR) ?_|refine bt (ph aR aR ai) ?_)|intro (K:St→Prop) hK|intro hc|(refine yJ 99 ?_ ?_ ?_ ?_<;>try exact VX)|fail));refine VY ?_;rw [e]
theorem ym (h:l.length < 2):fH l=l:=by
 match l,h with
 |[],_=>rfl
 |[_],_=>rfl
@[local go_sem] theorem Un (a b:Nat):a * 2+b * 2=(a+b) * 2:=by omega
theorem Dg {s:List br} (hl:s.length=l.length) (h:s.drop p=l.drop p) {i:Nat} (hi:p≤i) (h1:i < s.length) (h2:i < l.length):s[i]=l[i]:=by
 have a1:s[i]?=l[i]?:=by have:=congrArg (fun x=>x[i - p]?) h;simp only [qd0,show p+(i - p)=i by omega] at this;exact this
 rw [qa7 h1,qa7 h2] at a1;exact ql1 a1
theorem zO:∀ (l:List br) (i:Nat),(l.flatMap kG).take (i * 2)=(l.take i).flatMap kG
 |[],i=>by simp
 |x::l,0=>rfl
 |x::l,i+1=>by
  have:=zO l i;rw [show (i+1) * 2=i * 2+1+1 by omega];simpa [kG] using this
theorem Dh (l:List br) (hn:l.length≤8):dQ prog 211 [.sl 2 32 100 0 l.length,.fn 212 []] 100 ⟨66,l.flatMap kG,false⟩ (fun r bk=>r= .sl 2 32 100 0 (fH l).length∧bk=⟨66,(fH l).flatMap kG,false⟩):=by
 by_cases h2:l.length < 2
 ·rw [ym h2]
  refine xI func211 ntmps211 ?_;(repeat' (first|refine gD 6 ?_;refine V9 ?_|refine gD 11 ?_;refine V7 ?_|refine yP ?_;refine nR ?_|intro (K:St→Prop) hK|intro hc|(refine tG 99 ?_ ?_ ?_ ?_<;>try exact VX)|fail));refine ri (Le.refl _) (aX (aW aR)) aR ah (fun j hj=>by simp only [AV.cq,beq_eq_false_iff_ne,ne_eq];exact fun h=>hj h.symm) (by first|rfl|exact dO _ _ (fun _=>rfl)|(simp only [go_sem,seval,dy,bl];done)) ⟨rfl,rfl⟩
 refine xI func211 ntmps211 ?_;(repeat' (first|refine gD 6 ?_;refine V9 ?_|refine gD 11 ?_;refine V7 ?_|refine yP ?_;refine nR ?_|intro (K:St→Prop) hK|intro hc|(refine tG 99 ?_ ?_ ?_ ?_<;>try exact VX)|fail));refine bP [5,7,32,33,34,35,36,37,38,39,40,41,42,43,44,45,46,47,48,49,50,51,52,53,54,55,56,57,58] (fun j:Nat=>j+1≤l.length∧fH (l.take (j+1))=l.take (j+1)) (fun j=>l.length - j) (fun j=>[(5,.int ((j:Int)+1))]) (fun j=>[]) 0 ⟨by omega,ym (by rw [qc0];omega)⟩ ?_ ?_
 ·refine bA ?_
  refine ea (by (repeat (first|exact .nil|refine .drop ?_|refine dG ?_ aS))) aI
 rintro j ⟨hj,hjc⟩ K hK;refine bA ?_;by_cases hlt:j+1 < l.length
 ·have h1:sR j l.length:=⟨by omega⟩
  have h3:sR (j+1) l.length:=⟨hlt⟩
  have hef:=Lh l[j+1] l[j];have hct:=wg hlt;by_cases heq:l[j+1]=l[j]
  ·rw [if_pos heq,qe5,hjc] at hct
   rw [decide_eq_true heq] at hef;(repeat' (first|refine gD 6 ?_;refine V9 ?_|refine gD 11 ?_;refine V7 ?_|(refine bu (fun K hK=>?_);refine fj aR hef aR (fun x hx=>?_);obtain rfl:=hx)|(refine c8 (fun K hK=>?_);refine fj aR hef aR (fun x hx=>?_);obtain rfl:=hx)|intro (K:St→Prop) hK|intro hc|(refine tG 8 ?_ ?_ ?_ ?_<;>try exact VX)|fail));have hsw:Fz 2 32 100 ((j+1) * 2) (l.length - (j+1))= .sl 2 32 100 ((j+1) * 2) (l.length - (j+1)):=by unfold Fz;rw [if_neg ak]
   simp only [hsw];refine gR ?_;refine bY ?_;refine hK _ ?_;clear hK K;refine bE ?_;refine bP (5::[5,7,32,33,34,35,36,37,38,39,40,41,42,43,44,45,46,47,48,49,50,51,52,53,54,55,56,57,58]) (fun x:Nat×Nat×List br=>j+x.1+2≤l.length∧x.2.1≤j+x.1+1∧1≤x.2.1∧x.2.2.length=l.length∧x.2.2.take x.2.1=fH (l.take (j+x.1+2))∧x.2.2.drop (j+x.1+1)=l.drop (j+x.1+1)) (fun x=>l.length - x.1) (fun x=>[(5,.int (x.2.1:Int)),(7,.int ((x.1:Int)+1))]) (fun x=>[(100,⟨66,x.2.2.flatMap kG,false⟩)]) (0,j+1,l) ⟨by simp only;omega,by simp only;omega,by simp only;omega,rfl,by simp only;rw [hct],rfl⟩ ?_ ?_
   ·refine bA ?_
    refine ea (by (repeat (first|exact .nil|refine .drop ?_|refine dG ?_ aS))) aI
   rintro ⟨q,i,s⟩ ⟨hq,hi,hi1,hs,htk,hdr⟩ K hK;simp only at hq hi hi1 hs htk hdr ⊢;refine bA ?_;by_cases hlt2:j+q+2 < l.length
   ·have h4:sR (j+1+(q+1)) s.length:=⟨by omega⟩
    have h5:sR (j+1+q) s.length:=⟨by omega⟩
    have h6:sR i s.length:=⟨by omega⟩
    have e1:s[j+1+(q+1)]'h4.h=l[j+q+2]:=by rw [Dg (i:=j+1+(q+1)) hs hdr ak h4.h ak];exact getElem_congr_idx ak
    have e2:s[j+1+q]'h5.h=l[j+q+1]:=by rw [Dg (i:=j+1+q) hs hdr ak h5.h ak];exact getElem_congr_idx ak
    have hct2:=wg (l:=l) (p:=j+q+1) ak;simp only [show j+q+1+1=j+q+2 from rfl,show j+q+1+2=j+q+3 from rfl] at hct2;have hef2:=Lh (s[j+1+(q+1)]'h4.h) (s[j+1+q]'h5.h);have hdr2:s.drop (j+q+2)=l.drop (j+q+2):=by have:=congrArg (List.drop 1) hdr;simpa only [List.drop_drop,show j+q+1+1=j+q+2 from rfl] using this
    (repeat' (first|refine gD 6 ?_;refine V9 ?_|refine yP ?_;refine nR ?_|intro (K:St→Prop) hK|intro hc|(refine tG 11 ?_ ?_ ?_ ?_<;>try exact VX)|fail));by_cases heq2:s[j+1+(q+1)]'h4.h=s[j+1+q]'h5.h
    ·rw [decide_eq_true heq2] at hef2
     rw [← e1,← e2,if_pos heq2,qe5] at hct2;(repeat' (first|refine gD 6 ?_;refine V9 ?_|refine gD 11 ?_;refine V7 ?_|(refine bu (fun K hK=>?_);refine fj aR hef2 aR (fun x hx=>?_);obtain rfl:=hx)|(refine c8 (fun K hK=>?_);refine fj aR hef2 aR (fun x hx=>?_);obtain rfl:=hx)|intro (K:St→Prop) hK|intro hc|(refine tG 99 ?_ ?_ ?_ ?_<;>try exact VX)|fail));refine ⟨(q+1,i,s),⟨by simp only;omega,by simp only;omega,hi1,hs,by simp only [show j+(q+1)+2=j+q+3 by omega];rw [htk,hct2],by simp only [show j+(q+1)+1=j+q+2 by omega];exact hdr2⟩,by simp only;omega,?_⟩;refine bA ?_;exact aZ
    rw [decide_eq_false heq2] at hef2;rw [← e1,← e2,if_neg heq2] at hct2;(repeat' (first|refine gD 6 ?_;refine V9 ?_|refine gD 11 ?_;refine V7 ?_|(refine bu (fun K hK=>?_);refine fj aR hef2 aR (fun x hx=>?_);obtain rfl:=hx)|(refine c8 (fun K hK=>?_);refine fj aR hef2 aR (fun x hx=>?_);obtain rfl:=hx)|intro (K:St→Prop) hK|intro hc|(refine tG 12 ?_ ?_ ?_ ?_<;>try exact VX)|fail));(repeat' (first|refine gD 6 ?_;refine V9 ?_|refine gD 11 ?_;refine V7 ?_|refine yP ?_;refine nR ?_|intro (K:St→Prop) hK|intro hc|(refine tG 99 ?_ ?_ ?_ ?_<;>try exact VX)|fail));refine ⟨(q+1,i+1,s.set i (s[j+1+(q+1)]'h4.h)),⟨by simp only;omega,by simp only;omega,by simp only;omega,by simp only [qk1];exact hs,?_,?_⟩,by simp only;omega,?_⟩
    ·simp only [show j+(q+1)+2=j+q+3 by omega]
     rw [hct2,← htk,qa5 (by rw [qk1];exact h6.h),List.getElem_set_self,List.take_set_of_le (qb3 _)]
    ·simp only [show j+(q+1)+1=j+q+2 by omega]
     rw [List.drop_set_of_lt ak,hdr2]
    refine bA ?_;exact aZ
   have hp:j+q+2=l.length:=by omega
   rw [hp,qd2] at htk;have hil:i≤l.length:=by omega
   have hcs:(s.flatMap kG).take (i * 2)=(fH l).flatMap kG:=by rw [← htk];exact zO s i
   have hci:(fH l).length=i:=by rw [← htk,qc0];omega
   (repeat' (first|refine gD 6 ?_;refine V9 ?_|refine gD 11 ?_;refine V7 ?_|refine bu (fun K hK=>?_);refine nT (id:=100) (sz:=2) (l:=i) (k:=l.length - i) aR aR aR aR aR (by simp only [go_sem];omega) ?_|refine c8 (fun K hK=>?_);refine nT (id:=100) (sz:=2) (l:=i) (k:=l.length - i) aR aR aR aR aR (by simp only [go_sem];omega) ?_|refine yP ?_;refine nR ?_|intro (K:St→Prop) hK|intro hc|(refine tG 99 ?_ ?_ ?_ ?_<;>try exact VX)|fail));simp only [hcs,hci];refine ri (Le.refl _) (aX (aW aR)) aR ah (fun j hj=>by simp only [AV.cq,beq_eq_false_iff_ne,ne_eq];exact fun h=>hj h.symm) (by first|rfl|exact dO _ _ (fun _=>rfl)|(simp only [go_sem,seval,dy,bl];done)) ⟨rfl,rfl⟩
  rw [if_neg heq,hjc] at hct;rw [decide_eq_false heq] at hef;(repeat' (first|refine gD 6 ?_;refine V9 ?_|refine gD 11 ?_;refine V7 ?_|(refine bu (fun K hK=>?_);refine fj aR hef aR (fun x hx=>?_);obtain rfl:=hx)|(refine c8 (fun K hK=>?_);refine fj aR hef aR (fun x hx=>?_);obtain rfl:=hx)|refine yP ?_;refine nR ?_|intro (K:St→Prop) hK|intro hc|(refine tG 99 ?_ ?_ ?_ ?_<;>try exact VX)|fail));refine ⟨j+1,⟨by omega,by rw [hct];exact (qa5 hlt).symm⟩,by omega,?_⟩;refine bA ?_;exact aZ
 obtain hl:l.length=j+1:=by omega
 rw [← hl,qd2] at hjc;(repeat' (first|refine gD 6 ?_;refine V9 ?_|refine gD 11 ?_;refine V7 ?_|refine yP ?_;refine nR ?_|intro (K:St→Prop) hK|intro hc|(refine tG 99 ?_ ?_ ?_ ?_<;>try exact VX)|fail));rw [hjc];refine ri (Le.refl _) (aX (aW aR)) aR ah (fun j hj=>by simp only [AV.cq,beq_eq_false_iff_ne,ne_eq];exact fun h=>hj h.symm) (by first|rfl|exact dO _ _ (fun _=>rfl)|(simp only [go_sem,seval,dy,bl];done)) ⟨rfl,rfl⟩
def j4 (args:List Int) (l:List br):List br:=fH (sS (l.map (dw args)) ((l.map (dw args)).length - 1))
theorem vp (args:List Int) (l:List br):(j4 args l).length≤l.length:=by
 unfold j4;refine qd3 (yk _) ?_;rw [oP,qa2];exact qb3 _
theorem Gs (l:List br) (args:List Int) (hn:l.length≤8) (ha:∀ x∈l,sQ args.length x):bm prog 164 [bQ l,ints args] (fun r=>r=bQ (j4 args l)):=by
 have hl:=vp args l;obtain ⟨R,hR⟩:∃ r,j4 args l=r:=⟨_,rfl⟩
 rw [hR] at hl ⊢;refine bc func164 ntmps164 ?_;(repeat' (first|refine bu (fun K hK=>?_);(first|refine ck ?_|refine xw 14 19 2 32 66 ?_;refine ck ?_)|intro (K:St→Prop) hK|intro hc|(refine yJ 99 ?_ ?_ ?_ ?_<;>try exact VX)|fail));refine fD 5 100 2 32 66 ?_;refine ba [5,7,10,11,12,13,14,15,16,17,18,19,20] (fun k:Nat=>k≤l.length) (fun k=>l.length - k) (fun k=>[(10,.int k),(5,.sl 2 32 100 0 ((l.map (dw args)).take k).length)]) (fun k=>[(100,⟨66,((l.map (dw args)).take k).flatMap kG,false⟩)]) 0 (qc6 _) ?_ ?_
 ·refine bA ?_
  refine ea (by (repeat (first|exact .nil|refine .drop ?_|refine dG ?_ aS))) aI
 rintro k hk K hK;have hkl:((l.map (dw args)).take k).length=k:=by rw [qc0,qa2];omega
 rw [hkl];refine bA ?_;by_cases hlt:k < l.length
 ·have hb:=Gr l[k] args (ha _ (qa4 hlt))
  have hst:(l.map (dw args)).take (k+1)=(l.map (dw args)).take k++[dw args l[k]]:=by rw [qa5 (by simpa using hlt),qj8]
  (repeat' (first|refine gC 162 ?_;refine bg (hb) ?_|refine bu (fun K hK=>?_);(first|refine ck ?_|refine xw 14 19 2 32 66 ?_;refine ck ?_)|intro (K:St→Prop) hK|intro hc|(refine yJ 99 ?_ ?_ ?_ ?_<;>try exact VX)|fail));refine ⟨k+1,by omega,by omega,?_⟩;rw [hst,qa3,hkl];refine bA ?_;exact aZ
 obtain rfl:k=l.length:=by omega
 rw [qe8 aC];generalize hm:l.map (dw args)=m at *;have hml:m.length=l.length:=by rw [← hm,qa2]
 have hw:=Lg m false ak;have hil:=oP m (m.length - 1);have hw2:=Dh (sS m (m.length - 1)) (by rw [oP];omega);rw [hil] at hw2;rw [show fH (sS m (m.length - 1))=R by rw [← hR];unfold j4;rw [hm]] at hw2;rw [hml] at hw hw2;(repeat' (first|refine gC 162 ?_;refine bg (hb) ?_|refine bu (fun K hK=>?_);(first|refine ck ?_|refine xw 14 19 2 32 66 ?_;refine ck ?_|(refine mw (hT:=by exact of_decide_eq_true rfl) (d:=some 22) (hw) aR (fun x bk hx=>?_);obtain ⟨rfl,rfl⟩:=hx;simp only [Nat.reduceBEq,ql9,qc5,qc1,qi7,go_sem,seval])|(refine mw (hT:=by exact of_decide_eq_true rfl) (d:=some 24) (hw2) aR (fun x bk hx=>?_);obtain ⟨rfl,rfl⟩:=hx;simp only [Nat.reduceBEq,ql9,qc5,qc1,qi7,go_sem,seval]))|intro (K:St→Prop) hK|intro hc|(refine yJ 99 ?_ ?_ ?_ ?_<;>try exact VX)|fail));refine wK (f:=br.av) R rfl aR (by rw [mS];rfl) rfl (fun _=>rfl) (fun _=>rfl) ak rfl
end
section
@[local go_sem] theorem fm (id:Nat) (a b:List AV):AV.cG id (a++b)=AV.cG id a++AV.cG id b:=rW id a b
abbrev jB (a:br):bG:=⟨false,a⟩
abbrev e9 (a:br):bG:=⟨true,a⟩
def eO (plus minus:List br):List br:=minus.filter fun a=>!j8 plus a
theorem Fa (p m:List br):(eO p m).length≤m.length:=qh8 _ _
variable {p m:List br} {k:Nat}
theorem It (h:k < m.length) (hh:j8 p m[k]=true):eO p (m.take (k+1))=eO p (m.take k):=by
 rw [qa5 h,eO,qh6];simp [hh,eO]
theorem Fb (h:k < m.length) (hh:j8 p m[k]=false):eO p (m.take (k+1))=eO p (m.take k)++[m[k]]:=by
 rw [qa5 h,eO,qh6];simp [hh,eO]
def Iu (args:List Int) (s:eg):List bG:=(j4 args s.add).map jB++(eO (j4 args s.add) (j4 args s.del)).map e9
def Iv (args:List Int) (s:eg):List bG:=(j4 args s.add).map e9++(eO (j4 args s.add) (j4 args s.del)).map jB
theorem Di {α:Type} (f:br→α) {l:List br} (h:k < l.length):(l.map f).take (k+1)=(l.map f).take k++[f l[k]]:=by rw [qa5 (by simpa using h),qj8]
theorem Fc (d:cR) (s:eg) (hs:Kt d s) (args:List Int) (ha:args.length=s.ts.length) :
 bm prog 115 [.bC d.gs,s.av,ints args] (fun r=>r= .dC [b9 (Iu args s),b9 (Iv args s)]):=by
 have b1:=Gs s.add args hs.Ku (fun x hx i hi=>by have:=((hs.add x hx).args i hi).1;rw [ha];exact this);have b2:=Gs s.del args hs.Kv (fun x hx i hi=>by have:=((hs.del x hx).args i hi).1;rw [ha];exact this);have n1:=vp args s.add;have n2:=vp args s.del;have n3:=hs.Ku;have n4:=hs.Kv;unfold Iu Iv;generalize j4 args s.add=P at *;generalize j4 args s.del=M at *;obtain ⟨nm,ts,df,pre,ad,de,co⟩:=s;simp only at b1 b2 n1 n2 n3 n4;refine bc func115 ntmps115 ?_;(repeat' (first|refine gD 1 ?_;refine dK (.r 0 3 (.r 4 3 (.it 3 1 (.it 7 1 (.r 8 2 .nil))))) ?_|refine dH 164 ?_;refine bB (b1) ?_|refine dH 164 ?_;refine bB (b2) ?_|intro (K:St→Prop) hK|intro hc|(refine Gf 99 ?_ ?_ ?_ ?_<;>try exact VX)|fail));refine fD 6 600 3 40 68 ?_;refine fD 7 700 3 40 68 ?_;refine bP [6,7,13,41,42,43,44,45,46,47,48,49,50,51,52,53,54,55,56,57,58,59] (fun k:Nat=>k≤P.length) (fun k=>P.length - k) (fun k=>[(24,.int k),(6,.sl 3 40 600 0 ((P.map jB).take k).length),(7,.sl 3 40 700 0 ((P.map e9).take k).length)]) (fun k=>[(600,⟨68,((P.map jB).take k).flatMap lN,false⟩),(700,⟨68,((P.map e9).take k).flatMap lN,false⟩)]) 0 (qc6 _) ?_ ?_
 ·refine bA ?_
  exact aZ
 rintro k hk K hK;have l1:((P.map jB).take k).length=k:=by rw [qc0,qa2];omega
 have l2:((P.map e9).take k).length=k:=by rw [qc0,qa2];omega
 rw [l1,l2];refine bA ?_;by_cases hlt:k < P.length
 ·have s1:=Di jB hlt
  have s2:=Di e9 hlt;refine Go (fun _ hc=>?_) VX VX VX;refine ⟨k+1,by omega,by omega,?_⟩;rw [s1,s2,qa3,qa3,l1,l2];refine bA ?_;exact aZ
 obtain rfl:k=P.length:=by omega
 rw [qe8 aC,qe8 aC];refine HA 9 (fun hc K hK K hK=>?_) VX VX VX;refine bP [6,7,13,41,42,43,44,45,46,47,48,49,50,51,52,53,54,55,56,57,58,59] (fun k:Nat=>k≤M.length) (fun k=>M.length - k) (fun k=>[(41,.int k),(6,.sl 3 40 600 0 (P.length+(eO P (M.take k)).length)),(7,.sl 3 40 700 0 (P.length+(eO P (M.take k)).length))]) (fun k=>[(600,⟨68,(P.map jB++(eO P (M.take k)).map e9).flatMap lN,false⟩),(700,⟨68,(P.map e9++(eO P (M.take k)).map jB).flatMap lN,false⟩)]) 0 (qc6 _) ?_ ?_
 ·refine bA ?_
  (refine ea (by (repeat (first|exact .nil|refine .drop ?_|refine dG ?_ (by first|rfl|(simp [eO]))))) (by (repeat refine ia aR (by first|rfl|(simp [eO])) ?_);exact fR _))
 rintro k hk K hK;refine bA ?_;have hml:=Fa P (M.take k);rw [qc0] at hml;by_cases hlt:k < M.length
 ·have hh:=Bb P M[k]
  cases hb:j8 P M[k] with
  |true=>
   rw [hb] at hh;have s1:=It hlt hb;(repeat' (first|refine gC 116 ?_;refine bg (hh) ?_|intro (K:St→Prop) hK|intro hc|(refine Gf 99 ?_ ?_ ?_ ?_<;>try exact VX)|fail));refine ⟨k+1,by omega,by omega,?_⟩;rw [s1];refine bA ?_;exact aZ
  |false=>
   rw [hb] at hh;have s1:=Fb hlt hb;(repeat' (first|refine gC 116 ?_;refine bg (hh) ?_|refine bu (fun K hK=>?_);refine ck ?_|intro (K:St→Prop) hK|intro hc|(refine Gf 99 ?_ ?_ ?_ ?_<;>try exact VX)|fail));refine ⟨k+1,by omega,by omega,?_⟩;rw [s1,qa3,qb5,qb5];refine bA ?_;refine ea (by (repeat (first|exact .nil|refine .drop ?_|refine dG ?_ aS))) aI
 obtain rfl:k=M.length:=by omega
 rw [qd2] at *;have hlx:(P.map jB++(eO P M).map e9).length=P.length+(eO P M).length:=by simp
 have hly:(P.map e9++(eO P M).map jB).length=P.length+(eO P M).length:=by simp
 rw [← Bc,← Bc];generalize P.map jB++(eO P M).map e9=X at *;generalize P.map e9++(eO P M).map jB=Y at *;refine HA 15 (fun hc K hK K hK=>?_) VX VX VX;(refine cE (cV (f:=bG.av) 600 3 40 (P.length+(eO P M).length) X aR (dS _) (by exact hlx) (fun _=>rfl) (fun _=>rfl) ak) ?_;try simp only [go_sem,seval]);(refine cE (cV (f:=bG.av) 700 3 40 (P.length+(eO P M).length) Y aR (dS _) (by exact hly) (fun _=>rfl) (fun _=>rfl) ak) ?_;try simp only [go_sem,seval]);refine Go ?_ VX VX VX;refine V8 ?_;rfl
end
section
attribute [local go_sem] ec fm j1 Dc zM
def pF (d:cR) (k:Nat) (ng:Bool) (pre r:List Int) (A:List bG):List bG:=A++(E7 d pre r).map fun a=>⟨ng,⟨(k:Int),a⟩⟩
def pK (d:cR) (k:Nat) (ng:Bool) (pre:List Int) (t:Int) (r:List Int) (A:List bG) (j:Nat):List bG:=A++(Gp d pre t r j).map fun a=>⟨ng,⟨(k:Int),a⟩⟩
theorem Li (d:cR) (k:Nat) (ng:Bool) (pre:List Int) (A:List bG):pF d k ng pre [] A=A++[⟨ng,⟨(k:Int),pre⟩⟩]:=by rw [pF,A9];rfl
theorem Gt (d:cR) (k:Nat) (ng:Bool) (pre:List Int) (t:Int) (r:List Int) (A:List bG):pK d k ng pre t r A 0=A:=by rw [pK,yi,qg5,qe5]
variable {d:cR} {k j:Nat} {pre r:List Int} {t:Int} {A:List bG}
theorem Bd {ng:Bool} (h:j < (lM d t).length):pF d k ng (pre++[(lM d t)[j]]) r (pK d k ng pre t r A j)=pK d k ng pre t r A (j+1):=by
 rw [pF,pK,pK,qd6,← qb5,← yj h]
theorem Lj (d:cR) (k:Nat) (ng:Bool) (pre:List Int) (t:Int) (r:List Int) (A:List bG):pK d k ng pre t r A (lM d t).length=pF d k ng pre (t::r) A:=by rw [pK,wU,pF]
theorem Lk (d:cR) (k:Nat) (ng:Bool) (pre:List Int) (t:Int) (r:List Int) (A:List bG) (j:Nat):(pK d k ng pre t r A j).length≤(pF d k ng pre (t::r) A).length:=by
 have:=(Ba d pre t r j).length_le;rw [pK,pF,qa3,qa3,qa2,qa2];omega
def qF (d:cR) (k:Nat) (Ng:Bool) (pre r:List Int) (B:List bG):List bG:=if Ng=true then pF d k true pre r B else B
def qK (d:cR) (k:Nat) (Ng:Bool) (pre:List Int) (t:Int) (r:List Int) (B:List bG) (j:Nat):List bG:=if Ng=true then pK d k true pre t r B j else B
theorem Ot (d:cR) (k:Nat) (Ng:Bool) (pre:List Int) (t:Int) (r:List Int) (A:List bG):qK d k Ng pre t r A 0=A:=by rw [qK,Gt,ite_self]
theorem Gu {Ng:Bool} (h:j < (lM d t).length):qF d k Ng (pre++[(lM d t)[j]]) r (qK d k Ng pre t r A j)=qK d k Ng pre t r A (j+1):=by
 cases Ng
 ·rfl
 exact Bd h
theorem Rx (d:cR) (k:Nat) (Ng:Bool) (pre:List Int) (t:Int) (r:List Int) (A:List bG):qK d k Ng pre t r A (lM d t).length=qF d k Ng pre (t::r) A:=by rw [qK,Lj,qF]
theorem Ry (d:cR) (k:Nat) (Ng:Bool) (pre:List Int) (t:Int) (r:List Int) (A:List bG) (j:Nat):(qK d k Ng pre t r A j).length≤(qF d k Ng pre (t::r) A).length:=by
 cases Ng
 ·exact qb3 _
 exact Lk d k true pre t r A j
def rM (d:cR) (k:Nat):List bG:=(List.range k).flatMap fun (p:Nat)=>if hasB (fX d) (p:Int)=true then (kO d d.bV[p]!.ts).map fun a=>⟨false,⟨(p:Int),a⟩⟩ else []
def rO (d:cR) (k:Nat):List bG:=(List.range k).flatMap fun (p:Nat)=>if hasB (fX d) (p:Int)=true then (if hasB (nf d) (p:Int)=true then (kO d d.bV[p]!.ts).map fun a=>⟨true,⟨(p:Int),a⟩⟩ else []) else []
theorem vq (d:cR) (k:Nat):rM d (k+1)=rM d k++if hasB (fX d) (k:Int)=true then (kO d d.bV[k]!.ts).map fun a=>⟨false,⟨(k:Int),a⟩⟩ else []:=by
 rw [rM,List.range_succ,qd8];simp [rM]
theorem vr (d:cR) (k:Nat):rO d (k+1)=rO d k++if hasB (fX d) (k:Int)=true then (if hasB (nf d) (k:Int)=true then (kO d d.bV[k]!.ts).map fun a=>⟨true,⟨(k:Int),a⟩⟩ else []) else []:=by
 rw [rO,List.range_succ,qd8];simp [rO]
theorem qN (d:cR):∀ k,(rM d k).length≤(kD d k).length
 |0=>by simp [rM]
 |k+1=>by
  have:=qN d k;rw [vq,lH,qa3,qa3,qa2];split
  ·rw [qa2];omega
  rw [qf1];omega
theorem qO (d:cR):∀ k,(rO d k).length≤(kD d k).length
 |0=>by simp [rO]
 |k+1=>by
  have:=qO d k;rw [vr,lH,qa3,qa3,qa2];split
  ·split
   ·rw [qa2];omega
   rw [qf1];omega
  rw [qf1];omega
def fq (d:cR):List bG:=rM d d.bV.length++rO d d.bV.length
theorem Dj (d:cR) (h:zE d) (h4:(kD d d.bV.length).length≤400):bm prog 50 [.bC d.gs] (fun r=>r=b9 (fq d)):=by
 have hp8:=h.p8;have hhi:=h.Ig;have hob:=h.obj;have ho8:=h.o8;refine bc func50 ntmps50 ?_;refine Gx 2 (fun K hK K hK=>?_) VX VX VX;(refine cE (bR 1 rfl rfl rfl) ?_;simp only [go_sem,seval]);(refine cE (fe 3 0 503 3 40 68 aR aR al) ?_;simp only [go_sem,seval]);(refine cE (fe 4 0 504 3 40 68 aR aR al) ?_;simp only [go_sem,seval]);refine Gx 3 ?_ VX VX VX;refine bP (0::2::9::10::11::12::[5,6,7,8,15,16,17,18,19,20,21,22,23,24,25,26,27,28,29,30,31,32,33,34,36,37,38,39,40,41,42,43,44,45,46,47,48,49,50,51,52,53,54,55,56]) (fun k:Nat=>k≤d.bV.length) (fun k=>d.bV.length - k) (fun k=>[(15,.int k)]) (fun k=>[(3,⟨27,[.sl 3 40 503 0 (rM d k).length],true⟩),(503,⟨68,(rM d k).flatMap lN,false⟩),(4,⟨27,[.sl 3 40 504 0 (rO d k).length],true⟩),(504,⟨68,(rO d k).flatMap lN,false⟩)]) 0 (qc6 _) ?_ ?_
 ·refine bA ?_
  exact aZ
 rintro k hk K hK;refine bA ?_;by_cases hlt:k < d.bV.length
 ·refine Gx 5 (fun _ hc K hK K hK K hK=>?_) VX VX VX
  (refine Wd ?_;simp only [go_sem,seval]);(refine cE (bR 6 rfl rfl rfl) ?_;simp only [go_sem,seval]);have hmk:k < (Vv d).length:=by rw [jI];exact hlt
  have hmn:k < (Vw d).length:=by rw [jI];exact hlt
  have hmg:=ub hmk;have hng:=ub hmn;have hls:=vq d k;have hms:=vr d k;rw [bq hlt] at hls hms;cases hf:hasB (fX d) (k:Int) with
  |false=>
   rw [hf] at hmg hls hms;simp only [qa8,if_false,qe5] at hls hms;(repeat' (first|refine gD 5 ?_;refine dK (.r 0 8 .nil) ?_|intro (K:St→Prop) hK|intro hc|(refine yJ 6 ?_ ?_ ?_ ?_<;>try exact VX)|fail))
   ·refine ⟨k+1,by omega,by omega,?_⟩
    rw [hls,hms];refine bA ?_;exact aZ
   exfalso;simp_all
  |true=>
   rw [hf] at hmg hls hms;simp only [if_true] at hls hms;(repeat' (first|refine hK _ ?_;clear hK K|refine bH (fun K hK=>?_)|refine tu 6 aR ?_;refine bY ?_|refine gD 5 ?_;refine dK (.r 0 8 .nil) ?_|refine gE ?_;(first|refine iv ?_|refine nc (fun _=>?_))|refine gQ ?_;refine cZ (fun hc=>?_) (fun hc=>?_)<;>(try (first|contradiction|omega))|refine gX ?_;refine fb ?_|refine gS ?_;refine cS ?_|apply_assumption (exfalso:=false) (symm:=false)))
   ·exfalso;simp_all
   (repeat' (first|refine hK _ ?_;clear hK K|refine gD 6 ?_;refine dK (.r 0 6 (.it 6 1 .nil)) ?_|refine dH 109 ?_;refine bB (sP _ _) ?_|refine bE ?_));refine oC [0,2,6,7,8,9,10,11,12,16,17,18,19,20,21,22,23,24,25,26,27,28,29,30,31,32,33] ?_;simp only [kN,List.set_cons_succ,List.set_cons_zero];have hp:=h.Ua d.bV[k] (qa4 hlt);have hmono:=Dd d (j:=k+1) (n:=d.bV.length) ak;have hll:=qN d (k+1);have hml:=qO d (k+1);generalize hw:d.bV[k].ts=w at *;obtain ⟨Ng,hNg⟩:∃ b,hasB (nf d) (k:Int)=b:=⟨_,rfl⟩
   rw [hNg] at hng hms;have hqa:pF d k false [] w (rM d k)=rM d (k+1):=by rw [hls,pF,E7];simp
   have hqb:qF d k Ng [] w (rO d k)=rO d (k+1):=by
    rw [hms,qF];cases Ng
    ·simp
    rw [pF,E7];simp
   have hK9:=hK;refine kX 1000000001 aR aB ah ah ah func158 ntmps158 aR aR (fun y hyp hya hyb=>?_);simp only [go_sem,seval,dy,bl,qb8,qf1,qg6,qh3,Nat.reduceSub];have key:∀ (r pre:List Int) (A B:List bG),w=w.take pre.length++r→pre.length+r.length=w.length→(pF d k false pre r A).length≤400→(qF d k Ng pre r B).length≤400→
    cX prog 159 [ints pre,.bC [ints w],.ptr 703 0,.bC d.cs,.ptr 704 0] [(3,⟨27,[.sl 3 40 503 0 (A).length],true⟩),(503,⟨68,(A).flatMap lN,false⟩),(4,⟨27,[.sl 3 40 504 0 (B).length],true⟩),(504,⟨68,(B).flatMap lN,false⟩),(1000000001,⟨1000000001,[.any,.bC [.bC d.gs],.any,.ptr 3 0,.ptr 4 0,.bC [.int (k:Int)],.any,.any,.any,.any,.any,.any,.any,cY d.bV,.int (d.bV.length:Int),.int (k:Int),.any,.any,.any,.any,.any,.any,.any,.any,.any,.any,.any,.any,.any,.any,.any,.any,.any,.any,.fn 158 [.bC [ints w],.bC d.cs],.any,.any,.any,.any,.any,.any,.any,.any,.any,.any,.any,.any,.any,.any,.any,.any,.any,.any,.any,.any,.any,.any,.any,.any,.any],false⟩),(703,⟨246,[.yl 1000000001 y],true⟩),(704,⟨246,[.fn 159 [.bC [ints w],.ptr 703 0,.bC d.cs,.ptr 704 0]],true⟩)] [] [703,704]
     (fun x hp=>x= .bool true∧hp=[(3,⟨27,[.sl 3 40 503 0 (pF d k false pre r A).length],true⟩),(503,⟨68,(pF d k false pre r A).flatMap lN,false⟩),(4,⟨27,[.sl 3 40 504 0 (qF d k Ng pre r B).length],true⟩),(504,⟨68,(qF d k Ng pre r B).flatMap lN,false⟩),(1000000001,⟨1000000001,[.any,.bC [.bC d.gs],.any,.ptr 3 0,.ptr 4 0,.bC [.int (k:Int)],.any,.any,.any,.any,.any,.any,.any,cY d.bV,.int (d.bV.length:Int),.int (k:Int),.any,.any,.any,.any,.any,.any,.any,.any,.any,.any,.any,.any,.any,.any,.any,.any,.any,.any,.fn 158 [.bC [ints w],.bC d.cs],.any,.any,.any,.any,.any,.any,.any,.any,.any,.any,.any,.any,.any,.any,.any,.any,.any,.any,.any,.any,.any,.any,.any,.any,.any],false⟩),(703,⟨246,[.yl 1000000001 y],true⟩),(704,⟨246,[.fn 159 [.bC [ints w],.ptr 703 0,.bC d.cs,.ptr 704 0]],true⟩)]):=by
    intro r
    induction r with
    |nil=>
     intro pre A B hr hl hA hB;rw [Li] at hA ⊢;simp only [qf1,Nat.add_zero,qa3,qb4] at hl hA;cases Ng with
     |true=>
      rw [qF,if_pos rfl,Li] at hB ⊢;simp only [qa3,qb4] at hB;refine cA func159 ntmps159 ?_;refine Gx 2 (fun hc K hK K hK=>?_) VX VX VX;refine jQ aR ?_;intro o ho;have ho2:o∈[[0,1,2,3,4],[1,0,2,3,4],[1,2,0,3,4]]:=by refine Eq.mp (congrArg (o∈·) ?_) ho;kernel_rfl
      simp only [qc2,qf9,or_false] at ho2;rcases ho2 with rfl|rfl|rfl
      ·simp only [qe3,qe9,qa0,qb9,qb2]
       (first|refine bN _ ao ?_|refine bO ao aw ?_);(try simp only [go_sem,seval,dy,bl]);(first|refine bN _ ao ?_|refine bO ao aw ?_);(try simp only [go_sem,seval,dy,bl]);refine bD rfl rfl (fun K1 hK1=>?_);refine cM (dk _) aR (fun x hx=>?_);obtain rfl:=hx;simp only [go_sem,seval];refine hK1 _ ?_;clear hK1 K1;refine b8 1000000002 hyp hya hyb aR aR aR aR aR aB aB aB aR ah aR aR ?_;simp only [go_sem,seval];refine gR ?_;refine bY ?_;refine ⟨_,_,Le.refl _,by rfl,by rfl,?_⟩;simp only [go_sem,seval];(repeat' (first|refine hK _ ?_;clear hK K|refine bH (fun K hK=>?_)|refine gR ?_;refine bY ?_|refine gD 10 ?_;refine dK (.r 0 7 .nil) ?_|refine bu (fun K hK=>?_);refine ck ?_|refine gE ?_;(first|refine iv ?_|refine nc (fun _=>?_))|refine gQ ?_;refine cZ (fun hc=>?_) (fun hc=>?_)<;>(try (first|contradiction|omega))|refine gW ?_;refine eo ?_|refine bE ?_|refine gS ?_;refine cS ?_))
       all_goals first
        |exact absurd (hng.symm.trans hc) aB
        |exact absurd hng hc
        |skip
       (try simp only [Nat.reduceBEq,qc1,qc5,qa8,reduceIte]);refine ⟨_,_,_,1000000001,Le.refl _,by rfl,by rfl,by rfl,rfl,?_⟩;simp only [go_sem,seval];refine bD rfl rfl (fun K1 hK1=>?_);refine bt dn ?_;simp only [go_sem,seval];refine hK1 _ ?_;clear hK1 K1;refine cH ?_;refine Go ?_ VX VX VX;exact VZ
      ·simp only [qe3,qe9,qa0,qb9,qb2]
       (first|refine bN _ ao ?_|refine bO ao aw ?_);(try simp only [go_sem,seval,dy,bl]);(first|refine bN _ ao ?_|refine bO ao aw ?_);(try simp only [go_sem,seval,dy,bl]);refine bD rfl rfl (fun K1 hK1=>?_);refine cM (dk _) aR (fun x hx=>?_);obtain rfl:=hx;simp only [go_sem,seval];refine hK1 _ ?_;clear hK1 K1;refine b8 1000000002 hyp hya hyb aR aR aR aR aR aB aB aB aR ah aR aR ?_;simp only [go_sem,seval];refine gR ?_;refine bY ?_;refine ⟨_,_,Le.refl _,by rfl,by rfl,?_⟩;simp only [go_sem,seval];(repeat' (first|refine hK _ ?_;clear hK K|refine bH (fun K hK=>?_)|refine gR ?_;refine bY ?_|refine gD 10 ?_;refine dK (.r 0 7 .nil) ?_|refine bu (fun K hK=>?_);refine ck ?_|refine gE ?_;(first|refine iv ?_|refine nc (fun _=>?_))|refine gQ ?_;refine cZ (fun hc=>?_) (fun hc=>?_)<;>(try (first|contradiction|omega))|refine gW ?_;refine eo ?_|refine bE ?_|refine gS ?_;refine cS ?_))
       all_goals first
        |exact absurd (hng.symm.trans hc) aB
        |exact absurd hng hc
        |skip
       (try simp only [Nat.reduceBEq,qc1,qc5,qa8,reduceIte]);refine ⟨_,_,_,1000000001,Le.refl _,by rfl,by rfl,by rfl,rfl,?_⟩;simp only [go_sem,seval];refine bD rfl rfl (fun K1 hK1=>?_);refine bt dn ?_;simp only [go_sem,seval];refine hK1 _ ?_;clear hK1 K1;refine cH ?_;refine Go ?_ VX VX VX;exact VZ
      simp only [qe3,qe9,qa0,qb9,qb2];(first|refine bN _ ao ?_|refine bO ao aw ?_);(try simp only [go_sem,seval,dy,bl]);refine bD rfl rfl (fun K1 hK1=>?_);refine cM (dk _) aR (fun x hx=>?_);obtain rfl:=hx;simp only [go_sem,seval];refine hK1 _ ?_;clear hK1 K1;(first|refine bN _ ao ?_|refine bO ao aw ?_);(try simp only [go_sem,seval,dy,bl]);refine b8 1000000002 hyp hya hyb aR aR aR aR aR aB aB aB aR ah aR aR ?_;simp only [go_sem,seval];refine gR ?_;refine bY ?_;refine ⟨_,_,Le.refl _,by rfl,by rfl,?_⟩;simp only [go_sem,seval];(repeat' (first|refine hK _ ?_;clear hK K|refine bH (fun K hK=>?_)|refine gR ?_;refine bY ?_|refine gD 10 ?_;refine dK (.r 0 7 .nil) ?_|refine bu (fun K hK=>?_);refine ck ?_|refine gE ?_;(first|refine iv ?_|refine nc (fun _=>?_))|refine gQ ?_;refine cZ (fun hc=>?_) (fun hc=>?_)<;>(try (first|contradiction|omega))|refine gW ?_;refine eo ?_|refine bE ?_|refine gS ?_;refine cS ?_))
      all_goals first
       |exact absurd (hng.symm.trans hc) aB
       |exact absurd hng hc
       |skip
      (try simp only [Nat.reduceBEq,qc1,qc5,qa8,reduceIte]);refine ⟨_,_,_,1000000001,Le.refl _,by rfl,by rfl,by rfl,rfl,?_⟩;simp only [go_sem,seval];refine bD rfl rfl (fun K1 hK1=>?_);refine bt dn ?_;simp only [go_sem,seval];refine hK1 _ ?_;clear hK1 K1;refine cH ?_;refine Go ?_ VX VX VX;exact VZ
     |false=>
      rw [qF,if_neg aC] at hB ⊢;refine cA func159 ntmps159 ?_;refine Gx 2 (fun hc K hK K hK=>?_) VX VX VX;refine jQ aR ?_;intro o ho;have ho2:o∈[[0,1,2,3,4],[1,0,2,3,4],[1,2,0,3,4]]:=by refine Eq.mp (congrArg (o∈·) ?_) ho;kernel_rfl
      simp only [qc2,qf9,or_false] at ho2;rcases ho2 with rfl|rfl|rfl
      ·simp only [qe3,qe9,qa0,qb9,qb2]
       (first|refine bN _ ao ?_|refine bO ao aw ?_);(try simp only [go_sem,seval,dy,bl]);(first|refine bN _ ao ?_|refine bO ao aw ?_);(try simp only [go_sem,seval,dy,bl]);refine bD rfl rfl (fun K1 hK1=>?_);refine cM (dk _) aR (fun x hx=>?_);obtain rfl:=hx;simp only [go_sem,seval];refine hK1 _ ?_;clear hK1 K1;refine b8 1000000002 hyp hya hyb aR aR aR aR aR aB aB aB aR ah aR aR ?_;simp only [go_sem,seval];refine gR ?_;refine bY ?_;refine ⟨_,_,Le.refl _,by rfl,by rfl,?_⟩;simp only [go_sem,seval];(repeat' (first|refine gD 10 ?_;refine dK (.r 0 7 .nil) ?_|refine bu (fun K hK=>?_);refine ck ?_|intro (K:St→Prop) hK|intro hc|(refine Gf 99 ?_ ?_ ?_ ?_<;>try exact VX)|fail))
       all_goals first
        |exact absurd (hng.symm.trans hc) aB
        |exact absurd hng hc
        |skip
       (try simp only [Nat.reduceBEq,qc1,qc5,qa8,reduceIte]);refine ⟨_,_,_,1000000001,Le.refl _,by rfl,by rfl,by rfl,rfl,?_⟩;simp only [go_sem,seval];refine bD rfl rfl (fun K1 hK1=>?_);refine bt dn ?_;simp only [go_sem,seval];refine hK1 _ ?_;clear hK1 K1;refine cH ?_;refine Go ?_ VX VX VX;exact VZ
      ·simp only [qe3,qe9,qa0,qb9,qb2]
       (first|refine bN _ ao ?_|refine bO ao aw ?_);(try simp only [go_sem,seval,dy,bl]);(first|refine bN _ ao ?_|refine bO ao aw ?_);(try simp only [go_sem,seval,dy,bl]);refine bD rfl rfl (fun K1 hK1=>?_);refine cM (dk _) aR (fun x hx=>?_);obtain rfl:=hx;simp only [go_sem,seval];refine hK1 _ ?_;clear hK1 K1;refine b8 1000000002 hyp hya hyb aR aR aR aR aR aB aB aB aR ah aR aR ?_;simp only [go_sem,seval];refine gR ?_;refine bY ?_;refine ⟨_,_,Le.refl _,by rfl,by rfl,?_⟩;simp only [go_sem,seval];(repeat' (first|refine gD 10 ?_;refine dK (.r 0 7 .nil) ?_|refine bu (fun K hK=>?_);refine ck ?_|intro (K:St→Prop) hK|intro hc|(refine Gf 99 ?_ ?_ ?_ ?_<;>try exact VX)|fail))
       all_goals first
        |exact absurd (hng.symm.trans hc) aB
        |exact absurd hng hc
        |skip
       (try simp only [Nat.reduceBEq,qc1,qc5,qa8,reduceIte]);refine ⟨_,_,_,1000000001,Le.refl _,by rfl,by rfl,by rfl,rfl,?_⟩;simp only [go_sem,seval];refine bD rfl rfl (fun K1 hK1=>?_);refine bt dn ?_;simp only [go_sem,seval];refine hK1 _ ?_;clear hK1 K1;refine cH ?_;refine Go ?_ VX VX VX;exact VZ
      simp only [qe3,qe9,qa0,qb9,qb2];(first|refine bN _ ao ?_|refine bO ao aw ?_);(try simp only [go_sem,seval,dy,bl]);refine bD rfl rfl (fun K1 hK1=>?_);refine cM (dk _) aR (fun x hx=>?_);obtain rfl:=hx;simp only [go_sem,seval];refine hK1 _ ?_;clear hK1 K1;(first|refine bN _ ao ?_|refine bO ao aw ?_);(try simp only [go_sem,seval,dy,bl]);refine b8 1000000002 hyp hya hyb aR aR aR aR aR aB aB aB aR ah aR aR ?_;simp only [go_sem,seval];refine gR ?_;refine bY ?_;refine ⟨_,_,Le.refl _,by rfl,by rfl,?_⟩;simp only [go_sem,seval];(repeat' (first|refine gD 10 ?_;refine dK (.r 0 7 .nil) ?_|refine bu (fun K hK=>?_);refine ck ?_|intro (K:St→Prop) hK|intro hc|(refine Gf 99 ?_ ?_ ?_ ?_<;>try exact VX)|fail))
      all_goals first
       |exact absurd (hng.symm.trans hc) aB
       |exact absurd hng hc
       |skip
      (try simp only [Nat.reduceBEq,qc1,qc5,qa8,reduceIte]);refine ⟨_,_,_,1000000001,Le.refl _,by rfl,by rfl,by rfl,rfl,?_⟩;simp only [go_sem,seval];refine bD rfl rfl (fun K1 hK1=>?_);refine bt dn ?_;simp only [go_sem,seval];refine hK1 _ ?_;clear hK1 K1;refine cH ?_;refine Go ?_ VX VX VX;exact VZ
    |cons t r ih=>
     intro pre A B hr hl hA hB;have hlen:(t::r).length=r.length+1:=rfl;rw [hlen] at hl;have hne:¬((pre.length:Int)=(w.length:Int)):=by omega
     have hwt:w[pre.length]?=some t:=by
      have h1:(w.take pre.length).length=pre.length:=by rw [qc0];omega
      have h2:(w.take pre.length++t::r)[pre.length]?=some t:=by rw [qc7 (Nat.le_of_eq h1),h1,qm0];rfl
      rwa [← hr] at h2
     have hpw:pre.length < w.length:=by omega
     have hwe:w[pre.length]=t:=by rw [qa7 hpw] at hwt;exact ql1 hwt
     refine cA func159 ntmps159 ?_;(repeat' (first|refine gD 3 ?_;refine Wf ?_|refine dH 160 ?_;refine bB (KV _ _ _ aE aE aE) ?_|intro (K:St→Prop) hK|intro hc|(refine Gf 99 ?_ ?_ ?_ ?_<;>try exact VX)|fail));have hoe:wB d.types d.dg t d.dg.length=lM d t:=rfl;simp only [hwe,hoe];have hof:=nH d.types d.dg t d.dg.length;rw [hoe] at hof;refine bP [6,8,29,30,31,32,33,34,35,36,37,38,39,40,41] (fun j:Nat=>j≤(lM d t).length) (fun j=>(lM d t).length - j) (fun j=>[(29,.int j)]) (fun j=>[(3,⟨27,[.sl 3 40 503 0 (pK d k false pre t r A j).length],true⟩),(503,⟨68,(pK d k false pre t r A j).flatMap lN,false⟩),(4,⟨27,[.sl 3 40 504 0 (qK d k Ng pre t r B j).length],true⟩),(504,⟨68,(qK d k Ng pre t r B j).flatMap lN,false⟩)]) 0 (qc6 _) ?_ ?_
     ·rw [Gt,Ot]
      refine bA ?_;exact aZ
     rintro j hj K hK;refine bA ?_;by_cases hlt:j < (lM d t).length
     ·have ihj:=ih (pre++[(lM d t)[j]]) (pK d k false pre t r A j) (qK d k Ng pre t r B j) (by
       rw [qa3,qb4,List.take_add_one,hwt,Option.toList_some,qd6];exact hr) (by rw [qa3,qb4];omega)
       (by rw [Bd hlt];exact qd3 (Lk d k false pre t r A (j+1)) hA) (by rw [Gu hlt];exact qd3 (Ry d k Ng pre t r B (j+1)) hB)
      rw [Bd hlt,Gu hlt] at ihj;have hprb:(pre.length+1) * 8≤140737488355328:=by omega
      simp only [ints,qb5,qd4,qg5] at ihj;refine Gx 6 (fun _ hc K hK K hK=>?_) VX VX VX;(repeat' (first|refine gD 6 ?_;refine vP (s1:=?_) (.it 1 0 (.it 3 0 (.Aj 0 2 4 (.fk 2 4 (.it 4 1 (.it 5 3 (.it 6 3 (.it 7 1 .nil)))) (.it 2 1 (.it 5 3 (.it 6 3 (.it 7 1 .nil))))) (.fk 0 4 (.it 4 1 (.it 5 3 (.it 6 3 (.it 7 1 .nil)))) (.pY 0 1 5 3 (.it 5 3 (.it 6 3 (.it 7 1 .nil))) (.it 0 1 (.it 6 3 (.it 7 1 .nil))))) (.fk 0 2 (.it 2 1 (.it 5 3 (.it 6 3 (.it 7 1 .nil)))) (.pY 0 1 5 3 (.it 5 3 (.it 6 3 (.it 7 1 .nil))) (.it 0 1 (.it 6 3 (.it 7 1 .nil)))))))) ?_ ?_;rotate_left|refine c8 (fun K hK=>?_);(first|(refine mB (d:=some 35) (rv 35000 _) aR (by first|exact jE al|(intro id hid;simp only [qc2,qf9,or_false] at hid;rcases hid with rfl|rfl|rfl|rfl<;>first|rfl|(simp only [go_sem,seval];done)|(simp only [St.free,cz,go_sem,seval];done)|(simp only [go_sem,seval];rfl)|(simp [St.free,cz,AV.bz,AV.cq];try exact ef _ _ _ fun _=>rfl))) (fun x hp hx=>?_);obtain ⟨rfl,rfl⟩:=hx)|refine cN (d:=37) aJ aR aR aR aR ?_)|refine yP ?_;refine nR ?_|refine fQ (fun K hK=>?_);refine ck ?_|intro (K:St→Prop) hK|intro hc|(refine tG 99 ?_ ?_ ?_ ?_<;>try exact VX)|fail))
      all_goals (try (refine fQ (fun K hK=>?_);(try simp only [Nat.reduceBEq,qc5,qc1,qa8,reduceIte]);refine fy (dL (f:=AV.int) 35005 1 8 (pre.length+1) (pre++[(lM d t)[j]]) aR (by rw [jV,qb5];rfl) aC (fun _=>rfl) (fun _=>rfl) ak) ?_;simp only [AV.dT,sealS_any,sealS_v,sealS_isl,sealS_iptr,di,dz,sealS_agg,sealS_tup,sealS_fn,purge_agg,purge_tup,purge_fn,and_self,AV.bz,AV.cq,qf0,go_sem,seval,qb5,qd4,qg5];(refine eu aR (ihj) au (fun _ h=>by cases h) aR (fun x hp' hx=>?_);obtain ⟨rfl,rfl⟩:=hx<;>simp only [go_sem,seval,dy,bl]);refine hK _ ?_;clear hK K;refine HB VX VX VX VX))
      refine iy ?_ VX VX VX;refine ⟨j+1,by omega,by omega,?_⟩;refine bA ?_;exact aZ
     obtain rfl:j=(lM d t).length:=by omega
     rw [Lj,Rx];refine iy (fun hc K hK=>?_) VX VX VX;exact VZ
   refine bH (fun K hK=>?_);refine dU ?_;refine cn rfl (fun K1 hK1=>?_);refine l9 (d:=3) 703 ah (.inl rfl) ah ?_;simp only [go_sem,seval];refine hK1 _ ?_;clear hK1 K1;refine lr ?_;refine hK _ ?_;clear hK K;refine bH (fun K hK=>?_);refine dU ?_;refine cn rfl (fun K1 hK1=>?_);refine ov (d:=4) 704 ah ?_;simp only [go_sem,seval];refine hK1 _ ?_;clear hK1 K1;refine lr ?_;refine hK _ ?_;clear hK K;have kb:=xH (args':=[.fO,.bC [ints w],.ptr 703 0,.bC d.cs,.ptr 704 0]) (key w [] (rM d k) (rO d k) aC aC (by rw [hqa];omega) (by rw [hqb];omega)) ⟨iO.nil 1 8,iO.ic _,iO.ic _,iO.ic _,iO.ic _,trivial⟩;rw [hqa,hqb] at kb;clear key;refine Gx 3 (fun K hK=>?_) VX VX VX;refine bu (fun K hK=>?_);refine bt cL ?_;simp only [go_sem,seval];refine hK _ ?_;clear hK K;refine Gx 3 ?_ VX VX VX;refine gR ?_;refine bY ?_;refine bu (fun K hK=>?_);(refine eu aR (kb) au (fun _ h=>by cases h) aR (fun x hp' hx=>?_);obtain ⟨rfl,rfl⟩:=hx<;>simp only [go_sem,seval,dy,bl]);refine hK _ ?_;clear hK K;(repeat' (refine gW ?_;refine eo ?_));refine ⟨_,_,.normal,1000000001,_,Le.refl _,iI,rfl,by rfl,?_⟩;simp only [go_sem,seval,dy,bl];refine hK9 _ ?_;clear hK9 hK;refine Go ?_ VX VX VX;refine ⟨k+1,by omega,by omega,?_⟩;refine bA ?_;exact aZ
 obtain rfl:k=d.bV.length:=by omega
 have hll:=qN d d.bV.length;have hml:=qO d d.bV.length;have hall:fq d=rM d d.bV.length++rO d d.bV.length:=rfl;generalize rM d d.bV.length=X at *;generalize rO d d.bV.length=Y at *;refine HA 13 (fun hc K hK K hK=>?_) VX VX VX;(refine cE (cV (f:=bG.av) 504 3 40 Y.length Y aR (dS _) aN (fun _=>rfl) (fun _=>rfl) ak) ?_;try simp only [go_sem,seval]);refine Go ?_ VX VX VX;rw [hall];refine wK (f:=bG.av) (X++Y) rfl aR (by rw [dS,Bc];rfl) aC (fun _=>rfl) (fun _=>rfl) ak rfl
end
end Go.Proofs.YtkbiagkbmodgdaaGreat
