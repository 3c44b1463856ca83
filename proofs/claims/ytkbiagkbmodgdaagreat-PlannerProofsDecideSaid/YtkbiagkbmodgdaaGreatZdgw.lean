/- Part of a proof: of two right answers both have a plan, at one cost, or none. No condition. -/
import Derived.Test.YtkbiagkbmodgdaaGreatZabo
import Derived.Test.YtkbiagkbmodgdaaGreatZdtd
set_option linter.unusedSimpArgs false
set_option linter.unusedVariables false
namespace Go.Proofs.YtkbiagkbmodgdaaGreat
open Go.Ab
open Go
set_option maxRecDepth 10000
attribute [local irreducible] dE fh mC lW db PV eR ef AW bg dn ec dP cO Ab.Fin ft en gI iO RV jX Le eI fM mg gV kf dz dg
set_option maxHeartbeats 4000000
attribute [local go_sem] fp
theorem gF {α:Type} {g:Nat→Option α} {n k:Nat} (h:bD g n=none) (hk:k < n):g k=none:=jm.1 h k hk
theorem zU {l:List (l8×Int)} (h:kS l=(0,0)):vg l∧l.length≤8:=by
 unfold kS at h
 split at h
 ·cases h
 ·rename_i h8
  cases hf:bD (Jx l) l.length with
  |some q=>
   rw [hf] at h
   simp only [Option.getD_some] at h
   subst h
   obtain ⟨i,_,hg⟩:=dN hf
   unfold Jx at hg
   (repeat' split at hg)<;>simp at hg
  |none=>
   refine ⟨fun i hi=>?_,by omega⟩
   have:=gF hf hi
   unfold Jx at this
   rw [bY hi] at this
   (repeat' split at this)<;>first|(simp at this;done)|omega
theorem CU {ts l:List (l8×Int)} (h:oF ts.length l=(0,0)):rB ts l∧l.length≤8:=by
 unfold oF at h
 split at h
 ·cases h
 ·rename_i h8
  cases hf:bD (Jy ts.length l) l.length with
  |some q=>
   rw [hf] at h
   simp only [Option.getD_some] at h
   subst h
   obtain ⟨i,_,hg⟩:=dN hf
   unfold Jy at hg
   (repeat' split at hg)<;>simp at hg
  |none=>
   refine ⟨fun i hi=>?_,by omega⟩
   have:=gF hf hi
   unfold Jy at this
   rw [bY hi] at this
   (repeat' split at this)<;>first|(simp at this;done)|omega
theorem GG (d:dB):vi d []:=fun i h=>by simp at h
def NS (x y:bB):Bool:=yb x y == 0
theorem L7 (x:bB) (l:List bB):dt 238 [.bx [.int x.p,ints x.a]] bB.av (NS x) l:=by
 intro u hu
 (refine bh Tryz.func238 Tryz.ntmps238 ?_)
 (repeat' (first|(refine hK _ ?_;clear hK K)|(refine aM (fun K hK=>?_))|(refine gR ?_;refine aP ?_)|(refine gC 167 ?_;refine bp (rC _ _) ?_)|(refine gT ?_;refine aZ ?_)))
 (refine aT (Le.refl _) (aQ (aO ab)) af ?_)
 rfl
def GH (l:List bB) (i:Nat):Option Int:=if (l.take i).any (NS l[i]!)=true then some 7 else none
def qo (d:dB):Int:=if gK d [] d.init 40≠0 then gK d [] d.init 40 else (bD (GH d.init) d.init.length).getD 0
theorem EC (d:dB) (hl:vg d.types) (ho:rB d.types d.dT):bg Tryz.prog 206 [d.av] (fun r=>r= .int (qo d)):=by
 have hat:=mI (o6 d [] d.init 40 hl ho (GG d)) (args':=[d.av,.fS,cZ d.init,.int 40]) ⟨iP.iB _,iP.nil 1 8,iP.iB _,iP.iB _,trivial⟩
 obtain ⟨ty,ob,pr,sc,ini,go⟩:=d
 obtain ⟨e,he⟩:∃ e,gK ⟨ty,ob,pr,sc,ini,go⟩ [] ini 40=e:=⟨_,rfl⟩
 simp only at hat
 rw [he] at hat
 have hS:qo ⟨ty,ob,pr,sc,ini,go⟩=if e≠0 then e else (bD (GH ini) ini.length).getD 0:=by rw [qo];simp only [he]
 (refine bh Tryz.func206 Tryz.ntmps206 ?_)
 (repeat' (first|(refine hK _ ?_;clear hK K)|(refine aM (fun K hK=>?_))|(refine gR ?_;refine aP ?_)|(refine gC 237 ?_;refine bp (hat) ?_)|(refine gE ?_;refine cc ?_)|(refine gQ ?_;refine aS (fun hc=>?_) (fun hc=>?_)<;>(try (first|contradiction|omega)))|(refine aN ?_)|(refine gT ?_;refine aZ ?_)|(refine gS ?_;refine aX ?_)))
 ·(refine aT (Le.refl _) (aQ (aO ab)) af ?_)
  rw [hS,if_pos az]
 rw [if_neg aj] at hS
 (refine r8 (id:=1) (j:=4) rfl rfl (fun hb=>?_);(try simp only [List.length_map] at hb))
 refine bO [2,4,5,16,17,18,19,20,21,22,23,24,25,26,27] (fun k:Nat=>k≤ini.length∧bD (GH ini) k=none) (fun k=>ini.length - k) (fun k=>[(16,.int k)]) (fun _=>[(1,⟨29,[fT ty,fT ob,fi pr,jn sc,cZ ini,dM go],true⟩)]) 0 ⟨by omega,rfl⟩ ?_ ?_
 ·(refine cm ?_)
  (exact bd)
 ·rintro k ⟨hk,hn⟩ K hK
  (refine cm ?_)
  by_cases hlt:k < ini.length
  ·have hg:GH ini k=if (ini.take k).any (NS ini[k])=true then some 7 else none:=by rw [GH,bY hlt]
   (repeat' (first|(refine hK _ ?_;clear hK K)|(refine aM (fun K hK=>?_))|(refine gR ?_;refine aP ?_)|(refine gC 165 ?_;refine bp (zV _ 238 [.bx [.int _,ints _]] rfl _ (L7 ⟨_,_⟩ _)) ?_)|(refine bn (fun K hK=>?_);refine fD (bQ 5 rfl rfl rfl) ?_;simp only [go_sem,seval];refine bK cD ?_)|(refine gE ?_;(first|(refine cc ?_)|(refine dL (fun _=>?_))))|(refine gQ ?_;refine aS (fun hc=>?_) (fun hc=>?_)<;>(try (first|contradiction|omega)))|(refine gW ?_;refine bN ?_)|(refine aN ?_)|(refine gT ?_;refine aZ ?_)|(refine gS ?_;refine aX ?_)))
   ·(refine aT (Le.refl _) (aQ (aO ab)) af ?_)
    rw [if_pos az] at hg
    rw [hS,cQ hn hg hlt]
    rfl
   ·rw [if_neg (by simp only [List.get_eq_getElem] at *;simp only [*];exact Bool.false_ne_true)] at hg
    (refine ⟨k+1,⟨by omega,dy hn hg⟩,by omega,?_⟩;(refine cm ?_);(exact bd))
  ·(repeat' (first|(refine hK _ ?_;clear hK K)|(refine aM (fun K hK=>?_))|(refine gR ?_;refine aP ?_)|(refine gQ ?_;refine aS (fun hc=>?_) (fun hc=>?_)<;>(try (first|contradiction|omega)))|(refine gX ?_;refine bV ?_)|(refine gT ?_;refine aZ ?_)|(apply_assumption (exfalso:=false) (symm:=false))))
   (refine aT (Le.refl _) (aQ (aO ab)) af ?_)
   obtain rfl:k=ini.length:=by omega
   rw [hS,hn]
   rfl
def ED (d:dB) (i:Nat):Option (Int×Int):=if tf d i≠0 then some (tf d i,-3) else none
def EE (d:dB) (i:Nat):Option (Int×Int):=if zW d i≠0 then some (zW d i,(i:Int)) else none
def lq (d:dB):Int×Int:=
 if kS d.types≠(0,0) then ((kS d.types).1,-1)
 else if oF d.types.length d.dT≠(0,0) then ((oF d.types.length d.dT).1,-2)
 else if 8 < d.cC.length then (2,-3)
 else ((bD (ED d) d.cC.length).or (if 8 < d.eh.length then some (2,-4) else
  (bD (EE d) d.eh.length).or (if qo d≠0 then some (qo d,-5) else if vj d [] d.goal≠0 then some (vj d [] d.goal,-6) else none))).getD (0,0)
theorem GI (d:dB):bg Tryz.prog 157 [d.av] (fun r=>r=fault (lq d).1 (lq d).2):=by
 have hty:=GJ d.types
 have hob:=Jz d.types d.dT
 have hpr:=GK d
 have hsc:=JA d
 have hst:=EC d
 have hli:=fun a b=>mI (zY d [] d.goal a b (GG d)) (args':=[d.av,.fS,dM d.goal]) ⟨iP.iB _,iP.nil 1 8,iP.iB _,trivial⟩
 have htk:=@zU d.types
 have hok:=@CU d.types d.dT
 obtain ⟨D,hD⟩:∃ D,lq d=D:=⟨_,rfl⟩
 rw [hD]
 rw [lq] at hD
 obtain ⟨ty,ob,pr,sc,ini,go⟩:=d
 obtain ⟨D1,D2⟩:=D
 simp only at hty hob hpr hsc hst hli htk hok hD ⊢
 obtain ⟨f,hf⟩:∃ f,kS ty=f:=⟨_,rfl⟩
 obtain ⟨g,hg⟩:∃ g,oF ty.length ob=g:=⟨_,rfl⟩
 rw [hf] at hty htk hD
 rw [hg] at hob hok hD
 obtain ⟨f1,f2⟩:=f
 obtain ⟨g1,g2⟩:=g
 simp only at hty hob
 (refine bh Tryz.func157 Tryz.ntmps157 ?_)
 (repeat' (first|(refine hK _ ?_;clear hK K)|(refine aM (fun K hK=>?_))|(refine fH 9 ab ?_;refine aP ?_)|(refine gC 202 ?_;refine bp (hty) ?_)|(refine gC 203 ?_;refine bp (hob) ?_)|(refine gE ?_;refine cc ?_)|(refine gQ ?_;refine aS (fun hc=>?_) (fun hc=>?_)<;>(try (first|contradiction|omega)))|(refine gT ?_;refine aZ ?_)|(refine gS ?_;refine aX ?_)))
 ·(refine aT (Le.refl _) (aQ (bt (by first|exact bF ab ab ab ab|exact br ab ab ab aq))) af ?_)
  rw [if_pos (by simp only [ne_eq,Prod.mk.injEq];omega)] at hD
  cases hD;rfl
 ·(refine aT (Le.refl _) (aQ (bt (by first|exact bF ab ab ab ab|exact br ab ab ab aq))) af ?_)
  rw [if_neg (by simp only [ne_eq,Prod.mk.injEq];omega),if_pos (by simp only [ne_eq,Prod.mk.injEq];omega)] at hD
  cases hD;rfl
 ·(refine aT (Le.refl _) (aQ (bt (by first|exact bF ab ab ab ab|exact br ab ab ab aq))) af ?_)
  rw [if_neg (by simp only [ne_eq,Prod.mk.injEq];omega),if_neg (by simp only [ne_eq,Prod.mk.injEq];omega),if_pos aj] at hD
  cases hD;rfl
 rw [if_neg (by simp only [ne_eq,Prod.mk.injEq];omega),if_neg (by simp only [ne_eq,Prod.mk.injEq];omega),if_neg aj] at hD
 have hH:=(htk (by simp only [Prod.mk.injEq];omega)).1
 have hO:=(hok (by simp only [Prod.mk.injEq];omega)).1
 have hst:=hst hH hO
 have hli:=hli hH hO
 have hsc:=fun i h=>hsc i h hH hO
 clear hty hob htk hok
 obtain ⟨eS,heS⟩:∃ e,qo ⟨ty,ob,pr,sc,ini,go⟩=e:=⟨_,rfl⟩
 obtain ⟨eL,heL⟩:∃ e,vj ⟨ty,ob,pr,sc,ini,go⟩ [] go=e:=⟨_,rfl⟩
 rw [heS] at hst hD
 rw [heL] at hli hD
 (repeat' (first|(refine hK _ ?_;clear hK K)|(refine gR ?_;refine aP ?_)|(refine gE ?_;refine cc ?_)|(refine aN ?_)))
 refine bO [5,6,39,40,41,42,43,44,45,46,47,48,49] (fun k:Nat=>k≤pr.length∧bD (ED ⟨ty,ob,pr,sc,ini,go⟩) k=none) (fun k=>pr.length - k) (fun k=>[(39,.int k)]) (fun _=>[(1,⟨29,[fT ty,fT ob,fi pr,jn sc,cZ ini,dM go],true⟩),(2,⟨42,[.v (.int .i64 0),.v (.int .i64 0)],true⟩)]) 0 ⟨by omega,rfl⟩ ?_ ?_
 ·(refine cm ?_)
  (exact bd)
 ·rintro k ⟨hk,hn⟩ K hK
  (refine cm ?_)
  by_cases hlt:k < pr.length
  ·have h1:=hpr k hlt
   have h2:ED ⟨ty,ob,pr,sc,ini,go⟩ k=if tf ⟨ty,ob,pr,sc,ini,go⟩ k≠0 then some (tf ⟨ty,ob,pr,sc,ini,go⟩ k,-3) else none:=rfl
   generalize tf ⟨ty,ob,pr,sc,ini,go⟩ k=e at *
   (repeat' (first|(refine hK _ ?_;clear hK K)|(refine aM (fun K hK=>?_))|(refine gR ?_;refine aP ?_)|(refine gC 204 ?_;refine bp (h1) ?_)|(refine gE ?_;refine cc ?_)|(refine gQ ?_;refine aS (fun hc=>?_) (fun hc=>?_)<;>(try (first|contradiction|omega)))|(refine aN ?_)|(refine gT ?_;refine aZ ?_)|(refine gS ?_;refine aX ?_)))
   ·(refine aT (Le.refl _) (aQ (bt (by first|exact bF ab ab ab ab|exact br ab ab ab aq))) af ?_)
    rw [if_pos az] at h2
    rw [cQ hn h2 hlt] at hD
    cases hD;rfl
   ·rw [if_neg (by simp only [*,ne_eq,not_true_eq_false,not_false_eq_true])] at h2
    (refine ⟨k+1,⟨by omega,dy hn h2⟩,by omega,?_⟩;(refine cm ?_);(exact bd))
  ·obtain rfl:k=pr.length:=by omega
   rw [hn,Option.none_or] at hD
   (repeat' (first|(refine hK _ ?_;clear hK K)|(refine aM (fun K hK=>?_))|(refine gR ?_;refine aP ?_)|(refine gE ?_;refine cc ?_)|(refine gQ ?_;refine aS (fun hc=>?_) (fun hc=>?_)<;>(try (first|contradiction|omega)))|(refine aN ?_)|(refine gX ?_;refine bV ?_)|(refine gT ?_;refine aZ ?_)|(refine gS ?_;refine aX ?_)|(apply_assumption (exfalso:=false) (symm:=false))))
   ·(refine aT (Le.refl _) (aQ (bt (by first|exact bF ab ab ab ab|exact br ab ab ab aq))) af ?_)
    rw [if_pos aj] at hD
    cases hD;rfl
   rw [if_neg aj] at hD
   refine bO [7,8,58,59,60,61,62,63,64,65,66,67,68,69] (fun k:Nat=>k≤sc.length∧bD (EE ⟨ty,ob,pr,sc,ini,go⟩) k=none) (fun k=>sc.length - k) (fun k=>[(58,.int k)]) (fun _=>[(1,⟨29,[fT ty,fT ob,fi pr,jn sc,cZ ini,dM go],true⟩),(2,⟨42,[.v (.int .i64 0),.v (.int .i64 0)],true⟩)]) 0 ⟨by omega,rfl⟩ ?_ ?_
   ·(refine cm ?_)
    (exact bd)
   ·rintro k ⟨hk,hm⟩ K hK
    (refine cm ?_)
    by_cases hlt:k < sc.length
    ·have h1:=hsc k hlt
     have h2:EE ⟨ty,ob,pr,sc,ini,go⟩ k=if zW ⟨ty,ob,pr,sc,ini,go⟩ k≠0 then some (zW ⟨ty,ob,pr,sc,ini,go⟩ k,(k:Int)) else none:=rfl
     generalize zW ⟨ty,ob,pr,sc,ini,go⟩ k=e at *
     (repeat' (first|(refine hK _ ?_;clear hK K)|(refine aM (fun K hK=>?_))|(refine gR ?_;refine aP ?_)|(refine gC 205 ?_;refine bp (h1) ?_)|(refine gE ?_;refine cc ?_)|(refine gQ ?_;refine aS (fun hc=>?_) (fun hc=>?_)<;>(try (first|contradiction|omega)))|(refine aN ?_)|(refine gT ?_;refine aZ ?_)|(refine gS ?_;refine aX ?_)))
     ·(refine aT (Le.refl _) (aQ (bt (by first|exact bF ab ab ab ab|exact br ab ab ab aq))) af ?_)
      rw [if_pos az] at h2
      rw [cQ hm h2 hlt] at hD
      cases hD;rfl
     ·rw [if_neg (by simp only [*,ne_eq,not_true_eq_false,not_false_eq_true])] at h2
      (refine ⟨k+1,⟨by omega,dy hm h2⟩,by omega,?_⟩;(refine cm ?_);(exact bd))
    ·obtain rfl:k=sc.length:=by omega
     rw [hm,Option.none_or] at hD
     (repeat' (first|(refine hK _ ?_;clear hK K)|(refine aM (fun K hK=>?_))|(refine gR ?_;refine aP ?_)|(refine gC 206 ?_;refine bp (hst) ?_)|(refine gC 207 ?_;refine bp (hli) ?_)|(refine gE ?_;refine cc ?_)|(refine gQ ?_;refine aS (fun hc=>?_) (fun hc=>?_)<;>(try (first|contradiction|omega)))|(refine gX ?_;refine bV ?_)|(refine gT ?_;refine aZ ?_)|(refine gS ?_;refine aX ?_)|(apply_assumption (exfalso:=false) (symm:=false))))
     ·(refine aT (Le.refl _) (aQ (bt (by first|exact bF ab ab ab ab|exact br ab ab ab aq))) af ?_)
      rw [if_pos az] at hD
      cases hD;rfl
     ·(refine aT (Le.refl _) (aQ (bt (by first|exact bF ab ab ab ab|exact br ab ab ab aq))) af ?_)
      rw [if_neg (by simp only [*,ne_eq,not_true_eq_false,not_false_eq_true]),if_pos az] at hD
      cases hD;rfl
     ·(refine aT (Le.refl _) (aQ (bt (by first|exact bF ab ab ab ab|exact br ab ab ab aq))) af ?_)
      rw [if_neg (by simp only [*,ne_eq,not_true_eq_false,not_false_eq_true]),if_neg (by simp only [*,ne_eq,not_true_eq_false,not_false_eq_true])] at hD
      cases hD;rfl
end Go.Proofs.YtkbiagkbmodgdaaGreat
namespace Go.Proofs.YtkbiagkbmodgdaaGreat
open Go.Ab
open Go
set_option maxRecDepth 10000
theorem PU {P:Program} {aU:Nat→Option TI} [hT:Tb P aU] {ops:Array Oper} {hs:List Nat} {K:St→Prop} {r:Sc} {s:St} {d:Option Tmp} {fo:Operand} {f:FuncId} {caps:List AV} {args:Array Operand} {eQ:Array TypeId} {ty:TypeId} {pos:String} {bC:Array Edge} {g:Option (Nat×Bool)} {x:AV} [hc:cS P f]
  (hf:s.eval fo= .fn f caps) (h:bg P f (cn s args++caps) (fun y=>y=x)) (hp:AV.cj (cn s args++caps)=true) (k:fh P aU ops hs K r (s.put d x)):gV P ops hs ⟨d,.call {callee:=.value fo,args,argTypes:=eQ},ty,pos,bC,g⟩ r s K:=
 fun K' hK'=>ev hf h hp fun y hy=>by subst hy;exact hK' _ (np _ _ k)
attribute [local irreducible] dE fh mC lW db PV eR ef AW bg dn ec dP cO Ab.Fin ft en gI iO RV jX Le eI fM mg gV kf dz dg
set_option maxHeartbeats 4000000
attribute [local go_sem] fp
def vk (args:List Int) (x:Int):Int:=if x < 0 then args[(-1 - x).toNat]! else x
theorem GL (x:Int) (args:List Int) (h:-(args.length:Int)≤x):bg Tryz.prog 209 [.int x,ints args] (fun r=>r= .int (vk args x)):=by
 (refine bh Tryz.func209 Tryz.ntmps209 ?_)
 (refine cL (i:=1) rfl (fun hb=>?_);(try simp only [List.length_map] at hb))
 (repeat' (first|(refine hK _ ?_;clear hK K)|(refine aM (fun K hK=>?_))|(refine gR ?_;refine aP ?_)|(refine gE ?_;(first|(refine cc ?_)|(refine dL (fun _=>?_))))|(refine gQ ?_;refine aS (fun hc=>?_) (fun hc=>?_)<;>(try (first|contradiction|omega)))|(refine gT ?_;refine aZ ?_)|(refine gS ?_;refine aX ?_)))
 all_goals (refine aT (Le.refl _) (aQ (aO ab)) af ?_)
 ·rw [vk,if_pos aj,bY aj]
 ·rw [vk,if_neg aj]
def OH (b:Bool):Int:=if b then 1 else 0
theorem GM (x:cz):bg Tryz.prog 169 [x.av] (fun r=>r= .int (OH x.neg)):=by
 (refine bh Tryz.func169 Tryz.ntmps169 ?_)
 (repeat' (first|(refine hK _ ?_;clear hK K)|(refine aM (fun K hK=>?_))|(refine gR ?_;refine aP ?_)|(refine gQ ?_;refine aS (fun hc=>?_) (fun hc=>?_)<;>(try (first|contradiction|omega)))|(refine gT ?_;refine aZ ?_)|(refine gS ?_;refine aX ?_)))
 all_goals (refine aT (Le.refl _) (aQ (aO ab)) af ?_)
 all_goals simp [OH, *]
def NT (x y:cz):Int:=if yb x.x y.x=0 then yc (OH x.neg) (OH y.neg) else yb x.x y.x
theorem L8 (x:cz):bg Tryz.prog 163 [x.av] (fun r=>r=(cz.mk (!x.neg) x.x).av):=by
 (refine bh Tryz.func163 Tryz.ntmps163 ?_)
 (repeat' (first|(refine hK _ ?_;clear hK K)|(refine aM (fun K hK=>?_))|(refine gR ?_;refine aP ?_)|(refine gE ?_;refine cc ?_)|(refine gT ?_;refine aZ ?_)))
 (refine aT (Le.refl _) (aQ (bt (by first|exact bF ab ab ab ab|exact br ab ab ab aq))) af ?_)
 rfl
def yd (l:List bB) (a:bB):Bool:=l.any (NS a)
theorem GN (x:bB) (l:List bB):dt 166 [.bx [.int x.p,ints x.a]] bB.av (NS x) l:=by
 intro u hu
 (refine bh Tryz.func166 Tryz.ntmps166 ?_)
 (repeat' (first|(refine hK _ ?_;clear hK K)|(refine aM (fun K hK=>?_))|(refine gR ?_;refine aP ?_)|(refine gC 167 ?_;refine bp (rC _ _) ?_)|(refine gT ?_;refine aZ ?_)))
 (refine aT (Le.refl _) (aQ (aO ab)) af ?_)
 rfl
theorem ye (l:List bB) (x:bB):bg Tryz.prog 116 [cZ l,x.av] (fun r=>r= .bool (yd l x)):=by
 (refine bh Tryz.func116 Tryz.ntmps116 ?_)
 (repeat' (first|(refine hK _ ?_;clear hK K)|(refine aM (fun K hK=>?_))|(refine gR ?_;refine aP ?_)|(refine gC 165 ?_;refine bp (zV _ 166 [.bx [.int _,ints _]] rfl _ (GN ⟨_,_⟩ _)) ?_)|(refine bn (fun K hK=>?_);refine fD (bQ 3 rfl rfl rfl) ?_;simp only [go_sem,seval];refine bK cD ?_)|(refine gW ?_;refine bN ?_)|(refine gT ?_;refine aZ ?_)))
 (refine aT (Le.refl _) (aQ (aO ab)) af ?_)
 rfl
theorem JB (x y:cz):bg Tryz.prog 120 [x.av,y.av] (fun r=>r= .int (NT x y)):=by
 (refine bh Tryz.func120 Tryz.ntmps120 ?_)
 (repeat' (first|(refine hK _ ?_;clear hK K)|(refine aM (fun K hK=>?_))|(refine gR ?_;refine aP ?_)|(refine gD 2 ?_;refine fg (.it 0 0 (.it 1 0 (.it 2 0 (.it 3 0 (.it 5 0 (.it 6 0 (.it 8 0 (.it 9 0 (.it 4 1 (.it 7 1 (.it 10 1 (.it 11 1 (.it 12 1 (.it 13 1 (.it 14 0 .nil))))))))))))))) [0,1,2,3,5,6,8,9,14] ?_)|(refine kK 167 ?_;refine dw (rC _ _) ?_)|(refine gE ?_;refine cc ?_)))
 refine PU ab (GM x) ab ?_
 simp only [go_sem,seval]
 (repeat' fail)
 refine PU ab (GM y) ab ?_
 simp only [go_sem,seval]
 (repeat' (first|(refine hK _ ?_;clear hK K)|(refine kK 171 ?_;refine dw (yf _ _) ?_)|(refine kK 170 ?_;refine dw (KW _ _) ?_)|(refine dk (fun K hK=>?_);refine dq (d:=18) aC ab ab ab ab ?_)|(refine kj ?_;refine eK ?_)|(refine gT ?_;refine aZ ?_)))
 (refine aT (Le.refl _) (aQ (aO ab)) af ?_)
 rfl
def PX (x y:cz):Bool:=NT x y == 0
def tE (l:List cz) (a:cz):Bool:=l.any (PX a)
theorem GO (x:cz) (l:List cz):dt 119 [.bx [.bool x.neg,.int x.x.p,ints x.x.a]] cz.av (PX x) l:=by
 intro u hu
 (refine bh Tryz.func119 Tryz.ntmps119 ?_)
 (repeat' (first|(refine hK _ ?_;clear hK K)|(refine aM (fun K hK=>?_))|(refine gR ?_;refine aP ?_)|(refine gC 120 ?_;refine bp (JB _ _) ?_)|(refine gT ?_;refine aZ ?_)))
 (refine aT (Le.refl _) (aQ (aO ab)) af ?_)
 rfl
theorem tY (l:List cz) (x:cz):bg Tryz.prog 57 [dM l,x.av] (fun r=>r= .bool (tE l x)):=by
 (refine bh Tryz.func57 Tryz.ntmps57 ?_)
 (repeat' (first|(refine hK _ ?_;clear hK K)|(refine aM (fun K hK=>?_))|(refine gR ?_;refine aP ?_)|(refine gC 118 ?_;refine bp (GP _ 119 [.bx [.bool _,.int _,ints _]] rfl _ (GO ⟨_,⟨_,_⟩⟩ _)) ?_)|(refine bn (fun K hK=>?_);refine fD (bQ 3 rfl rfl rfl) ?_;simp only [go_sem,seval];refine bK cD ?_)|(refine gW ?_;refine bN ?_)|(refine gT ?_;refine aZ ?_)))
 (refine aT (Le.refl _) (aQ (aO ab)) af ?_)
 rfl
def sG (facts l:List cz):Nat→List Int
 |0=>[]
 |k+1=>sG facts l k++if tE l facts[k]! =true then [(k:Int)] else []
theorem vn (facts l:List cz):∀ k,(sG facts l k).length≤k
 |0=>Nat.le_refl _
 |k+1=>by
  have:=vn facts l k
  rw [sG,List.length_append]
  split<;>simp<;>omega
theorem mQ (facts l:List cz):bg Tryz.prog 54 [dM facts,dM l] (fun r=>r=ints (sG facts l facts.length)):=by
 (refine bh Tryz.func54 Tryz.ntmps54 ?_)
 (refine cL (i:=0) rfl (fun hb=>?_);(try simp only [List.length_map] at hb))
 (repeat' (first|(refine hK _ ?_;clear hK K)|(refine aM (fun K hK=>?_))|(refine gR ?_;refine aP ?_)|(refine aN ?_)))
 (refine j1 5 100 1 8 3 ?_)
 refine bO [5,6,7,10,11,12,13,14,15,16,17,18,19,20,21,22] (fun k:Nat=>k≤facts.length) (fun k=>facts.length - k) (fun k=>[(10,.int k),(5,.sl 1 8 100 0 (sG facts l k).length)]) (fun k=>[(100,⟨3,(sG facts l k).map AV.int,false⟩)]) 0 aj ?_ ?_
 ·(refine cm ?_)
  (exact bd)
 ·rintro k hk K hK
  (refine cm ?_)
  have hrl:=vn facts l k
  by_cases hlt:k < facts.length
  ·have hst:sG facts l (k+1)=sG facts l k++if tE l facts[k]=true then [(k:Int)] else []:=by rw [sG,bY hlt]
   have hh:=tY l facts[k]
   (repeat' (first|(refine hK _ ?_;clear hK K)|(refine aM (fun K hK=>?_))|(refine gR ?_;refine aP ?_)|(refine gC 57 ?_;refine bp (hh) ?_)|(refine bn (fun K hK=>?_);(refine cF ?_;simp only [go_sem,seval,dj,aV]))|(refine gE ?_;(first|(refine cc ?_)|(refine dL (fun _=>?_))))|(refine gQ ?_;refine aS (fun hc=>?_) (fun hc=>?_)<;>(try (first|contradiction|omega)))|(refine gW ?_;refine bN ?_)|(refine aN ?_)|(refine gS ?_;refine aX ?_)))
   ·refine ⟨k+1,by omega,by omega,?_⟩
    rw [hst,if_pos az]
    (refine cm ?_)
    (refine dW (by (repeat (first|exact .nil|refine .drop ?_|refine dI ?_ aD))) (by (repeat refine dH ab aD ?_);exact aY _))
   ·refine ⟨k+1,by omega,by omega,?_⟩
    rw [hst,if_neg (by simp_all),List.append_nil]
    (refine cm ?_)
    (exact bd)
  ·obtain rfl:k=facts.length:=by omega
   (repeat' (first|(refine hK _ ?_;clear hK K)|(refine aM (fun K hK=>?_))|(refine gR ?_;refine aP ?_)|(refine gQ ?_;refine aS (fun hc=>?_) (fun hc=>?_)<;>(try (first|contradiction|omega)))|(refine gX ?_;refine bV ?_)|(refine gT ?_;refine aZ ?_)|(apply_assumption (exfalso:=false) (symm:=false))))
   refine oT (sG facts l facts.length) rfl ab ab rfl (fun _=>rfl) (fun _=>rfl) rfl
def BN (n:Nat) (x:bB):Prop:=∀ i (h:i < x.a.length),-(n:Int)≤x.a[i]
def lO (args:List Int) (x:bB):bB:=⟨x.p,x.a.map (vk args)⟩
theorem CV (x:bB) (args:List Int) (h:BN args.length x):bg Tryz.prog 162 [x.av,ints args] (fun r=>r=(lO args x).av):=by
 obtain ⟨p,a⟩:=x
 (refine bh Tryz.func162 Tryz.ntmps162 ?_)
 (repeat' (first|(refine hK _ ?_;clear hK K)|(refine aM (fun K hK=>?_))|(refine gR ?_;refine aP ?_)|(refine gE ?_;refine cc ?_)|(refine aN ?_)))
 (refine r8 (id:=2) (j:=1) rfl rfl (fun hba=>?_);(try simp only [List.length_map] at hba))
 (refine cT (iD 5 1 100 1 8 3 ab ab al) ?_;simp only [go_sem,seval])
 refine bO [7,14,15,16,17,18,19,20,21,22,23,24,25,26] (fun k:Nat=>k≤a.length) (fun k=>a.length - k) (fun k=>[(14,.int k)]) (fun k=>[(4,⟨66,[.v (.int .i64 0),.v (.slice none 0 0)],true⟩),(5,⟨66,[.int p,.sl 1 8 100 0 k],true⟩),(100,⟨3,((a.take k).map (vk args)).map AV.int,false⟩)]) 0 aj ?_ ?_
 ·(refine cm ?_)
  (exact bd)
 ·rintro k hk K hK
  (refine cm ?_)
  by_cases hlt:k < a.length
  ·have hv:=GL a[k] args (h k hlt)
   have hs:(a.take (k+1)).map (vk args)=(a.take k).map (vk args)++[vk args a[k]]:=by rw [List.take_succ_eq_append_getElem hlt,List.map_append];rfl
   have hlk:((a.take k).map (vk args)).length=k:=by simp;omega
   generalize (a.take k).map (vk args)=l at *
   (repeat' (first|(refine hK _ ?_;clear hK K)|(refine aM (fun K hK=>?_))|(refine gR ?_;refine aP ?_)|(refine gD 5 ?_;refine fg (.it 0 0 (.it 1 0 (.it 2 0 (.it 3 0 (.it 4 1 (.it 5 1 (.it 6 3 (.it 7 1 (.it 8 3 .nil))))))))) [0,1,2,3] ?_)|(refine kK 209 ?_;refine dw (hv) ?_)|(refine dk (fun K hK=>?_);(first|(refine eu (bl ab ab ak) ?_)|(refine dq (d:=23) aC ab ab ab ab ?_)))|(refine gH (fun K hK=>?_);refine cF ?_)|(refine gO ?_;refine jZ ?_)|(refine gE ?_;(first|(refine cc ?_)|(refine dL (fun _=>?_))))|(refine gQ ?_;refine aS (fun hc=>?_) (fun hc=>?_)<;>(try (first|contradiction|omega)))|(refine kj ?_;refine eK ?_)|(refine aN ?_)|(refine gS ?_;refine aX ?_)))
   refine ⟨k+1,by omega,by omega,?_⟩
   rw [hs]
   (refine cm ?_)
   (exact bd)
  ·obtain rfl:k=a.length:=by omega
   rw [List.take_length]
   (refine cT (sq 100 a.length (a.map (vk args)) ab aJ) ?_;simp only [go_sem,seval])
   (repeat' (first|(refine hK _ ?_;clear hK K)|(refine aM (fun K hK=>?_))|(refine gR ?_;refine aP ?_)|(refine gQ ?_;refine aS (fun hc=>?_) (fun hc=>?_)<;>(try (first|contradiction|omega)))|(refine gX ?_;refine bV ?_)|(refine gT ?_;refine aZ ?_)|(apply_assumption (exfalso:=false) (symm:=false))))
   (refine aT (Le.refl _) (aQ (bt (by first|exact bF ab ab ab ab|exact br ab ab ab aq))) af ?_)
   rfl
end Go.Proofs.YtkbiagkbmodgdaaGreat
namespace Go.Proofs.YtkbiagkbmodgdaaGreat
open Go.Ab
open Go
set_option maxRecDepth 10000
attribute [local irreducible] dE fh mC lW db PV eR ef AW bg dn ec dP cO Ab.Fin ft en gI iO RV jX Le eI fM mg gV kf dz dg
set_option maxHeartbeats 4000000
attribute [local go_sem] fp
structure zZ (d:dB) (ps:List Int) (x:bB):Prop where
 p0:0≤x.p
 p1:x.p < d.cC.length
 len:x.a.length=d.cC[x.p.toNat]!.ts.length
 args:∀ i (h:i < x.a.length),-(ps.length:Int)≤x.a[i]∧x.a[i] < d.dT.length
 eQ:∀ i (h:i < x.a.length),∃ t,wg d ps x.a[i]=some t∧BO d.types t d.cC[x.p.toNat]!.ts[i]! =true
theorem GQ {d:dB} {ps:List Int} {x:bB} (h:mR d ps x=0):zZ d ps x:=by
 unfold mR at h
 split at h
 ·omega
 ·split at h
  ·omega
  ·rename_i h1 h2
   have hn:bD (yg d ps x) x.a.length=none:=by
    cases hf:bD (yg d ps x) x.a.length with
    |none=>rfl
    |some q=>
     rw [hf] at h
     simp only [Option.getD_some] at h
     subst h
     obtain ⟨i,_,hg⟩:=dN hf
     unfold yg at hg
     (repeat' split at hg)<;>simp at hg
   have hty:∀ i (h:i < x.a.length),∃ t,wg d ps x.a[i]=some t∧BO d.types t d.cC[x.p.toNat]!.ts[i]! =true:=fun i hi=>by
    have:=gF hn hi
    unfold yg at this
    rw [bY hi] at this
    split at this
    ·cases this
    ·split at this
     ·exact ⟨_,by assumption,by assumption⟩
     ·cases this
   refine ⟨by omega,by omega,by simpa using h2,fun i hi=>?_,hty⟩
   obtain ⟨t,ht,_⟩:=hty i hi
   unfold wg at ht
   (repeat' split at ht)<;>first|(cases ht;done)|omega
theorem mS {d:dB} {ps:List Int} {l:List bB} {m:Int} (hm:m≠0) (h:gK d ps l m=0):l.length≤m∧∀ x∈l,zZ d ps x:=by
 unfold gK at h
 split at h
 ·omega
 ·refine ⟨by omega,fun x hx=>?_⟩
  cases hf:bD (tg d ps l) l.length with
  |some q=>
   rw [hf] at h
   simp only [Option.getD_some] at h
   subst h
   obtain ⟨i,_,hg⟩:=dN hf
   unfold tg at hg
   split at hg
   ·cases hg
   ·rename_i h1;injection hg with hg;exact absurd hg h1
  |none=>
   obtain ⟨i,hi,rfl⟩:=List.getElem_of_mem hx
   have:=gF hf hi
   unfold tg at this
   rw [bY hi] at this
   split at this
   ·exact GQ az
   ·cases this
structure GR (d:dB) (s:gJ):Prop where
 PY:s.ts.length≤3
 ts:vi d s.ts
 PZ:s.diff.length≤8
 diff:∀ p∈s.diff,0≤p.1∧p.1 < p.2∧p.2 < s.ts.length
 NU:s.pre.length≤8
 pre:∀ x∈s.pre,zZ d s.ts x.x
 L9:s.add.length≤8
 add:∀ x∈s.add,zZ d s.ts x
 Ma:s.del.length≤8
 del:∀ x∈s.del,zZ d s.ts x
 c0:0≤s.cost
 c1:s.cost≤100
theorem JC {d:dB} {l:List gJ} {s:gJ} (h:z6 d l s=0):GR d s:=by
 unfold z6 at h
 split at h;· omega
 split at h;· omega
 split at h;· omega
 split at h;· omega
 split at h;· omega
 split at h;· omega
 split at h;· omega
 split at h;· omega
 split at h;· omega
 rename_i h1 h2 h3 h4 h5 h6 h7 h8 h9
 obtain ⟨p1,p2⟩:=qp (d:=d) (ps:=s.ts) aj
 obtain ⟨l1,l2⟩:=mS aw (show gK d s.ts (s.pre.map cz.x) 8=0 from Decidable.not_not.1 h6)
 obtain ⟨a1,a2⟩:=mS aw (Decidable.not_not.1 h7)
 obtain ⟨b1,b2⟩:=mS aw (Decidable.not_not.1 h8)
 rw [List.length_map] at l1
 refine ⟨p1,p2,by omega,fun p hp=>?_,by omega,fun x hx=>l2 _ (List.mem_map_of_mem hx),by omega,a2,by omega,b2,by omega,by omega⟩
 simp only [Bool.not_eq_true,List.any_eq_false] at h5
 have:=h5 p hp
 simp [GS] at this
 omega
structure JD (d:dB):Prop where
 Mb:vg d.types
 t8:d.types.length≤8
 obj:rB d.types d.dT
 o8:d.dT.length≤8
 p8:d.cC.length≤8
 P0:∀ p∈d.cC,p.ts.length≤3∧vi d p.ts
 s8:d.eh.length≤8
 Mc:∀ s∈d.eh,GR d s
 i40:d.init.length≤40
 init:∀ x∈d.init,zZ d [] x
 g8:d.goal.length≤8
 goal:∀ x∈d.goal,zZ d [] x.x
theorem GU {d:dB} (h:lq d=(0,0)):JD d:=by
 unfold lq at h
 split at h
 ·rename_i h1
  simp only [Prod.mk.injEq] at h;omega
 split at h
 ·simp only [Prod.mk.injEq] at h;omega
 split at h
 ·simp only [Prod.mk.injEq] at h;omega
 rename_i h1 h2 h3
 obtain ⟨t1,t2⟩:=zU (Decidable.not_not.1 h1)
 obtain ⟨o1,o2⟩:=CU (Decidable.not_not.1 h2)
 cases hp:bD (ED d) d.cC.length with
 |some q=>
  rw [hp] at h
  simp only [Option.some_or,Option.getD_some] at h
  subst h
  obtain ⟨i,_,hg⟩:=dN hp
  unfold ED at hg
  split at hg<;>simp at hg
 |none=>
  rw [hp,Option.none_or] at h
  split at h
  ·simp at h
  ·cases hs:bD (EE d) d.eh.length with
   |some q=>
    rw [hs] at h
    simp only [Option.some_or,Option.getD_some] at h
    subst h
    obtain ⟨i,_,hg⟩:=dN hs
    unfold EE at hg
    split at hg
    ·rename_i h4;simp only [Option.some.injEq,Prod.mk.injEq] at hg;exact absurd hg.1 h4
    ·cases hg
   |none=>
    rw [hs,Option.none_or] at h
    split at h
    ·simp at h
    ·split at h
     ·simp at h
     ·rename_i h5 h6 h7
      have h6:=Decidable.not_not.1 h6
      unfold qo at h6
      split at h6
      ·rename_i h8;exact absurd h6 h8
      ·rename_i h8
       obtain ⟨i1,i2⟩:=mS aw (Decidable.not_not.1 h8)
       obtain ⟨g1,g2⟩:=mS aw (show gK d [] (d.goal.map cz.x) 8=0 from Decidable.not_not.1 h7)
       rw [List.length_map] at g1
       refine ⟨t1,t2,o1,o2,by omega,fun p hpm=>?_,by omega,fun s hsm=>?_,by omega,i2,by omega,fun x hx=>g2 _ (List.mem_map_of_mem hx)⟩
       ·obtain ⟨i,hi,rfl⟩:=List.getElem_of_mem hpm
        have:=gF hp hi
        unfold ED at this
        split at this
        ·cases this
        ·rename_i h9
         have h9:=Decidable.not_not.1 h9
         unfold tf at h9
         rw [bY hi] at h9
         split at h9;· omega
         split at h9;· omega
         exact qp h9
       ·obtain ⟨i,hi,rfl⟩:=List.getElem_of_mem hsm
        have:=gF hs hi
        unfold EE at this
        split at this
        ·cases this
        ·rename_i h9
         have h9:=Decidable.not_not.1 h9
         unfold zW at h9
         rw [bY hi] at h9
         exact JC h9
end Go.Proofs.YtkbiagkbmodgdaaGreat
namespace Go.Proofs.YtkbiagkbmodgdaaGreat
open Go.Ab
open Go
set_option maxRecDepth 10000
attribute [local irreducible] dE fh mC lW db PV eR ef AW bg dn ec dP cO Ab.Fin ft en gI iO RV jX Le eI fM mg gV kf dz dg
set_option maxHeartbeats 8000000
attribute [local go_sem] fp
def dX (n:Nat) (S:List Int):List Bool:=(List.range n).map fun (p:Nat)=>hasB S (p:Int)
theorem iH (n:Nat) (S:List Int):(dX n S).length=n:=by simp [dX]
theorem z7 {n:Nat} {S:List Int} {x:Int} (h0:0≤x) (b:Bool):(dX n S).set x.toNat (hasB S x|| b)=dX n (S++if b=true then [x] else []):=by
 apply List.ext_getElem
 ·simp [dX]
 ·intro i h1 h2
  rw [List.getElem_set]
  simp only [dX,List.getElem_map,List.getElem_range]
  split
  ·rename_i e
   subst e
   rw [Int.toNat_of_nonneg h0]
   cases b<;>simp [hasB]
  ·rename_i e
   cases b
   ·simp
   ·have:¬(i:Int)=x:=by omega
    simp [hasB,this]
theorem EF {n:Nat} {S:List Int} {x:Int} (h0:0≤x):(dX n S).set x.toNat true=dX n (S++[x]):=by
 have:=z7 (n:=n) (S:=S) h0 true
 rw [Bool.or_true,if_pos rfl] at this
 exact this
theorem rD {n:Nat} {S:List Int} {i:Nat} (h:i < (dX n S).length):(dX n S)[i]=hasB S (i:Int):=by simp [dX]
theorem o7 {n:Nat} {S:List Int} {x:Int} (h0:0≤x):((dX n S).map AV.bool).set x.toNat (.v (.bool true))=(dX n (S++[x])).map AV.bool:=by rw [← EF h0,List.map_set]
theorem tZ {n:Nat} {S:List Int} {x:Int} (h0:0≤x) (h1:x.toNat < (dX n S).length) {b c:Bool} (hb:b=((dX n S)[x.toNat]|| c)):((dX n S).map AV.bool).set x.toNat (.v (.bool b))=(dX n (S++if c=true then [x] else [])).map AV.bool:=by
 rw [hb,rD,Int.toNat_of_nonneg h0,← z7 h0,List.map_set]
def mT (l:List cz):List Int:=l.flatMap fun x=>if x.neg=true then [x.x.p] else []
theorem wY {l:List cz} {k:Nat} (h:k < l.length):mT (l.take (k+1))=mT (l.take k)++if l[k].neg=true then [l[k].x.p] else []:=by
 rw [List.take_succ_eq_append_getElem h,mT,List.flatMap_append];simp [mT]
theorem sH {α:Type} (f:α→Int) {l:List α} {k:Nat} (h:k < l.length):(l.take (k+1)).map f=(l.take k).map f++[f l[k]]:=by
 rw [List.take_succ_eq_append_getElem h,List.map_append];rfl
theorem GV (n:Nat):(dX n []).map AV.bool=List.replicate n (.v (.bool false)):=by
 apply List.ext_getElem
 ·simp [dX]
 ·intro i h1 h2
  simp [dX,hasB]
theorem wZ {α:Type} (f:α→List Int) {l:List α} {k:Nat} (h:k < l.length):(l.take (k+1)).flatMap f=(l.take k).flatMap f++f l[k]:=by
 rw [List.take_succ_eq_append_getElem h,List.flatMap_append];simp
def po (d:dB):List Int:=d.goal.map (·.x.p)++d.eh.flatMap fun s=>s.add.map (·.p)++s.del.map (·.p)
def EG (d:dB):List Int:=mT d.goal++d.eh.flatMap fun s=>mT s.pre
abbrev CW (l:List Bool):AV:=.cr 1 1 (l.map AV.bool)
theorem BP (d:dB) (h:JD d):bg Tryz.prog 108 [d.av] (fun r=>r= .dr [CW (dX d.cC.length (po d)),CW (dX d.cC.length (EG d))]):=by
 have hp8:=h.p8
 have hgo:=h.goal
 have hg8:=h.g8
 have hs8:=h.s8
 have hsch:=h.Mc
 have hn:=GV d.cC.length
 have hF:∀ S,po d=S→True:=fun _ _=>trivial
 obtain ⟨ty,ob,pr,sc,ini,go⟩:=d
 simp only at hp8 hgo hg8 hs8 hsch hn
 (refine bh Tryz.func108 Tryz.ntmps108 ?_)
 (repeat' (first|(refine hK _ ?_;clear hK K)|(refine aM (fun K hK=>?_))|(refine gR ?_;refine aP ?_)|(refine gD 1 ?_;refine wx (s1:=?_) (.it 0 0 (.it 1 0 (.it 2 0 (.it 4 0 (.it 5 0 (.it 6 0 (.fk 3 7 (.it 8 0 (.it 7 1 (.it 9 0 .nil))) (.it 3 1 (.it 8 0 (.it 9 0 .nil)))))))))) [0,1,2,4,5,6,8,9] ?_ ?_;rotate_left)|(refine dk (fun K hK=>?_);(first|(refine fJ (d:=17) ab ab aj aA aw ab 17 al ?_)|(refine fJ (d:=21) ab ab aj aA aw ab 21 al ?_)))|(refine And.intro ?_ ?_)|(refine gL ?_;(first|exact Le.refl _|exact bd))|(refine gE ?_;refine cc ?_)|(refine kj ?_;refine eK ?_)|(refine aN ?_)))
 refine bO [5,25,26,27,28,29,30,31,32,33,34,35,36,37,38,39,40,41,42,43,44,45,46,47,48,49] (fun k:Nat=>k≤go.length) (fun k=>go.length - k) (fun k=>[(25,.int k)]) (fun k=>[(1,⟨29,[fT ty,fT ob,fi pr,jn sc,cZ ini,dM go],true⟩),(17,⟨4,(dX pr.length ((go.take k).map (·.x.p))).map AV.bool,true⟩),(21,⟨4,(dX pr.length (mT (go.take k))).map AV.bool,true⟩)]) 0 aj ?_ ?_
 ·(refine cm ?_)
  (refine dW (by (repeat (first|exact .nil|refine .drop ?_|refine dI ?_ (by first|rfl|(exact hn.symm))))) (by (repeat refine dH ab (by first|rfl|(exact hn.symm)) ?_);exact aY _))
 ·rintro k hk K hK
  (refine cm ?_)
  have l1:=iH pr.length ((go.take k).map (·.x.p))
  have l2:=iH pr.length (mT (go.take k))
  by_cases hlt:k < go.length
  ·have hx:=hgo go[k] (List.getElem_mem hlt)
   have x0:=hx.p0
   have x1:=hx.p1
   simp only at x0 x1
   (repeat' (first|(refine hK _ ?_;clear hK K)|(refine aM (fun K hK=>?_))|(refine gR ?_;refine aP ?_)|(refine gD 6 ?_;refine fg (.it 0 0 (.it 1 0 (.it 2 0 (.it 3 0 (.it 4 0 (.it 5 0 (.it 6 0 (.it 7 0 (.it 8 0 (.it 9 0 (.it 10 0 (.it 11 0 (.it 12 0 (.it 13 0 (.it 14 0 (.it 15 3 .nil)))))))))))))))) [0,1,2,3,4,5,6,7,8,9,10,11,12,13,14] ?_)|(refine gO ?_;refine jZ ?_)|(refine gE ?_;(first|(refine cc ?_)|(refine dL (fun _=>?_))))|(refine Lo ?_;refine pQ (fun hc=>?_) (fun hc=>?_)<;>(try (first|contradiction|omega)))|(refine gQ ?_;refine aS (fun hc=>?_) (fun hc=>?_)<;>(try (first|contradiction|omega)))|(refine aN ?_)|(refine gS ?_;refine aX ?_)))
   all_goals
    refine ⟨k+1,by omega,by omega,?_⟩
    rw [sH _ hlt,wY hlt]
    (refine cm ?_)
    (refine dW (by (repeat (first|exact .nil|refine .drop ?_|refine dI ?_ (by first|rfl|(first|exact o7 x0|exact tZ x0 aj (by simp only [*,Bool.true_or,Bool.false_or])))))) (by (repeat refine dH ab (by first|rfl|(first|exact o7 x0|exact tZ x0 aj (by simp only [*,Bool.true_or,Bool.false_or]))) ?_);exact aY _))
  ·obtain rfl:k=go.length:=by omega
   rw [List.take_length] at *
   (repeat' (first|(refine hK _ ?_;clear hK K)|(refine aM (fun K hK=>?_))|(refine gR ?_;refine aP ?_)|(refine gE ?_;refine cc ?_)|(refine gQ ?_;refine aS (fun hc=>?_) (fun hc=>?_)<;>(try (first|contradiction|omega)))|(refine aN ?_)|(refine gX ?_;refine bV ?_)|(apply_assumption (exfalso:=false) (symm:=false))))
   generalize hA1:go.map (·.x.p)=A1 at *
   generalize hA2:mT go=A2 at *
   refine bO [7,9,11,13,53,54,55,56,57,58,59,60,61,62,63,64,65,66,67,68,69,70,71,72,73,74,75,76,77,78,79,80,81,82,83,84,85,86,87,88,89,90,91,92,93,94,95,96,97,98,99,100,101,102] (fun k:Nat=>k≤sc.length) (fun k=>sc.length - k) (fun k=>[(53,.int k)]) (fun k=>[(1,⟨29,[fT ty,fT ob,fi pr,jn sc,cZ ini,dM go],true⟩),(17,⟨4,(dX pr.length (A1++(sc.take k).flatMap fun s=>s.add.map (·.p)++s.del.map (·.p))).map AV.bool,true⟩),(21,⟨4,(dX pr.length (A2++(sc.take k).flatMap fun s=>mT s.pre)).map AV.bool,true⟩)]) 0 aj ?_ ?_
   ·(refine cm ?_)
    (refine dW (by (repeat (first|exact .nil|refine .drop ?_|refine dI ?_ aD))) (by (repeat refine dH ab aD ?_);exact aY _))
   ·rintro k hk K hK
    (refine cm ?_)
    by_cases hlt:k < sc.length
    ·have hs:=hsch sc[k] (List.getElem_mem hlt)
     have ha8:=hs.L9
     have hd8:=hs.Ma
     have hp8':=hs.NU
     have e1:=wZ (fun s:gJ=>s.add.map (·.p)++s.del.map (·.p)) hlt
     have e2:=wZ (fun s:gJ=>mT s.pre) hlt
     have hstep:∀ B:List Int,A1++(sc.take (k+1)).flatMap (fun s=>s.add.map (·.p)++s.del.map (·.p))=(A1++(sc.take k).flatMap fun s=>s.add.map (·.p)++s.del.map (·.p))++sc[k].add.map (·.p)++sc[k].del.map (·.p):=fun _=>by rw [e1];simp
     have hstep2:A2++(sc.take (k+1)).flatMap (fun s=>mT s.pre)=(A2++(sc.take k).flatMap fun s=>mT s.pre)++mT sc[k].pre:=by rw [e2];simp
     generalize (A1++(sc.take k).flatMap fun s=>s.add.map (·.p)++s.del.map (·.p))=B1 at *
     generalize (A2++(sc.take k).flatMap fun s=>mT s.pre)=B2 at *
     (repeat' (first|(refine hK _ ?_;clear hK K)|(refine aM (fun K hK=>?_))|(refine gR ?_;refine aP ?_)|(refine gE ?_;(first|(refine cc ?_)|(refine dL (fun _=>?_))))|(refine gQ ?_;refine aS (fun hc=>?_) (fun hc=>?_)<;>(try (first|contradiction|omega)))|(refine aN ?_)|(refine gS ?_;refine aX ?_)))
     refine bO [9,11,63,64,65,66,67,68,69,70,71,72,73,74,75,76,77,78] (fun p:Nat×List Int=>(p.1=0∧p.2=B1)∨(p.1=1∧p.2=B1++sc[k].add.map (·.p))∨(p.1=2∧p.2=B1++sc[k].add.map (·.p)++sc[k].del.map (·.p))) (fun p=>2 - p.1) (fun p=>[(63,.int p.1)]) (fun p=>[(1,⟨29,[fT ty,fT ob,fi pr,jn sc,cZ ini,dM go],true⟩),(17,⟨4,(dX pr.length (p.2)).map AV.bool,true⟩),(21,⟨4,(dX pr.length (B2)).map AV.bool,true⟩),(7,⟨100,[str sc[k].name,ints sc[k].ts,vp sc[k].diff,dM sc[k].pre,cZ sc[k].add,cZ sc[k].del,.int sc[k].cost],true⟩)]) (0,B1) (.inl ⟨rfl,rfl⟩) ?_ ?_
     ·(refine cm ?_)
      (exact bd)
     ·rintro ⟨j,S⟩ hj K hK
      simp only at hj ⊢
      (refine cm ?_)
      rcases hj with ⟨rfl,rfl⟩|⟨rfl,rfl⟩|⟨rfl,rfl⟩
      ·(repeat' (first|(refine hK _ ?_;clear hK K)|(refine aM (fun K hK=>?_))|(refine gR ?_;refine aP ?_)|(refine gQ ?_;refine cf ?_)|(refine aN ?_)|(refine gS ?_;refine aX ?_)))
       refine bO [11,69,70,71,72,73,74,75,76,77] (fun i:Nat=>i≤sc[k].add.length) (fun i=>sc[k].add.length - i) (fun i=>[(69,.int i)]) (fun i=>[(1,⟨29,[fT ty,fT ob,fi pr,jn sc,cZ ini,dM go],true⟩),(17,⟨4,(dX pr.length (S++(sc[k].add.take i).map (·.p))).map AV.bool,true⟩),(21,⟨4,(dX pr.length (B2)).map AV.bool,true⟩),(7,⟨100,[str sc[k].name,ints sc[k].ts,vp sc[k].diff,dM sc[k].pre,cZ sc[k].add,cZ sc[k].del,.int sc[k].cost],true⟩)]) 0 aj ?_ ?_
       ·(refine cm ?_)
        (refine dW (by (repeat (first|exact .nil|refine .drop ?_|refine dI ?_ aD))) (by (repeat refine dH ab aD ?_);exact aY _))
       ·rintro i hi K hK
        (refine cm ?_)
        have l1:=iH pr.length (S++(sc[k].add.take i).map (·.p))
        by_cases hlt2:i < sc[k].add.length
        ·have hx:=hs.add sc[k].add[i] (List.getElem_mem hlt2)
         have x0:=hx.p0
         have x1:=hx.p1
         simp only at x0 x1
         (repeat' (first|(refine hK _ ?_;clear hK K)|(refine aM (fun K hK=>?_))|(refine gR ?_;refine aP ?_)|(refine gE ?_;(first|(refine cc ?_)|(refine dL (fun _=>?_))))|(refine gQ ?_;refine aS (fun hc=>?_) (fun hc=>?_)<;>(try (first|contradiction|omega)))|(refine aN ?_)|(refine gS ?_;refine aX ?_)))
         refine ⟨i+1,by omega,by omega,?_⟩
         rw [sH _ hlt2,← List.append_assoc]
         (refine cm ?_)
         (refine dW (by (repeat (first|exact .nil|refine .drop ?_|refine dI ?_ (by first|rfl|(exact o7 x0))))) (by (repeat refine dH ab (by first|rfl|(exact o7 x0)) ?_);exact aY _))
        ·obtain rfl:i=sc[k].add.length:=by omega
         rw [List.take_length] at *
         (repeat' (first|(refine hK _ ?_;clear hK K)|(refine aM (fun K hK=>?_))|(refine gR ?_;refine aP ?_)|(refine gE ?_;refine cc ?_)|(refine gQ ?_;refine aS (fun hc=>?_) (fun hc=>?_)<;>(try (first|contradiction|omega)))|(refine gX ?_;refine bV ?_)|(apply_assumption (exfalso:=false) (symm:=false))))
         refine ⟨(1,S++sc[k].add.map (·.p)),(.inr (.inl ⟨rfl,rfl⟩)),by simp only;omega,?_⟩
         (refine cm ?_)
         (exact bd)
      ·(repeat' (first|(refine hK _ ?_;clear hK K)|(refine aM (fun K hK=>?_))|(refine gR ?_;refine aP ?_)|(refine gE ?_;refine cc ?_)|(refine gQ ?_;refine cf ?_)|(refine aN ?_)|(refine gS ?_;refine aX ?_)))
       refine bO [11,69,70,71,72,73,74,75,76,77] (fun i:Nat=>i≤sc[k].del.length) (fun i=>sc[k].del.length - i) (fun i=>[(69,.int i)]) (fun i=>[(1,⟨29,[fT ty,fT ob,fi pr,jn sc,cZ ini,dM go],true⟩),(17,⟨4,(dX pr.length ((B1++sc[k].add.map (·.p))++(sc[k].del.take i).map (·.p))).map AV.bool,true⟩),(21,⟨4,(dX pr.length (B2)).map AV.bool,true⟩),(7,⟨100,[str sc[k].name,ints sc[k].ts,vp sc[k].diff,dM sc[k].pre,cZ sc[k].add,cZ sc[k].del,.int sc[k].cost],true⟩)]) 0 aj ?_ ?_
       ·(refine cm ?_)
        (refine dW (by (repeat (first|exact .nil|refine .drop ?_|refine dI ?_ aD))) (by (repeat refine dH ab aD ?_);exact aY _))
       ·rintro i hi K hK
        (refine cm ?_)
        have l1:=iH pr.length ((B1++sc[k].add.map (·.p))++(sc[k].del.take i).map (·.p))
        by_cases hlt2:i < sc[k].del.length
        ·have hx:=hs.del sc[k].del[i] (List.getElem_mem hlt2)
         have x0:=hx.p0
         have x1:=hx.p1
         simp only at x0 x1
         (repeat' (first|(refine hK _ ?_;clear hK K)|(refine aM (fun K hK=>?_))|(refine gR ?_;refine aP ?_)|(refine gE ?_;(first|(refine cc ?_)|(refine dL (fun _=>?_))))|(refine gQ ?_;refine aS (fun hc=>?_) (fun hc=>?_)<;>(try (first|contradiction|omega)))|(refine aN ?_)|(refine gS ?_;refine aX ?_)))
         refine ⟨i+1,by omega,by omega,?_⟩
         rw [sH _ hlt2,← List.append_assoc]
         (refine cm ?_)
         (refine dW (by (repeat (first|exact .nil|refine .drop ?_|refine dI ?_ (by first|rfl|(exact o7 x0))))) (by (repeat refine dH ab (by first|rfl|(exact o7 x0)) ?_);exact aY _))
        ·obtain rfl:i=sc[k].del.length:=by omega
         rw [List.take_length] at *
         (repeat' (first|(refine hK _ ?_;clear hK K)|(refine aM (fun K hK=>?_))|(refine gR ?_;refine aP ?_)|(refine gE ?_;refine cc ?_)|(refine gQ ?_;refine aS (fun hc=>?_) (fun hc=>?_)<;>(try (first|contradiction|omega)))|(refine gX ?_;refine bV ?_)|(apply_assumption (exfalso:=false) (symm:=false))))
         refine ⟨(2,(B1++sc[k].add.map (·.p))++sc[k].del.map (·.p)),(.inr (.inr ⟨rfl,rfl⟩)),by simp only;omega,?_⟩
         (refine cm ?_)
         (exact bd)
      ·(repeat' (first|(refine hK _ ?_;clear hK K)|(refine aM (fun K hK=>?_))|(refine gR ?_;refine aP ?_)|(refine gE ?_;refine cc ?_)|(refine gQ ?_;refine bT ?_)|(refine aN ?_)|(refine gX ?_;refine bV ?_)|(apply_assumption (exfalso:=false) (symm:=false))))
       refine bO [13,82,83,84,85,86,87,88,89,90,91,92,93,94,95,96,97,98,99,100,101] (fun i:Nat=>i≤sc[k].pre.length) (fun i=>sc[k].pre.length - i) (fun i=>[(82,.int i)]) (fun i=>[(1,⟨29,[fT ty,fT ob,fi pr,jn sc,cZ ini,dM go],true⟩),(17,⟨4,(dX pr.length (B1++sc[k].add.map (·.p)++sc[k].del.map (·.p))).map AV.bool,true⟩),(21,⟨4,(dX pr.length (B2++mT (sc[k].pre.take i))).map AV.bool,true⟩),(7,⟨100,[str sc[k].name,ints sc[k].ts,vp sc[k].diff,dM sc[k].pre,cZ sc[k].add,cZ sc[k].del,.int sc[k].cost],true⟩)]) 0 aj ?_ ?_
       ·(refine cm ?_)
        (refine dW (by (repeat (first|exact .nil|refine .drop ?_|refine dI ?_ (by first|rfl|(simp [mT]))))) (by (repeat refine dH ab (by first|rfl|(simp [mT])) ?_);exact aY _))
       ·rintro i hi K hK
        (refine cm ?_)
        have l1:=iH pr.length (B2++mT (sc[k].pre.take i))
        by_cases hlt2:i < sc[k].pre.length
        ·have hx:=hs.pre sc[k].pre[i] (List.getElem_mem hlt2)
         have x0:=hx.p0
         have x1:=hx.p1
         simp only at x0 x1
         (repeat' (first|(refine hK _ ?_;clear hK K)|(refine aM (fun K hK=>?_))|(refine gR ?_;refine aP ?_)|(refine gD 23 ?_;refine fg (.it 0 0 (.it 1 0 (.it 2 0 (.it 3 0 (.it 4 0 (.it 5 0 (.it 6 0 (.it 7 0 (.it 8 0 (.it 9 0 (.it 10 0 (.it 11 0 (.it 12 0 (.it 13 0 (.it 14 0 (.it 15 3 .nil)))))))))))))))) [0,1,2,3,4,5,6,7,8,9,10,11,12,13,14] ?_)|(refine gO ?_;refine jZ ?_)|(refine gE ?_;(first|(refine cc ?_)|(refine dL (fun _=>?_))))|(refine Lo ?_;refine pQ (fun hc=>?_) (fun hc=>?_)<;>(try (first|contradiction|omega)))|(refine gQ ?_;refine aS (fun hc=>?_) (fun hc=>?_)<;>(try (first|contradiction|omega)))|(refine aN ?_)|(refine gS ?_;refine aX ?_)))
         all_goals
          refine ⟨i+1,by omega,by omega,?_⟩
          rw [wY hlt2,← List.append_assoc]
          (refine cm ?_)
          (refine dW (by (repeat (first|exact .nil|refine .drop ?_|refine dI ?_ (by first|rfl|(exact tZ x0 aj (by simp only [*,Bool.true_or,Bool.false_or])))))) (by (repeat refine dH ab (by first|rfl|(exact tZ x0 aj (by simp only [*,Bool.true_or,Bool.false_or]))) ?_);exact aY _))
        ·obtain rfl:i=sc[k].pre.length:=by omega
         rw [List.take_length] at *
         (repeat' (first|(refine hK _ ?_;clear hK K)|(refine aM (fun K hK=>?_))|(refine gR ?_;refine aP ?_)|(refine gE ?_;refine cc ?_)|(refine gQ ?_;refine aS (fun hc=>?_) (fun hc=>?_)<;>(try (first|contradiction|omega)))|(refine gX ?_;refine bV ?_)|(apply_assumption (exfalso:=false) (symm:=false))))
         refine ⟨k+1,by omega,by omega,?_⟩
         rw [hstep B1,hstep2]
         (refine cm ?_)
         (exact bd)
    ·obtain rfl:k=sc.length:=by omega
     rw [List.take_length] at *
     (repeat' (first|(refine hK _ ?_;clear hK K)|(refine aM (fun K hK=>?_))|(refine fH 26 ab ?_;refine aP ?_)|(refine gQ ?_;refine aS (fun hc=>?_) (fun hc=>?_)<;>(try (first|contradiction|omega)))|(refine gX ?_;refine bV ?_)|(apply_assumption (exfalso:=false) (symm:=false))))
     (refine cT (eg (f:=AV.bool) 17 1 1 pr.length (dX pr.length (A1++sc.flatMap fun s=>s.add.map (·.p)++s.del.map (·.p))) ab (mw (f:=AV.bool) (fun _=>rfl) _) (by first|rfl|simp [iH]) (fun _=>rfl) (fun _=>rfl) aj) ?_;try simp only [go_sem,seval])
     (refine cT (eg (f:=AV.bool) 21 1 1 pr.length (dX pr.length (A2++sc.flatMap fun s=>mT s.pre)) ab (mw (f:=AV.bool) (fun _=>rfl) _) (by first|rfl|simp [iH]) (fun _=>rfl) (fun _=>rfl) aj) ?_;try simp only [go_sem,seval])
     (repeat' (first|(refine hK _ ?_;clear hK K)|(refine gR ?_;refine aP ?_)|(refine gT ?_;refine aZ ?_)))
     (refine aT (Le.refl _) (dx (aO ab) (aO ab)) af ?_)
     rw [po,EG,← hA1,← hA2]
end Go.Proofs.YtkbiagkbmodgdaaGreat
namespace Go.Proofs.YtkbiagkbmodgdaaGreat
open Go.Ab
open Go
set_option maxRecDepth 10000
set_option maxHeartbeats 4000000
structure eB where
 ns:List I3
 fd:List (I3×Int)
 pr:List (I3×Int)
def nd (ns:List I3) (k:Int):I3:=ns[(k - 2).toNat]!
def Vd (ns:List I3) (k:Int):Prop:=0≤k∧k < ns.length+2
def lvl (L:Int) (ns:List I3) (k:Int):Int:=if k < 2 then L else (nd ns k).1
def GW:List I3→Int→(Int→Bool)→Bool
 |[],k,_=>decide (k=1)
 |n::r,k,v=>if k=(r.length:Int)+2 then (if v n.1=true then GW r n.2.2 v else GW r n.2.1 v) else GW r k v
def fQ (ns:List I3) (k:Int) (v:Int→Bool):Bool:=GW ns.reverse k v
theorem vq (ns:List I3) (n:I3) (k:Int) (v:Int→Bool):fQ (ns++[n]) k v=if k=(ns.length:Int)+2 then (if v n.1=true then fQ ns n.2.2 v else fQ ns n.2.1 v) else fQ ns k v:=by
 simp [fQ,GW]
theorem ku:∀ (ms ns:List I3) {k:Int} {v:Int→Bool},k < ns.length+2→fQ (ns++ms) k v=fQ ns k v
 |[],ns,k,v,_=>by rw [List.append_nil]
 |m::ms,ns,k,v,h=>by
  rw [show ns++m::ms=(ns++[m])++ms by simp,ku ms (ns++[m]) (by rw [List.length_append];omega),vq,if_neg aj]
theorem lP (ns:List I3) {k:Int} (h:k < 2) (v:Int→Bool):fQ ns k v=decide (k=1):=by
 have:=ku ns [] (k:=k) (v:=v) (by simpa using h)
 rw [List.nil_append] at this
 rw [this];rfl
theorem nM (ms:List I3) {ns:List I3} {k:Int} (h2:2≤k) (h:k < ns.length+2):nd (ns++ms) k=nd ns k:=by
 have hlt:(k - 2).toNat < ns.length:=by omega
 unfold nd
 rw [getElem!_pos (ns++ms) _ (by rw [List.length_append];omega),getElem!_pos ns _ hlt,List.getElem_append_left hlt]
theorem qq (ns:List I3) (n:I3):nd (ns++[n]) ((ns.length:Int)+2)=n:=by
 unfold nd
 have:((ns.length:Int)+2 - 2).toNat=ns.length:=by omega
 rw [this,getElem!_pos (ns++[n]) _ ax];simp
theorem lQ (L:Int) (ms:List I3) {ns:List I3} {k:Int} (h:k < ns.length+2):lvl L (ns++ms) k=lvl L ns k:=by
 unfold lvl
 split
 ·rfl
 ·rw [nM ms aj h]
theorem JE (L:Int) (ns:List I3) (n:I3):lvl L (ns++[n]) ((ns.length:Int)+2)=n.1:=by
 unfold lvl;rw [if_neg aj,qq]
structure JF (L:Int) (ns:List I3) (k:Int):Prop where
 v0:0≤(nd ns k).1
 vL:(nd ns k).1 < L
 l0:0≤(nd ns k).2.1
 lk:(nd ns k).2.1 < k
 h0:0≤(nd ns k).2.2
 hk:(nd ns k).2.2 < k
 ne:(nd ns k).2.1≠(nd ns k).2.2
 ll:(nd ns k).1 < lvl L ns (nd ns k).2.1
 lh:(nd ns k).1 < lvl L ns (nd ns k).2.2
def Fa (L:Int) (ns:List I3):Prop:=∀ k:Int,2≤k→k < ns.length+2→JF L ns k
theorem JF.ext {L:Int} {ns:List I3} {k:Int} (h:JF L ns k) (h2:2≤k) (hk:k < ns.length+2) (ms:List I3):JF L (ns++ms) k:=by
 have e:=nM ms h2 hk
 obtain ⟨a1,a2,a3,a4,a5,a6,a7,a8,a9⟩:=h
 constructor
 all_goals rw [e]
 all_goals (try assumption)
 ·rw [lQ L ms aj];exact a8
 ·rw [lQ L ms aj];exact a9
theorem Fa.snoc {L:Int} {ns:List I3} {lv lo hi:Int} (h:Fa L ns) (h0:0≤lv) (hL:lv < L) (vl:Vd ns lo) (vh:Vd ns hi) (hne:lo≠hi) (ll:lv < lvl L ns lo) (lh:lv < lvl L ns hi):Fa L (ns++[(lv,lo,hi)]):=by
 intro k h2 hk
 rw [List.length_append,List.length_singleton] at hk
 by_cases hlt:k < ns.length+2
 ·exact (h k h2 hlt).ext h2 hlt _
 ·obtain rfl:k=(ns.length:Int)+2:=by omega
  obtain ⟨vl1,vl2⟩:=vl
  obtain ⟨vh1,vh2⟩:=vh
  constructor
  all_goals rw [qq]
  all_goals (try simp only)
  all_goals (try omega)
  ·rw [lQ L _ aj];exact ll
  ·rw [lQ L _ aj];exact lh
theorem iC {L:Int} {ns:List I3} (h:Fa L ns) {k:Int} (h2:2≤k) (hk:k < ns.length+2):0≤lvl L ns k∧lvl L ns k < L:=by
 have:=h k h2 hk
 unfold lvl
 rw [if_neg aj]
 exact ⟨this.v0,this.vL⟩
theorem qt {L:Int} {ns:List I3} (h:Fa L ns) (h0:0≤L) {k:Int} (hk:Vd ns k):0≤lvl L ns k∧lvl L ns k≤L:=by
 by_cases h2:k < 2
 ·unfold lvl;rw [if_pos h2];omega
 ·have:=iC h aj hk.2;omega
theorem kT {L:Int} {ns:List I3} (h:Fa L ns) {k:Int} (h2:2≤k) (hk:k < ns.length+2) (v:Int→Bool) :
  fQ ns k v=if v (nd ns k).1=true then fQ ns (nd ns k).2.2 v else fQ ns (nd ns k).2.1 v:=by
 have hlt:(k - 2).toNat < ns.length:=by omega
 have hn:=h k h2 hk
 have e:nd ns k=ns[(k - 2).toNat]:=by unfold nd;rw [getElem!_pos ns _ hlt]
 have hs:ns=(ns.take (k - 2).toNat++[nd ns k])++ns.drop ((k - 2).toNat+1):=by
  rw [e,← List.take_succ_eq_append_getElem hlt,List.take_append_drop]
 have hl:(ns.take (k - 2).toNat).length=(k - 2).toNat:=by rw [List.length_take];omega
 obtain ⟨_,_,l0,l1,h0,h1,_,_,_⟩:=hn
 generalize nd ns k=n at *
 generalize ns.take (k - 2).toNat=A at *
 generalize ns.drop ((k - 2).toNat+1)=B at *
 have hA:(A.length:Int)+2=k:=by omega
 rw [hs,ku B _ (by rw [List.length_append,List.length_singleton];omega),vq,if_pos hA.symm]
 rw [List.append_assoc,ku _ A aj,ku _ A aj]
theorem o9 {L:Int} {ns:List I3} (h:Fa L ns) {v v':Int→Bool}:∀ (m:Nat) (k:Int),k.toNat≤m→Vd ns k→(∀ i,lvl L ns k≤i→i < L→v i=v' i)→fQ ns k v=fQ ns k v'
 |0,k,hm,hv,_=>by rw [lP ns aj,lP ns aj]
 |m+1,k,hm,hv,he=>by
  by_cases h2:k < 2
  ·rw [lP ns h2,lP ns h2]
  ·have hn:=h k aj hv.2
   have hl:lvl L ns k=(nd ns k).1:=by unfold lvl;rw [if_neg h2]
   rw [kT h aj hv.2,kT h aj hv.2,he _ aj hn.vL]
   have:=hv.2
   rw [o9 h m (nd ns k).2.2 (by have:=hn.hk;have:=hn.h0;omega) ⟨hn.h0,by have:=hn.hk;omega⟩ (fun i h1 h2=>he i (by have:=hn.lh;omega) h2),
    o9 h m (nd ns k).2.1 (by have:=hn.lk;have:=hn.l0;omega) ⟨hn.l0,by have:=hn.lk;omega⟩ (fun i h1 h2=>he i (by have:=hn.ll;omega) h2)]
theorem tX {L:Int} {ns:List I3} (h:Fa L ns):∀ (m:Nat) (k:Int),k.toNat≤m→Vd ns k→k≠0→∃ v,fQ ns k v=true
 |0,k,hm,hv,h0=>by have:=hv.1;omega
 |m+1,k,hm,hv,h0=>by
  by_cases h2:k < 2
  ·have:=hv.1
   exact ⟨fun _=>true,by rw [lP ns h2];exact decide_eq_true aj⟩
  ·have hn:=h k aj hv.2
   have hvv:=hv.2
   by_cases hz:(nd ns k).2.1=0
   ·have hne:(nd ns k).2.2≠0:=fun e=>hn.ne aj
    have vd:Vd ns (nd ns k).2.2:=⟨hn.h0,by have:=hn.hk;omega⟩
    obtain ⟨v,hvs⟩:=tX h m (nd ns k).2.2 (by have:=hn.hk;have:=hn.h0;omega) vd hne
    refine ⟨fun i=>if i=(nd ns k).1 then true else v i,?_⟩
    rw [kT h aj hv.2,if_pos ax,← hvs]
    refine o9 h _ _ (Nat.le_refl _) vd fun i hi _=>?_
    rw [if_neg (by have:=hn.lh;omega)]
   ·have vd:Vd ns (nd ns k).2.1:=⟨hn.l0,by have:=hn.lk;omega⟩
    obtain ⟨v,hvs⟩:=tX h m (nd ns k).2.1 (by have:=hn.lk;have:=hn.l0;omega) vd hz
    refine ⟨fun i=>if i=(nd ns k).1 then false else v i,?_⟩
    rw [kT h aj hv.2,if_neg ax,← hvs]
    refine o9 h _ _ (Nat.le_refl _) vd fun i hi _=>?_
    rw [if_neg (by have:=hn.ll;omega)]
theorem EH {L:Int} {ns:List I3} (h:Fa L ns) {k:Int} (hv:Vd ns k):k=0↔∀ v,fQ ns k v=false:=by
 constructor
 ·intro e v;subst e;rw [lP ns aj];rfl
 ·intro e
  by_cases h0:k=0
  ·exact h0
  ·obtain ⟨v,hv'⟩:=tX h _ k (Nat.le_refl _) hv h0
   rw [e v] at hv';cases hv'
inductive dD (ns:List I3):Int→Prop
 |zero:dD ns 0
 |one:dD ns 1
 |lo {k:Int}:2≤k→k < ns.length+2→(nd ns k).2.1=0→dD ns (nd ns k).2.2→dD ns k
 |hi {k:Int}:2≤k→k < ns.length+2→(nd ns k).2.2=0→dD ns (nd ns k).2.1→dD ns k
theorem dD.ext {ns:List I3} {k:Int} (h:dD ns k) (ms:List I3):dD (ns++ms) k:=by
 induction h with
 |zero=>exact .zero
 |one=>exact .one
 |lo h2 hk h0 _ ih=>exact .lo h2 (by rw [List.length_append];omega) (by rw [nM ms h2 hk];exact h0) (by rw [nM ms h2 hk];exact ih)
 |hi h2 hk h0 _ ih=>exact .hi h2 (by rw [List.length_append];omega) (by rw [nM ms h2 hk];exact h0) (by rw [nM ms h2 hk];exact ih)
theorem dD.back {L:Int} {ns:List I3} (hn:Fa L ns) (ms:List I3) {k:Int} (h:dD (ns++ms) k):k < ns.length+2→dD ns k:=by
 induction h with
 |zero=>exact fun _=>.zero
 |one=>exact fun _=>.one
 |@lo k h2 hk h0 _ ih=>
  intro hlt
  rw [nM ms h2 hlt] at h0 ih
  exact .lo h2 hlt h0 (ih (by have:=(hn k h2 hlt).hk;omega))
 |@hi k h2 hk h0 _ ih=>
  intro hlt
  rw [nM ms h2 hlt] at h0 ih
  exact .hi h2 hlt h0 (ih (by have:=(hn k h2 hlt).lk;omega))
def x9 (op:Int) (a b:Bool):Bool:=if op=0 then a&&b else a|| b
structure ma (L:Int) (S:eB):Prop where
 no:Fa L S.ns
 fd:∀ x k,lk S.fd x=some k→2≤k∧k < S.ns.length+2∧nd S.ns k=x
 pr:∀ x k,lk S.pr x=some k→Vd S.ns x.2.1∧Vd S.ns x.2.2∧Vd S.ns k∧min (lvl L S.ns x.2.1) (lvl L S.ns x.2.2)≤lvl L S.ns k∧
  (∀ v,fQ S.ns k v=x9 x.1 (fQ S.ns x.2.1 v) (fQ S.ns x.2.2 v))∧(x.1=0→dD S.ns x.2.1→dD S.ns x.2.2→dD S.ns k)
theorem Vd.ext {ns:List I3} {k:Int} (h:Vd ns k) (ms:List I3):Vd (ns++ms) k:=⟨h.1,by have:=h.2;rw [List.length_append];omega⟩
def ed (S:eB) (lv lo hi:Int):eB×Int:=
 if lo=hi then (S,lo) else match lk S.fd (lv,lo,hi) with
  |some k=>(S,k)
  |none=>(⟨S.ns++[(lv,lo,hi)],jt S.fd (lv,lo,hi) ((S.ns.length:Int)+2),S.pr⟩,(S.ns.length:Int)+2)
def Grow (S S':eB) (m:Nat):Prop:=∃ ms,S'.ns=S.ns++ms∧ms.length≤m
theorem Grow.refl (S:eB) (m:Nat):Grow S S m:=⟨[],by simp,Nat.zero_le _⟩
theorem Grow.trans {A B C:eB} {m n:Nat} (h:Grow A B m) (h':Grow B C n):Grow A C (m+n):=by
 obtain ⟨x,e,l⟩:=h
 obtain ⟨y,e',l'⟩:=h'
 exact ⟨x++y,by rw [e',e,List.append_assoc],by rw [List.length_append];omega⟩
theorem Grow.le {A B:eB} {m n:Nat} (h:Grow A B m) (hl:m≤n):Grow A B n:=by
 obtain ⟨x,e,l⟩:=h;exact ⟨x,e,by omega⟩
theorem Grow.fQ {A B:eB} {m:Nat} (h:Grow A B m) {k:Int} (hk:Vd A.ns k) (v:Int→Bool):fQ B.ns k v=fQ A.ns k v:=by
 obtain ⟨x,e,_⟩:=h;rw [e,ku x _ hk.2]
theorem Grow.lvl {A B:eB} {m:Nat} (h:Grow A B m) (L:Int) {k:Int} (hk:Vd A.ns k):lvl L B.ns k=lvl L A.ns k:=by
 obtain ⟨x,e,_⟩:=h;rw [e,lQ L x hk.2]
theorem Grow.vd {A B:eB} {m:Nat} (h:Grow A B m) {k:Int} (hk:Vd A.ns k):Vd B.ns k:=by
 obtain ⟨x,e,_⟩:=h;rw [e];exact hk.ext x
theorem Grow.chain {A B:eB} {m:Nat} (h:Grow A B m) {k:Int} (hk:dD A.ns k):dD B.ns k:=by
 obtain ⟨x,e,_⟩:=h;rw [e];exact hk.ext x
theorem Grow.len {A B:eB} {m:Nat} (h:Grow A B m):A.ns.length≤B.ns.length∧B.ns.length≤A.ns.length+m:=by
 obtain ⟨x,e,l⟩:=h;rw [e,List.length_append];omega
theorem ma.Md {L:Int} {S:eB} (h:ma L S) (ms:List I3):∀ x k,lk S.pr x=some k→Vd (S.ns++ms) x.2.1∧Vd (S.ns++ms) x.2.2∧Vd (S.ns++ms) k∧min (lvl L (S.ns++ms) x.2.1) (lvl L (S.ns++ms) x.2.2)≤lvl L (S.ns++ms) k∧
  (∀ v,fQ (S.ns++ms) k v=x9 x.1 (fQ (S.ns++ms) x.2.1 v) (fQ (S.ns++ms) x.2.2 v))∧(x.1=0→dD (S.ns++ms) x.2.1→dD (S.ns++ms) x.2.2→dD (S.ns++ms) k):=fun x k hx=>by
 obtain ⟨v1,v2,v3,l,e,c⟩:=h.pr x k hx
 refine ⟨v1.ext ms,v2.ext ms,v3.ext ms,?_,fun v=>?_,fun h0 c1 c2=>?_⟩
 ·rw [lQ L ms v1.2,lQ L ms v2.2,lQ L ms v3.2];exact l
 ·rw [ku ms _ v1.2,ku ms _ v2.2,ku ms _ v3.2];exact e v
 ·exact (c h0 (c1.back h.no ms v1.2) (c2.back h.no ms v2.2)).ext ms
structure KX (L:Int) (S S':eB) (lv lo hi k:Int):Prop where
 ok:ma L S'
 gr:Grow S S' 1
 vd:Vd S'.ns k
 le:lv≤lvl L S'.ns k
 sm:∀ v,fQ S'.ns k v=if v lv=true then fQ S.ns hi v else fQ S.ns lo v
 ch:(lo=0∧dD S.ns hi∨hi=0∧dD S.ns lo)→dD S'.ns k
 pr:S'.pr=S.pr
theorem lR {L:Int} {S:eB} (h:ma L S) {lv lo hi:Int} (h0:0≤lv) (hL:lv < L) (vl:Vd S.ns lo) (vh:Vd S.ns hi) (ll:lv < lvl L S.ns lo) (lh:lv < lvl L S.ns hi) :
  KX L S (ed S lv lo hi).1 lv lo hi (ed S lv lo hi).2:=by
 unfold ed
 split
 ·rename_i e
  subst e
  exact ⟨h,.refl _ _,vl,by simp only;omega,fun v=>by simp,fun c=>by rcases c with ⟨_,c⟩|⟨_,c⟩<;>exact c,rfl⟩
 ·rename_i hne
  split
  ·rename_i k hk
   obtain ⟨k2,kl,kn⟩:=h.fd _ _ hk
   refine ⟨h,.refl _ _,⟨by simp only;omega,kl⟩,?_,fun v=>?_,fun c=>?_,rfl⟩
   ·simp only [lvl];rw [if_neg aj,kn];exact Int.le_refl _
   ·rw [kT h.no k2 kl,kn]
   ·rcases c with ⟨c0,c⟩|⟨c0,c⟩
    ·exact .lo k2 kl (by rw [kn];exact c0) (by rw [kn];exact c)
    ·exact .hi k2 kl (by rw [kn];exact c0) (by rw [kn];exact c)
  ·rename_i hk
   have hno:=h.no.snoc h0 hL vl vh hne ll lh
   have hlen:((S.ns++[(lv,lo,hi)]).length:Int)=S.ns.length+1:=by simp
   refine ⟨⟨hno,fun x k hx=>?_,h.Md _⟩,⟨_,rfl,by simp⟩,⟨by simp only;omega,by simp only;omega⟩,?_,fun v=>?_,fun c=>?_,rfl⟩
   ·rw [lK] at hx
    split at hx
    ·rename_i e
     injection hx with hx
     subst hx e
     exact ⟨by omega,by simp only;omega,qq _ _⟩
    ·obtain ⟨a,b,c⟩:=h.fd x k hx
     exact ⟨a,by simp only;omega,by simp only;rw [nM _ a b];exact c⟩
   ·rw [JE];exact Int.le_refl _
   ·simp only;rw [vq,if_pos rfl]
   ·have hc:=fun (q:Int) (hq:dD S.ns q)=>hq.ext [(lv,lo,hi)]
    rcases c with ⟨c0,c⟩|⟨c0,c⟩
    ·exact .lo aH aH (by rw [qq];exact c0) (by rw [qq];exact hc _ c)
    ·exact .hi aH aH (by rw [qq];exact c0) (by rw [qq];exact hc _ c)
def iX (L:Int) (ns:List I3) (k lv:Int):Int×Int:=if lvl L ns k > lv then (k,k) else ((nd ns k).2.1,(nd ns k).2.2)
structure NV (L:Int) (ns:List I3) (k lv:Int) (p:Int×Int):Prop where
 v1:Vd ns p.1
 v2:Vd ns p.2
 l1:lv < lvl L ns p.1
 l2:lv < lvl L ns p.2
 sm:∀ v,fQ ns k v=if v lv=true then fQ ns p.2 v else fQ ns p.1 v
 ch:dD ns k→dD ns p.1∧dD ns p.2∧(lvl L ns k=lv→p.1=0∨p.2=0)
theorem dD.kids {ns:List I3} {k:Int} (h:dD ns k) (h2:2≤k):dD ns (nd ns k).2.1∧dD ns (nd ns k).2.2∧((nd ns k).2.1=0∨(nd ns k).2.2=0):=by
 cases h with
 |zero=>omega
 |one=>omega
 |lo _ _ h0 hc=>exact ⟨by rw [h0];exact .zero,hc,.inl h0⟩
 |hi _ _ h0 hc=>exact ⟨hc,by rw [h0];exact .zero,.inr h0⟩
theorem jN {L:Int} {ns:List I3} (h:Fa L ns) {k lv:Int} (hv:Vd ns k) (hl:lv≤lvl L ns k) (hL:lv < L):NV L ns k lv (iX L ns k lv):=by
 unfold iX
 split
 ·rename_i hg
  exact ⟨hv,hv,hg,hg,fun v=>by simp,fun c=>⟨c,c,fun e=>by omega⟩⟩
 ·rename_i hg
  have e:lvl L ns k=lv:=by omega
  have h2:¬k < 2:=fun hh=>by unfold lvl at e;rw [if_pos hh] at e;omega
  have hn:=h k aj hv.2
  have hk:=hv.2
  have e2:(nd ns k).1=lv:=by unfold lvl at e;rw [if_neg h2] at e;exact e
  obtain ⟨_,_,l0,l1,h0,h1,_,a8,a9⟩:=hn
  refine ⟨⟨l0,by simp only;omega⟩,⟨h0,by simp only;omega⟩,by rw [e2] at a8;exact a8,by rw [e2] at a9;exact a9,fun v=>?_,fun c=>?_⟩
  ·rw [kT h aj hv.2,e2]
  ·obtain ⟨c1,c2,c3⟩:=c.kids aj
   exact ⟨c1,c2,fun _=>c3⟩
def j8 (L:Int) (rec:eB→Int→Int→eB×Int) (op:Int) (S:eB) (a b:Int):eB×Int:=
 match lk S.pr (op,a,b) with
 |some k=>(S,k)
 |none=>
  let lv:=min (lvl L S.ns a) (lvl L S.ns b)
  let p:=iX L S.ns a lv
  let q:=iX L S.ns b lv
  let x:=rec S p.1 q.1
  let y:=rec x.1 p.2 q.2
  let z:=ed y.1 lv x.2 y.2
  (⟨z.1.ns,z.1.fd,jt z.1.pr (op,a,b) z.2⟩,z.2)
def di (L:Int) (op:Int):Nat→eB→Int→Int→eB×Int
 |0,S,a,b=>if a=b then (S,a) else if a < 2∧(a=1↔op=0) then (S,b) else if b < 2∧(b=1↔op=0) then (S,a) else (S,op)
 |n+1,S,a,b=>if a=b then (S,a) else if a < 2∧(a=1↔op=0) then (S,b) else if b < 2∧(b=1↔op=0) then (S,a) else if a < 2∨b < 2 then (S,op)
  else if a > b then j8 L (di L op n) op S b a else j8 L (di L op n) op S a b
structure rE (L:Int) (n:Nat) (op:Int) (S:eB) (a b:Int) (r:eB×Int):Prop where
 ok:ma L r.1
 gr:Grow S r.1 (2 ^ n - 1)
 vd:Vd r.1.ns r.2
 lv:min (lvl L S.ns a) (lvl L S.ns b)≤lvl L r.1.ns r.2
 sm:∀ v,fQ r.1.ns r.2 v=x9 op (fQ S.ns a v) (fQ S.ns b v)
 ch:op=0→dD S.ns a→dD S.ns b→dD r.1.ns r.2∧Grow S r.1 n
theorem rE.base {L:Int} {n:Nat} {op:Int} {S:eB} {a b k:Int} (h:ma L S) (hv:Vd S.ns k) (hl:min (lvl L S.ns a) (lvl L S.ns b)≤lvl L S.ns k) (hs:∀ v,fQ S.ns k v=x9 op (fQ S.ns a v) (fQ S.ns b v)) (hc:op=0→dD S.ns a→dD S.ns b→dD S.ns k):rE L n op S a b (S,k):=
 ⟨h,.refl _ _,hv,hl,hs,fun h0 c1 c2=>⟨hc h0 c1 c2,.refl _ _⟩⟩
theorem jK (ns:List I3) (v:Int→Bool):fQ ns 0 v=false∧fQ ns 1 v=true:=⟨by rw [lP ns aj];rfl,by rw [lP ns aj];rfl⟩
theorem rE.symm {L:Int} {n:Nat} {op:Int} {S:eB} {a b:Int} {r:eB×Int} (h:rE L n op S a b r):rE L n op S b a r:=
 ⟨h.ok,h.gr,h.vd,by have:=h.lv;omega,fun v=>by rw [h.sm];unfold x9;split;exact Bool.and_comm _ _;exact Bool.or_comm _ _,fun h0 c1 c2=>h.ch h0 c2 c1⟩
theorem rF (n:Nat):1≤2 ^ n∧2 ^ (n+1)=2 * 2 ^ n:=⟨Nat.one_le_two_pow,by omega⟩
theorem z8 {L:Int} (h0L:0≤L) {n:Nat} {op:Int} {S:eB} {a b:Int} (h:ma L S) (va:Vd S.ns a) (vb:Vd S.ns b) (a2:2≤a) (b2:2≤b) {rec:eB→Int→Int→eB×Int}
  (hn:L - min (lvl L S.ns a) (lvl L S.ns b)≤(n:Int)+1)
  (hrec:∀ (T:eB) (x y:Int),ma L T→Vd T.ns x→Vd T.ns y→L - min (lvl L T.ns x) (lvl L T.ns y)≤(n:Int)→rE L n op T x y (rec T x y))
  (hz:∀ (T:eB) (x y:Int),op=0→(x=0∨y=0)→Vd T.ns x→Vd T.ns y→rec T x y=(T,0)):rE L (n+1) op S a b (j8 L rec op S a b):=by
 unfold j8
 split
 ·rename_i k hk
  obtain ⟨_,_,v3,l,e,c⟩:=h.pr _ _ hk
  exact .base h v3 l e c
 ·rename_i hk
  have la:=iC h.no a2 va.2
  have lb:=iC h.no b2 vb.2
  generalize hlv:min (lvl L S.ns a) (lvl L S.ns b)=lv at hn
  have sa:=jN h.no va (lv:=lv) aj aj
  have sb:=jN h.no vb (lv:=lv) aj aj
  simp only
  generalize iX L S.ns a lv=p at sa
  generalize iX L S.ns b lv=q at sb
  have r1:=hrec S p.1 q.1 h sa.v1 sb.v1 (by have:=sa.l1;have:=sb.l1;omega)
  have z1:=hz S p.1 q.1
  generalize rec S p.1 q.1=x at r1 z1
  have vp2:=r1.gr.vd sa.v2
  have vq2:=r1.gr.vd sb.v2
  have r2:=hrec x.1 p.2 q.2 r1.ok vp2 vq2 (by rw [r1.gr.lvl L sa.v2,r1.gr.lvl L sb.v2];have:=sa.l2;have:=sb.l2;omega)
  have z2:=hz x.1 p.2 q.2
  generalize rec x.1 p.2 q.2=y at r2 z2
  have l1:=r1.lv
  have l2:=r2.lv
  have k1:=sa.l1;have k2:=sb.l1;have k3:=sa.l2;have k4:=sb.l2
  rw [r1.gr.lvl L sa.v2,r1.gr.lvl L sb.v2] at l2
  have lx:=r2.gr.lvl L r1.vd
  have r3:=lR r2.ok (lv:=lv) (lo:=x.2) (hi:=y.2) aj aj (r2.gr.vd r1.vd) r2.vd aj aj
  generalize ed y.1 lv x.2 y.2=z at r3
  have g:Grow S z.1 ((2 ^ n - 1)+(2 ^ n - 1)+1):=(r1.gr.trans r2.gr).trans r3.gr
  have hp2:=rF n
  have g':Grow S z.1 (2 ^ (n+1) - 1):=g.le aj
  have sm:∀ v,fQ z.1.ns z.2 v=x9 op (fQ S.ns a v) (fQ S.ns b v):=fun v=>by
   rw [r3.sm,r2.sm,r2.gr.fQ r1.vd,r1.sm,r1.gr.fQ sa.v2,r1.gr.fQ sb.v2,sa.sm v,sb.sm v]
   by_cases hv:v lv=true<;>simp [hv]
  have ch:op=0→dD S.ns a→dD S.ns b→dD z.1.ns z.2∧Grow S z.1 (n+1):=fun h0 ca cb=>by
   obtain ⟨c1,c2,c3⟩:=sa.ch ca
   obtain ⟨d1,d2,d3⟩:=sb.ch cb
   have hside:(p.1=0∨q.1=0)∨(p.2=0∨q.2=0):=by
    have:lvl L S.ns a=lv∨lvl L S.ns b=lv:=by omega
    rcases this with e|e
    ·rcases c3 e with e|e<;>simp [e]
    ·rcases d3 e with e|e<;>simp [e]
   rcases hside with hs|hs
   ·have ez:=z1 h0 hs sa.v1 sb.v1
    subst ez
    obtain ⟨cy,gy⟩:=r2.ch h0 c2 d2
    exact ⟨r3.ch (.inl ⟨rfl,cy⟩),(gy.trans r3.gr)⟩
   ·have ez:=z2 h0 hs vp2 vq2
    subst ez
    obtain ⟨cx,gx⟩:=r1.ch h0 c1 d1
    exact ⟨r3.ch (.inr ⟨rfl,cx⟩),(gx.trans r3.gr)⟩
  have lz:=r3.le
  have va':=g.vd va
  have vb':=g.vd vb
  refine ⟨⟨r3.ok.no,r3.ok.fd,fun w k hw=>?_⟩,g',r3.vd,by simp only;omega,sm,ch⟩
  simp only at hw ⊢
  rw [lK] at hw
  split at hw
  ·rename_i e
   injection hw with hw
   subst hw e
   refine ⟨va',vb',r3.vd,?_,fun v=>?_,fun h0 c1 c2=>?_⟩
   ·rw [g.lvl L va,g.lvl L vb];omega
   ·rw [sm,g.fQ va,g.fQ vb]
   ·obtain ⟨ms,em,_⟩:=g
    simp only at c1 c2
    rw [em] at c1 c2
    exact (ch h0 (c1.back h.no ms va.2) (c2.back h.no ms vb.2)).1
  ·exact r3.ok.pr w k hw
theorem EI {L:Int}:∀ {n:Nat} {S:eB} {a b:Int},(a=0∨b=0)→Vd S.ns a→Vd S.ns b→di L 0 n S a b=(S,0):=by
 intro n S a b h va vb
 have:=va.1;have:=vb.1
 cases n with
 |zero=>
  unfold di
  split
  ·simp;omega
  ·split
   ·simp;omega
   ·split
    ·simp;omega
    ·rfl
 |succ n=>
  unfold di
  split
  ·simp;omega
  ·split
   ·simp;omega
   ·split
    ·simp;omega
    ·rw [if_pos aj]
theorem fe {L:Int} (h0L:0≤L) {op:Int} (hop:op=0∨op=1):∀ (n:Nat) (S:eB) (a b:Int),ma L S→Vd S.ns a→Vd S.ns b→L - min (lvl L S.ns a) (lvl L S.ns b)≤(n:Int)→rE L n op S a b (di L op n S a b)
 |n,S,a,b,h,va,vb,hn=>by
  have base:∀ k:Int,(a=b∧k=a)∨(a < 2∧(a=1↔op=0)∧k=b)∨(b < 2∧(b=1↔op=0)∧k=a)∨(a≠b∧¬(a < 2∧(a=1↔op=0))∧¬(b < 2∧(b=1↔op=0))∧(a < 2∨b < 2)∧k=op)→rE L n op S a b (S,k):=fun k hk=>by
   have a0:=va.1
   have b0:=vb.1
   have la:=qt h.no h0L va
   have lb:=qt h.no h0L vb
   have low:∀ q:Int,q < 2→lvl L S.ns q=L:=fun q hq=>by unfold lvl;rw [if_pos hq]
   obtain ⟨s0,s1⟩:(∀ v,fQ S.ns 0 v=false)∧(∀ v,fQ S.ns 1 v=true):=⟨fun v=>(jK S.ns v).1,fun v=>(jK S.ns v).2⟩
   rcases hk with ⟨e,ek⟩|⟨a2,ha,ek⟩|⟨b2,hb,ek⟩|⟨hne,hna,hnb,hlow,ek⟩
   ·subst ek;subst e
    exact .base h va aj (fun v=>by unfold x9;split<;>simp) (fun _ c _=>c)
   ·subst ek
    refine .base h vb (by rw [low a a2];omega) (fun v=>?_) (fun _ _ c=>c)
    rcases hop with rfl|rfl
    ·obtain rfl:a=1:=by omega
     rw [s1];simp [x9]
    ·obtain rfl:a=0:=by omega
     rw [s0];simp [x9]
   ·subst ek
    refine .base h va (by rw [low b b2];omega) (fun v=>?_) (fun _ c _=>c)
    rcases hop with rfl|rfl
    ·obtain rfl:b=1:=by omega
     rw [s1];simp [x9]
    ·obtain rfl:b=0:=by omega
     rw [s0];simp [x9]
   ·subst ek
    have vo:Vd S.ns k:=⟨by omega,by omega⟩
    refine .base h vo (by rw [low k aj];omega) (fun v=>?_) (fun h0 _ _=>by rw [h0];exact .zero)
    rcases hop with rfl|rfl
    ·rw [s0]
     rcases hlow with hq|hq
     ·obtain rfl:a=0:=by omega
      rw [s0];simp [x9]
     ·obtain rfl:b=0:=by omega
      rw [s0];simp [x9]
    ·rw [s1]
     rcases hlow with hq|hq
     ·obtain rfl:a=1:=by omega
      rw [s1];simp [x9]
     ·obtain rfl:b=1:=by omega
      rw [s1];simp [x9]
  cases n with
  |zero=>
   unfold di
   split
   ·exact base _ (.inl ⟨by assumption,rfl⟩)
   ·split
    ·rename_i h1;exact base _ (.inr (.inl ⟨h1.1,h1.2,rfl⟩))
    ·split
     ·rename_i h1;exact base _ (.inr (.inr (.inl ⟨h1.1,h1.2,rfl⟩)))
     ·rename_i h1 h2 h3
      refine base _ (.inr (.inr (.inr ⟨h1,h2,h3,?_,rfl⟩)))
      by_cases ha:a < 2
      ·exact .inl ha
      ·have:=iC h.no (k:=a) aj va.2
       omega
  |succ n=>
   unfold di
   split
   ·exact base _ (.inl ⟨by assumption,rfl⟩)
   ·split
    ·rename_i h1;exact base _ (.inr (.inl ⟨h1.1,h1.2,rfl⟩))
    ·split
     ·rename_i h1;exact base _ (.inr (.inr (.inl ⟨h1.1,h1.2,rfl⟩)))
     ·rename_i h1 h2 h3
      split
      ·exact base _ (.inr (.inr (.inr ⟨h1,h2,h3,by assumption,rfl⟩)))
      ·rename_i h4
       have hz:∀ (T:eB) (x y:Int),op=0→(x=0∨y=0)→Vd T.ns x→Vd T.ns y→di L op n T x y=(T,0):=fun T x y h0 hxy vx vy=>by subst h0;exact EI hxy vx vy
       split
       ·exact (z8 h0L h vb va aj aj aj (fun T x y ht vx vy hl=>fe h0L hop n T x y ht vx vy hl) hz).symm
       ·exact z8 h0L h va vb aj aj aj (fun T x y ht vx vy hl=>fe h0L hop n T x y ht vx vy hl) hz
structure Dt (L:Int) (S:eB) (kn:List (Int×Int)):Prop where
 z:lk kn 0=some 1
 o:lk kn 1=some 0
 all:∀ k o,lk kn k=some o→Vd S.ns k∧Vd S.ns o∧lvl L S.ns k≤lvl L S.ns o∧∀ v,fQ S.ns o v= !fQ S.ns k v
def j2:Nat→eB→List (Int×Int)→Int→(eB×List (Int×Int))×Int
 |0,S,kn,k=>((S,kn),(lk kn k).getD 0)
 |n+1,S,kn,k=>match lk kn k with
  |some o=>((S,kn),o)
  |none=>
   let m:=nd S.ns k
   let x:=j2 n S kn m.2.1
   let y:=j2 n x.1.1 x.1.2 m.2.2
   let z:=ed y.1.1 m.1 x.2 y.2
   ((z.1,jt y.1.2 k z.2),z.2)
structure Pm (L:Int) (n:Nat) (S:eB) (k:Int) (r:(eB×List (Int×Int))×Int):Prop where
 ok:ma L r.1.1
 kn:Dt L r.1.1 r.1.2
 gr:Grow S r.1.1 (2 ^ n - 1)
 vd:Vd r.1.1.ns r.2
 lv:lvl L S.ns k≤lvl L r.1.1.ns r.2
 sm:∀ v,fQ r.1.1.ns r.2 v= !fQ S.ns k v
theorem Dt.ext {L:Int} {S S':eB} {kn:List (Int×Int)} (h:Dt L S kn) {m:Nat} (g:Grow S S' m):Dt L S' kn:=
 ⟨h.z,h.o,fun k o hk=>by
  obtain ⟨v1,v2,l,e⟩:=h.all k o hk
  exact ⟨g.vd v1,g.vd v2,by rw [g.lvl L v1,g.lvl L v2];exact l,fun v=>by rw [g.fQ v1,g.fQ v2];exact e v⟩⟩
theorem qu {L:Int} (h0L:0≤L):∀ (n:Nat) (S:eB) (kn:List (Int×Int)) (k:Int),ma L S→Dt L S kn→Vd S.ns k→L - lvl L S.ns k≤(n:Int)→Pm L n S k (j2 n S kn k)
 |0,S,kn,k,h,hk,hv,hn=>by
  have h2:k < 2:=by
   by_cases h2:k < 2
   ·exact h2
   ·have:=iC h.no aj hv.2;omega
  have h0:=hv.1
  obtain ⟨o,ho⟩:∃ o,lk kn k=some o:=by
   rcases (by omega:k=0∨k=1) with rfl|rfl
   ·exact ⟨_,hk.z⟩
   ·exact ⟨_,hk.o⟩
  obtain ⟨v1,v2,l,e⟩:=hk.all k o ho
  unfold j2
  rw [ho]
  exact ⟨h,hk,.refl _ _,v2,l,e⟩
 |n+1,S,kn,k,h,hk,hv,hn=>by
  unfold j2
  split
  ·rename_i o ho
   obtain ⟨v1,v2,l,e⟩:=hk.all k o ho
   exact ⟨h,hk,.refl _ _,v2,l,e⟩
  ·rename_i ho
   have h0:=hv.1
   have h2:2≤k:=by
    by_cases h2:2≤k
    ·exact h2
    ·rcases (by omega:k=0∨k=1) with rfl|rfl
     ·rw [hk.z] at ho;cases ho
     ·rw [hk.o] at ho;cases ho
   have hk2:=hv.2
   have hnd:=h.no k h2 hv.2
   have hsn:=kT h.no h2 hv.2
   have hl:lvl L S.ns k=(nd S.ns k).1:=by unfold lvl;rw [if_neg aj]
   obtain ⟨w0,wL,l0,l1,g0,g1,ne,ll,lh⟩:=hnd
   generalize nd S.ns k=m at *
   simp only
   have vl:Vd S.ns m.2.1:=⟨l0,by omega⟩
   have vh:Vd S.ns m.2.2:=⟨g0,by omega⟩
   have r1:=qu h0L n S kn m.2.1 h hk vl aj
   generalize j2 n S kn m.2.1=x at r1
   have r2:=qu h0L n x.1.1 x.1.2 m.2.2 r1.ok r1.kn (r1.gr.vd vh) (by rw [r1.gr.lvl L vh];omega)
   generalize j2 n x.1.1 x.1.2 m.2.2=y at r2
   have lx:=r1.lv
   have ly:=r2.lv
   rw [r1.gr.lvl L vh] at ly
   have lx2:=r2.gr.lvl L r1.vd
   have r3:=lR r2.ok (lv:=m.1) (lo:=x.2) (hi:=y.2) w0 wL (r2.gr.vd r1.vd) r2.vd aj aj
   generalize ed y.1.1 m.1 x.2 y.2=z at r3
   have g:Grow S z.1 ((2 ^ n - 1)+(2 ^ n - 1)+1):=(r1.gr.trans r2.gr).trans r3.gr
   have hp2:=rF n
   have lz:=r3.le
   have sm:∀ v,fQ z.1.ns z.2 v= !fQ S.ns k v:=fun v=>by
    rw [r3.sm,r2.sm,r2.gr.fQ r1.vd,r1.sm,r1.gr.fQ vh,hsn]
    split<;>rfl
   have hkz:=(r2.kn.ext r3.gr)
   have hll:lvl L S.ns k≤lvl L z.1.ns z.2:=by omega
   refine ⟨r3.ok,⟨?_,?_,fun a o ha=>?_⟩,g.le aj,r3.vd,by simp only;omega,sm⟩
   ·simp only [lK];rw [if_neg aj];exact hkz.z
   ·simp only [lK];rw [if_neg aj];exact hkz.o
   ·simp only [lK] at ha
    split at ha
    ·rename_i e
     injection ha with ha
     subst ha e
     exact ⟨g.vd hv,r3.vd,by rw [g.lvl L hv];exact hll,fun v=>by rw [sm,g.fQ hv]⟩
    ·exact hkz.all a o ha
def GX:List (Int×Int):=[(0,1),(1,0)]
theorem BQ {L:Int} {S:eB} (h0L:0≤L):Dt L S GX:=⟨rfl,rfl,fun k o h=>by
 have hc:(k=0∧o=1)∨(k=1∧o=0):=by
  unfold GX at h
  simp only [lk] at h
  split at h
  ·rename_i e;injection h with h;exact .inl ⟨e.symm,h.symm⟩
  ·split at h
   ·rename_i e;injection h with h;exact .inr ⟨e.symm,h.symm⟩
   ·cases h
 have low:∀ q:Int,q < 2→lvl L S.ns q=L:=fun q hq=>by unfold lvl;rw [if_pos hq]
 rcases hc with ⟨rfl,rfl⟩|⟨rfl,rfl⟩
 ·exact ⟨⟨by omega,by omega⟩,⟨by omega,by omega⟩,by rw [low _ aj,low _ aj];exact Int.le_refl _,fun v=>by rw [(jK S.ns v).1,(jK S.ns v).2];rfl⟩
 ·exact ⟨⟨by omega,by omega⟩,⟨by omega,by omega⟩,by rw [low _ aj,low _ aj];exact Int.le_refl _,fun v=>by rw [(jK S.ns v).1,(jK S.ns v).2];rfl⟩⟩
def yh (L:Int) (S:eB) (k:Int):eB×Int:=((j2 L.toNat S GX k).1.1,(j2 L.toNat S GX k).2)
def fC (L:Int) (op:Int) (S:eB) (a b:Int):eB×Int:=di L op L.toNat S a b
theorem v0 (ns:List I3):Vd ns 0:=⟨by omega,by omega⟩
theorem v1 (ns:List I3):Vd ns 1:=⟨by omega,by omega⟩
theorem ir (L:Int) (ns:List I3) {q:Int} (h:q < 2):lvl L ns q=L:=by unfold lvl;rw [if_pos h]
def jU (w:Nat→Bool):Nat→eB→Int→eB×Int
 |0,S,k=>(S,k)
 |m+1,S,k=>let z:=if w m=true then ed S m 0 k else ed S m k 0
  jU w m z.1 z.2
structure wX (L:Int) (m:Nat) (S:eB) (r:eB×Int) (p:(Int→Bool)→Prop):Prop where
 ok:ma L r.1
 gr:Grow S r.1 m
 vd:Vd r.1.ns r.2
 sm:∀ v,fQ r.1.ns r.2 v=true↔p v
theorem vf {L:Int} (w:Nat→Bool):∀ (m:Nat) (S:eB) (k:Int),(m:Int)≤L→ma L S→Vd S.ns k→(m:Int)≤lvl L S.ns k→
  wX L m S (jU w m S k) (fun v=>fQ S.ns k v=true∧∀ i:Nat,i < m→v i=w i)
 |0,S,k,_,h,hv,_=>⟨h,.refl _ _,hv,fun v=>⟨fun e=>⟨e,fun i hi=>by omega⟩,fun e=>e.1⟩⟩
 |m+1,S,k,hL,h,hv,hl=>by
  unfold jU
  have step:∀ z:eB×Int,(∃ lo hi,KX L S z.1 m lo hi z.2∧∀ v,(if v (m:Int)=true then fQ S.ns hi v else fQ S.ns lo v)=true↔fQ S.ns k v=true∧v (m:Int)=w m)→
    wX L (m+1) S (jU w m z.1 z.2) (fun v=>fQ S.ns k v=true∧∀ i:Nat,i < m+1→v i=w i):=fun z ⟨lo,hi,hz,hs⟩=>by
   have r:=vf w m z.1 z.2 aj hz.ok hz.vd (by have:=hz.le;omega)
   refine ⟨r.ok,(hz.gr.trans r.gr).le aj,r.vd,fun v=>?_⟩
   rw [r.sm,hz.sm,hs]
   constructor
   ·rintro ⟨⟨a,b⟩,c⟩
    refine ⟨a,fun i hi=>?_⟩
    by_cases e:i=m
    ·subst e;exact b
    ·exact c i aj
   ·rintro ⟨a,b⟩
    exact ⟨⟨a,b m aj⟩,fun i hi=>b i aj⟩
  simp only
  have z0:=fun v=>(jK S.ns v).1
  split
  ·rename_i hw
   refine step _ ⟨0,k,lR h aj aj (v0 _) hv (by rw [ir L _ aj];omega) aj,fun v=>?_⟩
   rw [z0,hw]
   split<;>simp_all
  ·rename_i hw
   refine step _ ⟨k,0,lR h aj aj hv (v0 _) aj (by rw [ir L _ aj];omega),fun v=>?_⟩
   rw [z0]
   simp only [Bool.not_eq_true] at hw
   rw [hw]
   split<;>simp_all
structure SSet where
 ia:List Int
 no:List Int
def oG (S:eB) (p:Int) (pos:Bool):eB×Int:=if pos=true then ed S p 0 1 else ed S p 1 0
def j9 (L:Int) (pos:Bool):List Int→eB→Int→eB×Int
 |[],S,k=>(S,k)
 |p::r,S,k=>let l:=oG S p pos
  let z:=fC L 0 l.1 l.2 k
  j9 L pos r z.1 z.2
theorem yi {L:Int} {S:eB} (h:ma L S) {p:Int} (h0:0≤p) (hL:p < L) (pos:Bool) :
  ma L (oG S p pos).1∧Grow S (oG S p pos).1 1∧Vd (oG S p pos).1.ns (oG S p pos).2∧dD (oG S p pos).1.ns (oG S p pos).2∧∀ v,fQ (oG S p pos).1.ns (oG S p pos).2 v=true↔v p=pos:=by
 have l0:=ir L S.ns (q:=0) aj
 have l1:=ir L S.ns (q:=1) aj
 unfold oG
 cases pos with
 |true=>
  rw [if_pos rfl]
  have r:=lR h h0 hL (v0 S.ns) (v1 S.ns) aj aj
  refine ⟨r.ok,r.gr,r.vd,r.ch (.inl ⟨rfl,.one⟩),fun v=>?_⟩
  rw [r.sm,(jK S.ns v).1,(jK S.ns v).2]
  split<;>simp_all
 |false=>
  rw [if_neg ax]
  have r:=lR h h0 hL (v1 S.ns) (v0 S.ns) aj aj
  refine ⟨r.ok,r.gr,r.vd,r.ch (.inr ⟨rfl,.one⟩),fun v=>?_⟩
  rw [r.sm,(jK S.ns v).1,(jK S.ns v).2]
  split<;>simp_all
theorem mb {L:Int} (h0L:0≤L) {S:eB} (h:ma L S) {a b:Int} (va:Vd S.ns a) (vb:Vd S.ns b):L - min (lvl L S.ns a) (lvl L S.ns b)≤(L.toNat:Int):=by
 have:=qt h.no h0L va
 have:=qt h.no h0L vb
 omega
theorem vr {L:Int} (h0L:0≤L) (pos:Bool):∀ (l:List Int) (S:eB) (k:Int),(∀ p∈l,0≤p∧p < L)→ma L S→Vd S.ns k→dD S.ns k→
  wX L (l.length * (L.toNat+1)) S (j9 L pos l S k) (fun v=>fQ S.ns k v=true∧∀ p∈l,v p=pos)∧dD (j9 L pos l S k).1.ns (j9 L pos l S k).2
 |[],S,k,_,h,hv,hc=>⟨⟨h,.refl _ _,hv,fun v=>⟨fun e=>⟨e,fun p hp=>by cases hp⟩,fun e=>e.1⟩⟩,hc⟩
 |p::r,S,k,hp,h,hv,hc=>by
  unfold j9
  simp only
  obtain ⟨p0,pL⟩:=hp p ax
  obtain ⟨l1,l2,l3,l4,l5⟩:=yi h p0 pL pos
  generalize oG S p pos=l at *
  have r1:=fe h0L (.inl rfl) L.toNat l.1 l.2 k l1 l3 (l2.vd hv) (mb h0L l1 l3 (l2.vd hv))
  have ez:di L 0 L.toNat l.1 l.2 k=fC L 0 l.1 l.2 k:=rfl
  rw [ez] at r1
  generalize fC L 0 l.1 l.2 k=z at r1
  obtain ⟨c1,c2⟩:=r1.ch rfl l4 (l2.chain hc)
  obtain ⟨r2,r3⟩:=vr h0L pos r z.1 z.2 (fun q hq=>hp q (by simp [hq])) r1.ok r1.vd c1
  refine ⟨⟨r2.ok,((l2.trans c2).trans r2.gr).le (by rw [List.length_cons,Nat.succ_mul];omega),r2.vd,fun v=>?_⟩,r3⟩
  rw [r2.sm,r1.sm,l2.fQ hv]
  simp only [x9,if_true,Bool.and_eq_true,l5,List.mem_cons,forall_eq_or_imp]
  exact ⟨fun ⟨⟨a,b⟩,c⟩=>⟨b,a,c⟩,fun ⟨b,a,c⟩=>⟨⟨a,b⟩,c⟩⟩
def mU (L:Int) (c:SSet) (S:eB):eB×Int:=
 let x:=j9 L true c.ia.reverse S 1
 j9 L false c.no.reverse x.1 x.2
def j7 (c:SSet) (v:Int→Bool):Prop:=(∀ p∈c.ia,v p=true)∧∀ p∈c.no,v p=false
structure MX (L:Int) (c:SSet):Prop where
 n1:∀ p∈c.ia,0≤p∧p < L
 n2:∀ p∈c.no,0≤p∧p < L
 l1:c.ia.length≤24
 l2:c.no.length≤24
theorem rG {L:Int} (h0L:0≤L) (hL:L≤24) {c:SSet} (hc:MX L c) {S:eB} (h:ma L S):wX L 1200 S (mU L c S) (j7 c):=by
 unfold mU
 simp only
 obtain ⟨r1,c1⟩:=vr h0L true c.ia.reverse S 1 (fun p hp=>hc.n1 p (by simpa using hp)) h (v1 _) .one
 generalize j9 L true c.ia.reverse S 1=x at *
 obtain ⟨r2,c2⟩:=vr h0L false c.no.reverse x.1 x.2 (fun p hp=>hc.n2 p (by simpa using hp)) r1.ok r1.vd c1
 have h1:c.ia.reverse.length * (L.toNat+1)≤24 * 25:=Nat.mul_le_mul (by rw [List.length_reverse];exact hc.l1) aj
 have h2:c.no.reverse.length * (L.toNat+1)≤24 * 25:=Nat.mul_le_mul (by rw [List.length_reverse];exact hc.l2) aj
 refine ⟨r2.ok,(r1.gr.trans r2.gr).le aj,r2.vd,fun v=>?_⟩
 rw [r2.sm,r1.sm,(jK S.ns v).2]
 simp [j7]
def zS:Nat:=16777216
def ve (L:Int):List SSet→eB→Int→eB×Int
 |[],S,k=>(S,k)
 |c::r,S,k=>let x:=mU L c S
  let z:=fC L 1 x.1 k x.2
  ve L r z.1 z.2
theorem qn {L:Int} (hL:L≤24):2 ^ L.toNat≤zS:=Nat.pow_le_pow_right aj (by omega:L.toNat≤24)
theorem CT {L:Int} (h0L:0≤L) (hL:L≤24):∀ (l:List SSet) (S:eB) (k:Int),(∀ c∈l,MX L c)→ma L S→Vd S.ns k→
  wX L (l.length * (zS+1200)) S (ve L l S k) (fun v=>fQ S.ns k v=true∨∃ c∈l,j7 c v)
 |[],S,k,_,h,hv=>⟨h,.refl _ _,hv,fun v=>by simp [ve]⟩
 |c::r,S,k,hc,h,hv=>by
  unfold ve
  simp only
  have r1:=rG h0L hL (hc c ax) h
  generalize mU L c S=x at *
  have r2:=fe h0L (.inr rfl) L.toNat x.1 k x.2 r1.ok (r1.gr.vd hv) r1.vd (mb h0L r1.ok (r1.gr.vd hv) r1.vd)
  have ez:di L 1 L.toNat x.1 k x.2=fC L 1 x.1 k x.2:=rfl
  rw [ez] at r2
  generalize fC L 1 x.1 k x.2=z at r2
  have r3:=CT h0L hL r z.1 z.2 (fun d hd=>hc d (by simp [hd])) r2.ok r2.vd
  have hp:=qn hL
  refine ⟨r3.ok,((r1.gr.trans r2.gr).trans r3.gr).le (by rw [List.length_cons,Nat.succ_mul];omega),r3.vd,fun v=>?_⟩
  rw [r3.sm,r2.sm,r1.gr.fQ hv]
  simp only [x9,show ((1:Int)=0)=False by decide,if_false,Bool.or_eq_true,r1.sm,List.mem_cons,exists_eq_or_imp]
  exact or_assoc
def vc (L:Int) (all:Int) (c:SSet) (S:eB):eB×Bool:=
 let x:=mU L c S
 let y:=yh L x.1 all
 let z:=fC L 0 y.1 x.2 y.2
 (z.1,decide (z.2=0))
structure Pn (L:Int) (S S':eB) (all:Int) (c:SSet) (b:Bool):Prop where
 ok:ma L S'
 gr:Grow S S' (2 * zS+1200)
 sm:b=true↔∀ v,j7 c v→fQ S.ns all v=true
theorem CS {L:Int} (h0L:0≤L) (hL:L≤24) {c:SSet} (hc:MX L c) {S:eB} (h:ma L S) {all:Int} (hv:Vd S.ns all):Pn L S (vc L all c S).1 all c (vc L all c S).2:=by
 unfold vc
 simp only
 have r1:=rG h0L hL hc h
 generalize mU L c S=x at *
 have hb:=qt r1.ok.no h0L (r1.gr.vd hv)
 have r2:=qu h0L L.toNat x.1 GX all r1.ok (BQ h0L) (r1.gr.vd hv) aj
 unfold yh
 generalize j2 L.toNat x.1 GX all=y at *
 have r3:=fe h0L (.inl rfl) L.toNat y.1.1 x.2 y.2 r2.ok (r2.gr.vd r1.vd) r2.vd (mb h0L r2.ok (r2.gr.vd r1.vd) r2.vd)
 have ez:di L 0 L.toNat y.1.1 x.2 y.2=fC L 0 y.1.1 x.2 y.2:=rfl
 rw [ez] at r3
 simp only
 generalize fC L 0 y.1.1 x.2 y.2=z at r3
 have hp:=qn hL
 refine ⟨r3.ok,((r1.gr.trans r2.gr).trans r3.gr).le aj,?_⟩
 rw [decide_eq_true_iff,EH r3.ok.no r3.vd]
 have e:∀ v,fQ z.1.ns z.2 v=false↔(j7 c v→fQ S.ns all v=true):=fun v=>by
  have h1:=r1.sm v
  rw [r3.sm,r2.sm,r2.gr.fQ r1.vd,r1.gr.fQ hv]
  cases hx:fQ x.1.ns x.2 v<;>cases hy:fQ S.ns all v<;>simp [x9,hx] at h1 ⊢<;>exact h1
 exact ⟨fun h v=>(e v).1 (h v),fun h v=>(e v).2 (h v)⟩
end Go.Proofs.YtkbiagkbmodgdaaGreat
namespace Go.Proofs.YtkbiagkbmodgdaaGreat
open Go.Ab
open Go
set_option maxRecDepth 10000
attribute [local irreducible] dE fh mC lW db PV eR ef AW bg dn ec dP cO Ab.Fin ft en gI iO RV jX Le eI fM mg gV kf dz dg
set_option maxHeartbeats 8000000
abbrev JG (n:I3):List AV:=[.int n.1,.int n.2.1,.int n.2.2]
abbrev tF (l:List I3):List AV:=l.flatMap JG
@[go_sem] theorem OI (id:Nat) (l:List I3):AV.bz id (tF l)=false:=eU id JG l fun _=>rfl
@[go_sem] theorem NW (id:Nat) (l:List I3):AV.ct id (tF l)=tF l:=gY id JG l fun _=>rfl
theorem BR (l:List I3):AV.cj (tF l)=true:=fK JG l fun _=>rfl
@[go_sem] theorem Po (ids pins:List Nat) (l:List I3):AV.iN ids pins (tF l)=tF l:=kO (BR l)
@[go_sem] theorem Pp (ids:List Nat) (l:List I3):AV.iZ ids (tF l)=true:=mH (BR l)
@[go_sem] theorem Me (l:List I3):(tF l).length=l.length * 3:=by
 unfold tF
 induction l with
 |nil=>rfl
 |cons w l ih=>rw [List.flatMap_cons,List.length_append,ih,List.length_cons];simp;omega
theorem GY (a b:List I3):tF (a++b)=tF a++tF b:=List.flatMap_append
class NX (k:Nat) (N:List I3):Prop where
 lt:k < N.length
theorem CX:∀ {l:List I3} {k i:Nat} (hi:i < 3) (h:k * 3+i < (tF l).length) (hk:k < l.length),(tF l)[k * 3+i]=(JG l[k])[i]'(by simpa using hi)
 |[],k,i,_,_,hk=>absurd hk ax
 |n::l,0,i,hi,h,hk=>by
  have:tF (n::l)=JG n++tF l:=List.flatMap_cons ..
  simp only [this,Nat.zero_mul,Nat.zero_add]
  rw [List.getElem_append_left (by simpa using hi)]
  rfl
 |n::l,k+1,i,hi,h,hk=>by
  have e:tF (n::l)=JG n++tF l:=List.flatMap_cons ..
  have hk':k < l.length:=by simpa using hk
  have e2:(k+1) * 3+i=(k * 3+i)+3:=by omega
  simp only [e,e2]
  rw [List.getElem_append_right ax]
  have:=CX (l:=l) (k:=k) (i:=i) hi (by rw [Me];omega) hk'
  simpa using this
@[go_sem] theorem P9 {N:List I3} {k:Nat} [hl:NX k N] (h:k * 3 < (tF N).length):(tF N)[k * 3]= .int (N[k]!).1:=by
 rw [getElem!_pos N k hl.lt]
 exact CX (i:=0) aj h hl.lt
theorem Aa:∀ {l:List I3} {k:Nat} (hk:k < l.length),((tF l).drop (k * 3)).take 3=JG l[k]
 |[],k,hk=>absurd hk ax
 |n::l,0,_=>rfl
 |n::l,k+1,hk=>by
  rw [Nat.succ_mul]
  exact Aa (l:=l) (k:=k) (by simpa using hk)
@[go_sem] theorem OJ {N:List I3} {k:Nat} [hl:NX k N]:((tF N).drop (k * 3)).take 3=JG N[k]!:=by
 rw [getElem!_pos N k hl.lt]
 exact Aa hl.lt
abbrev jr (L:Int) (S:eB):Hp:=[(700,⟨217,[.int L,.sl 3 24 701 0 S.ns.length,.mp 2000000001,.mp 2000000002],true⟩),(701,⟨270,tF S.ns,false⟩),(2000000001,⟨1000000000,wM k3 S.fd,false⟩),(2000000002,⟨1000000000,wM k3 S.pr,false⟩)]
@[go_sem] theorem MY:AV.dJ 701 (.mp 2000000001)= .mp 2000000001:=rfl
@[go_sem] theorem MZ:AV.dJ 701 (.mp 2000000002)= .mp 2000000002:=rfl
def DB:Nat:=5000000000000
abbrev Ir (kn:List (Int×Int)):Hp:=[(2,⟨127,[.ptr 700 0],true⟩),(5,⟨273,[.mp 2000000003],true⟩),(6,⟨222,[.fn 188 [.ptr 5 0,.ptr 2 0,.ptr 6 0]],true⟩),(2000000003,⟨1000000000,wM (kI .i64) kn,false⟩)]
theorem lS (L:Int) (S:eB) (lv lo hi:Int) (hb:S.ns.length≤DB):cO Tryz.prog 134 [.ptr 700 0,.int lv,.int lo,.int hi] (jr L S) [] [700] (fun x hp=>x= .int (ed S lv lo hi).2∧hp=jr L (ed S lv lo hi).1):=by
 unfold DB at hb
 have hbb:(S.ns.length+1) * 24≤140737488355328:=by omega
 by_cases he:lo=hi
 ·have e:ed S lv lo hi=(S,lo):=by unfold ed;rw [if_pos he]
  rw [e]
  (refine ck Tryz.func134 Tryz.ntmps134 ?_)
  (repeat' (first|(refine hK _ ?_;clear hK K)|(refine aM (fun K hK=>?_))|(refine gR ?_;refine aP ?_)|(refine gQ ?_;refine aS (fun hc=>?_) (fun hc=>?_)<;>(try (first|contradiction|omega)))|(refine gT ?_;refine aZ ?_)))
  (refine bH (Le.refl _) (aQ (aO ab)) (by (repeat refine bq ab ?_);exact aY _) ab ae ⟨rfl,rfl⟩)
 ·cases hk:lk S.fd (lv,lo,hi) with
  |some k=>
   have e:ed S lv lo hi=(S,k):=by unfold ed;rw [if_neg he,hk]
   rw [e]
   (refine ck Tryz.func134 Tryz.ntmps134 ?_)
   (repeat' (first|(refine hK _ ?_;clear hK K)|(refine aM (fun K hK=>?_))|(refine gR ?_;refine aP ?_)|(refine gD 4 ?_;refine fg (.it 0 0 (.it 1 0 (.it 2 0 (.it 3 0 (.it 4 0 (.it 5 1 (.it 6 0 (.it 7 0 (.it 8 0 (.it 9 0 (.it 10 0 .nil))))))))))) [0,1,2,3,4,6,7,8,9,10] ?_)|(refine dk (fun K hK=>?_);(refine eu (kr (kt:=270) hk ab ab ab).2 ?_))|(refine gE ?_;refine cc ?_)|(refine gQ ?_;(first|(refine bT ?_)|(refine aS (fun hc=>?_) (fun hc=>?_)<;>(try (first|contradiction|omega)))))|(refine kj ?_;refine eK ?_)|(refine gT ?_;refine aZ ?_)|(refine gS ?_;refine aX ?_)))
   (refine bH (Le.refl _) (aQ (aO ab)) (by (repeat refine bq ab ?_);exact aY _) ab ae ⟨rfl,rfl⟩)
  |none=>
   have e:ed S lv lo hi=(⟨S.ns++[(lv,lo,hi)],jt S.fd (lv,lo,hi) ((S.ns.length:Int)+2),S.pr⟩,(S.ns.length:Int)+2):=by unfold ed;rw [if_neg he,hk]
   rw [e]
   (refine ck Tryz.func134 Tryz.ntmps134 ?_)
   (repeat' (first|(refine hK _ ?_;clear hK K)|(refine aM (fun K hK=>?_))|(refine gR ?_;refine aP ?_)|(refine gD 4 ?_;refine fg (.it 0 0 (.it 1 0 (.it 2 0 (.it 3 0 (.it 4 0 (.it 5 1 (.it 6 0 (.it 7 0 (.it 8 0 (.it 9 0 (.it 10 0 .nil))))))))))) [0,1,2,3,4,6,7,8,9,10] ?_)|(refine gD 6 ?_;refine wx (s1:=?_) (.it 1 0 (.it 2 0 (.it 3 0 (.it 4 0 (.it 5 0 (.fk 0 6 (.it 6 1 (.it 7 3 (.it 8 1 (.it 9 1 (.it 10 3 .nil))))) (.oh 0 1 7 3 (.it 7 3 (.it 8 1 (.it 9 1 (.it 10 3 .nil)))) (.it 0 1 (.it 8 1 (.it 9 1 (.it 10 3 .nil))))))))))) [1,2,3,4,5] ?_ ?_;rotate_left)|(refine gD 8 ?_;refine fg (.it 0 0 (.it 1 0 (.it 2 0 (.it 3 0 (.it 4 0 (.it 5 0 (.it 6 3 .nil))))))) [0,1,2,3,4,5] ?_)|(refine dk (fun K hK=>?_);(first|((refine eu (oz (kt:=270) hk ab ab ab).2 ?_))|(refine eu (bl ab ab ak) ?_)|(refine dq (d:=37) aC ab ab ab ab ?_)))|(refine And.intro ?_ ?_)|(refine tO ?_;refine ko ?_)|(refine gH (fun K hK=>?_);(first|((refine (iE (kt:=270) (kv:=S.fd) (k:=(lv,lo,hi)) ab ab ab ab ?_).1))|(refine cF ?_)))|(refine gO ?_;refine jZ ?_)|(refine gL ?_;(first|exact Le.refl _|exact bd))|(refine gE ?_;refine cc ?_)|(refine gQ ?_;(first|(refine cf ?_)|(refine aS (fun hc=>?_) (fun hc=>?_)<;>(try (first|contradiction|omega)))))|(refine kj ?_;refine eK ?_)|(refine gT ?_;refine aZ ?_)|(refine gS ?_;refine aX ?_)))
   simp only [jr,GY,List.length_append,List.length_singleton]
   rw [show (S.ns.length:Int)+2=((S.ns.length+1:Nat):Int)+1 by omega]
   (refine bH (Le.refl _) (aQ (aO ab)) (by (repeat refine bq ab ?_);exact aY _) ab ae ⟨rfl,rfl⟩)
theorem GZ (L:Int) (S:eB) (lv lo hi:Int) (kn:List (Int×Int)) (hb:S.ns.length≤DB):cO Tryz.prog 134 [.ptr 700 0,.int lv,.int lo,.int hi] (jr L S++Ir kn) [] [700,2,5,6] (fun x hp=>x= .int (ed S lv lo hi).2∧hp=jr L (ed S lv lo hi).1++Ir kn):=by
 unfold DB at hb
 have hbb:(S.ns.length+1) * 24≤140737488355328:=by omega
 by_cases he:lo=hi
 ·have e:ed S lv lo hi=(S,lo):=by unfold ed;rw [if_pos he]
  rw [e]
  (refine ck Tryz.func134 Tryz.ntmps134 ?_)
  (repeat' (first|(refine hK _ ?_;clear hK K)|(refine aM (fun K hK=>?_))|(refine gR ?_;refine aP ?_)|(refine gQ ?_;refine aS (fun hc=>?_) (fun hc=>?_)<;>(try (first|contradiction|omega)))|(refine gT ?_;refine aZ ?_)))
  (refine bH (Le.refl _) (aQ (aO ab)) (by (repeat refine bq ab ?_);exact aY _) ab ae ⟨rfl,rfl⟩)
 ·cases hk:lk S.fd (lv,lo,hi) with
  |some k=>
   have e:ed S lv lo hi=(S,k):=by unfold ed;rw [if_neg he,hk]
   rw [e]
   (refine ck Tryz.func134 Tryz.ntmps134 ?_)
   (repeat' (first|(refine hK _ ?_;clear hK K)|(refine aM (fun K hK=>?_))|(refine gR ?_;refine aP ?_)|(refine gD 4 ?_;refine fg (.it 0 0 (.it 1 0 (.it 2 0 (.it 3 0 (.it 4 0 (.it 5 1 (.it 6 0 (.it 7 0 (.it 8 0 (.it 9 0 (.it 10 0 .nil))))))))))) [0,1,2,3,4,6,7,8,9,10] ?_)|(refine dk (fun K hK=>?_);(refine eu (kr (kt:=270) hk ab ab ab).2 ?_))|(refine gE ?_;refine cc ?_)|(refine gQ ?_;(first|(refine bT ?_)|(refine aS (fun hc=>?_) (fun hc=>?_)<;>(try (first|contradiction|omega)))))|(refine kj ?_;refine eK ?_)|(refine gT ?_;refine aZ ?_)|(refine gS ?_;refine aX ?_)))
   (refine bH (Le.refl _) (aQ (aO ab)) (by (repeat refine bq ab ?_);exact aY _) ab ae ⟨rfl,rfl⟩)
  |none=>
   have e:ed S lv lo hi=(⟨S.ns++[(lv,lo,hi)],jt S.fd (lv,lo,hi) ((S.ns.length:Int)+2),S.pr⟩,(S.ns.length:Int)+2):=by unfold ed;rw [if_neg he,hk]
   rw [e]
   (refine ck Tryz.func134 Tryz.ntmps134 ?_)
   (repeat' (first|(refine hK _ ?_;clear hK K)|(refine aM (fun K hK=>?_))|(refine gR ?_;refine aP ?_)|(refine gD 4 ?_;refine fg (.it 0 0 (.it 1 0 (.it 2 0 (.it 3 0 (.it 4 0 (.it 5 1 (.it 6 0 (.it 7 0 (.it 8 0 (.it 9 0 (.it 10 0 .nil))))))))))) [0,1,2,3,4,6,7,8,9,10] ?_)|(refine gD 6 ?_;refine wx (s1:=?_) (.it 1 0 (.it 2 0 (.it 3 0 (.it 4 0 (.it 5 0 (.fk 0 6 (.it 6 1 (.it 7 3 (.it 8 1 (.it 9 1 (.it 10 3 .nil))))) (.oh 0 1 7 3 (.it 7 3 (.it 8 1 (.it 9 1 (.it 10 3 .nil)))) (.it 0 1 (.it 8 1 (.it 9 1 (.it 10 3 .nil))))))))))) [1,2,3,4,5] ?_ ?_;rotate_left)|(refine gD 8 ?_;refine fg (.it 0 0 (.it 1 0 (.it 2 0 (.it 3 0 (.it 4 0 (.it 5 0 (.it 6 3 .nil))))))) [0,1,2,3,4,5] ?_)|(refine dk (fun K hK=>?_);(first|((refine eu (oz (kt:=270) hk ab ab ab).2 ?_))|(refine eu (bl ab ab ak) ?_)|(refine dq (d:=37) aC ab ab ab ab ?_)))|(refine And.intro ?_ ?_)|(refine tO ?_;refine ko ?_)|(refine gH (fun K hK=>?_);(first|((refine (iE (kt:=270) (kv:=S.fd) (k:=(lv,lo,hi)) ab ab ab ab ?_).1))|(refine cF ?_)))|(refine gO ?_;refine jZ ?_)|(refine gL ?_;(first|exact Le.refl _|exact bd))|(refine gE ?_;refine cc ?_)|(refine gQ ?_;(first|(refine cf ?_)|(refine aS (fun hc=>?_) (fun hc=>?_)<;>(try (first|contradiction|omega)))))|(refine kj ?_;refine eK ?_)|(refine gT ?_;refine aZ ?_)|(refine gS ?_;refine aX ?_)))
   simp only [jr,GY,List.length_append,List.length_singleton]
   rw [show (S.ns.length:Int)+2=((S.ns.length+1:Nat):Int)+1 by omega]
   (refine bH (Le.refl _) (aQ (aO ab)) (by (repeat refine bq ab ?_);exact aY _) ab ae ⟨rfl,rfl⟩)
@[go_sem] theorem M0:AV.dJ 701 (.mp 2000000003)= .mp 2000000003:=rfl
theorem jo (L:Int) (S:eB) (k:Int) (hv:Vd S.ns k) (hb:S.ns.length≤DB):cO Tryz.prog 182 [.ptr 700 0,.int k] (jr L S) [] [700] (fun x hp=>x= .int (lvl L S.ns k)∧hp=jr L S):=by
 unfold DB at hb
 obtain ⟨k0,k1⟩:=hv
 by_cases h2:k < 2
 ·rw [ir L _ h2]
  (refine ck Tryz.func182 Tryz.ntmps182 ?_)
  (repeat' (first|(refine hK _ ?_;clear hK K)|(refine aM (fun K hK=>?_))|(refine gR ?_;refine aP ?_)|(refine gQ ?_;refine aS (fun hc=>?_) (fun hc=>?_)<;>(try (first|contradiction|omega)))|(refine gT ?_;refine aZ ?_)))
  (refine bH (Le.refl _) (aQ (aO ab)) (by (repeat refine bq ab ?_);exact aY _) ab ae ⟨rfl,rfl⟩)
 ·have hL:NX (k - 2).toNat S.ns:=⟨by omega⟩
  have e:lvl L S.ns k=(S.ns[(k - 2).toNat]!).1:=by unfold lvl nd;rw [if_neg h2]
  rw [e]
  (refine ck Tryz.func182 Tryz.ntmps182 ?_)
  (repeat' (first|(refine hK _ ?_;clear hK K)|(refine aM (fun K hK=>?_))|(refine gR ?_;refine aP ?_)|(refine gE ?_;refine cc ?_)|(refine gQ ?_;refine aS (fun hc=>?_) (fun hc=>?_)<;>(try (first|contradiction|omega)))|(refine gT ?_;refine aZ ?_)|(refine gS ?_;refine aX ?_)))
  (refine bH (Le.refl _) (aQ (aO ab)) (by (repeat refine bq ab ?_);exact aY _) ab ae ⟨rfl,rfl⟩)
theorem jV (L:Int) (S:eB) (k lv:Int) (hv:Vd S.ns k) (hl:lv < L) (hb:S.ns.length≤DB):cO Tryz.prog 183 [.ptr 700 0,.int k,.int lv] (jr L S) [] [700] (fun x hp=>x= .dr [.int (iX L S.ns k lv).1,.int (iX L S.ns k lv).2]∧hp=jr L S):=by
 have hlev:=jo L S k hv hb
 unfold DB at hb
 obtain ⟨k0,k1⟩:=hv
 by_cases hg:lvl L S.ns k > lv
 ·have e:iX L S.ns k lv=(k,k):=by unfold iX;rw [if_pos hg]
  rw [e]
  (refine ck Tryz.func183 Tryz.ntmps183 ?_)
  (repeat' (first|(refine hK _ ?_;clear hK K)|(refine aM (fun K hK=>?_))|(refine gR ?_;refine aP ?_)|(refine bn (fun K hK=>?_);(refine bI (hlev) (by (repeat (first|exact bP|refine bA ab ?_))) (fun _ h=>by cases h) ab (fun x hp' hx=>?_);obtain ⟨rfl,rfl⟩:=hx<;>simp only [go_sem,seval,dj,aV]))|(refine gQ ?_;refine aS (fun hc=>?_) (fun hc=>?_)<;>(try (first|contradiction|omega)))|(refine gW ?_;refine bN ?_)|(refine gT ?_;refine aZ ?_)))
  (refine bH (Le.refl _) (dx (aO ab) (aO ab)) (by (repeat refine bq ab ?_);exact aY _) ab ae ⟨rfl,rfl⟩)
 ·have h2:¬k < 2:=fun h=>by rw [ir L _ h] at hg;omega
  have hL:NX (k - 2).toNat S.ns:=⟨by omega⟩
  have e:iX L S.ns k lv=((S.ns[(k - 2).toNat]!).2.1,(S.ns[(k - 2).toNat]!).2.2):=by unfold iX;rw [if_neg hg];rfl
  rw [e]
  (refine ck Tryz.func183 Tryz.ntmps183 ?_)
  (repeat' (first|(refine hK _ ?_;clear hK K)|(refine aM (fun K hK=>?_))|(refine gR ?_;refine aP ?_)|(refine gD 4 ?_;refine fg (.it 0 0 (.it 1 0 (.it 2 0 (.it 3 0 (.it 4 0 (.it 5 0 .nil)))))) [0,1,2,3,4,5] ?_)|(refine bn (fun K hK=>?_);(refine bI (hlev) (by (repeat (first|exact bP|refine bA ab ?_))) (fun _ h=>by cases h) ab (fun x hp' hx=>?_);obtain ⟨rfl,rfl⟩:=hx<;>simp only [go_sem,seval,dj,aV]))|(refine gE ?_;refine cc ?_)|(refine gQ ?_;refine aS (fun hc=>?_) (fun hc=>?_)<;>(try (first|contradiction|omega)))|(refine gW ?_;refine bN ?_)|(refine gT ?_;refine aZ ?_)|(refine gS ?_;refine aX ?_)))
  (refine bH (Le.refl _) (dx (aO ab) (aO ab)) (by (repeat refine bq ab ?_);exact aY _) ab ae ⟨rfl,rfl⟩)
end Go.Proofs.YtkbiagkbmodgdaaGreat
