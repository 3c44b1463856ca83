/- Part of a proof: of two right answers both have a plan, at one cost, or none. No condition. -/
import Derived.Test.YtkbiagkbmodgdaaGreatZabq
import Derived.Test.YtkbiagkbmodgdaaGreatZdtd
import Derived.Test.YtkbiagkbmodgdaaGreatZgch
import Derived.Test.YtkbiagkbmodgdaaGreatZgcj
import Derived.Test.YtkbiagkbmodgdaaGreatZlba
import Derived.Test.YtkbiagkbmodgdaaGreatZtab
set_option linter.unusedSimpArgs false
set_option linter.unusedVariables false
namespace Go.Proofs.YtkbiagkbmodgdaaGreat
open Go.Ab
open Go
set_option maxRecDepth 10000
attribute [local irreducible] dE fh mC lW db PV eR ef AW bg dn ec dP cO Ab.Fin ft en gI iO RV jX Le eI fM mg gV kf dz dg
set_option maxHeartbeats 8000000
@[local go_sem] theorem OY:((0:Nat):Int)=0:=rfl
abbrev rr.av (e:rr):AV:=.agg [ints e.st,.int e.val]
abbrev Ax (l:List rr):AV:=.cr 2 32 (l.map rr.av)
instance:Inhabited rr:=⟨⟨[],0⟩⟩
def E1 (L:Int) (l:List rr) (i:Nat):Bool:=!isSet l[i]!.st L|| (decide (0 < i)&&decide (oJ l[i]!.st l[i-1]!.st≤0))
def wj (L:Int) (l:List rr) (i:Nat):Option (Int×Int):=if E1 L l i=true then some (5,(i:Int)) else if l[i]!.val < 1∨1000000000 < l[i]!.val then some (3,(i:Int)) else none
def iY (t:Task) (l:List rr):Int×Int:=if cW t≠(0,0) then cW t else if 2000 < l.length then (2,-8) else (bD (wj t.facts l) l.length).getD (0,0)
structure Nj (L:Int) (e:rr):Prop where
 st:isSet e.st L=true
 v1:1≤e.val
 v2:e.val≤1000000000
theorem vK {t:Task} {l:List rr} (h:iY t l=(0,0)):xY t∧l.length≤2000∧∀ e∈l,Nj t.facts e:=by
 unfold iY at h
 split at h
 ·rename_i h1;exact absurd h h1
 ·rename_i h1
  split at h
  ·simp at h
  ·rename_i h2
   refine ⟨ru.1 (Decidable.not_not.1 h1),by omega,fun c hc=>?_⟩
   cases hf:bD (wj t.facts l) l.length with
   |some q=>
    rw [hf] at h
    simp only [Option.getD_some] at h
    subst h
    obtain ⟨i,_,hg⟩:=dN hf
    unfold wj at hg
    (repeat' split at hg)<;>simp at hg
   |none=>
    obtain ⟨i,hi,rfl⟩:=List.getElem_of_mem hc
    have h3:=k8 hf hi
    unfold wj at h3
    rw [bY hi] at h3
    split at h3
    ·cases h3
    ·rename_i h4
     split at h3
     ·cases h3
     ·rename_i h5
      unfold E1 at h4
      rw [bY hi] at h4
      simp only [Bool.or_eq_true,not_or,Bool.not_eq_true',Bool.not_eq_false] at h4
      exact ⟨h4.1,by omega,by omega⟩
theorem Ay {t:Task} {l:List rr} (h:iY t l≠(0,0)):(iY t l).1≠0:=by
 unfold iY at h ⊢
 split
 ·rename_i h1;exact tV h1
 ·rename_i h1
  rw [if_neg h1] at h
  split
  ·simp
  ·rename_i h2
   rw [if_neg h2] at h
   cases hf:bD (wj t.facts l) l.length with
   |none=>rw [hf] at h;exact absurd rfl h
   |some q=>
    obtain ⟨i,_,hg⟩:=dN hf
    unfold wj at hg
    (repeat' split at hg)<;>first|(cases hg;done)|(injection hg with hg;subst hg;simp)
theorem Df (t:Task) (l:List rr):bg Tryz.prog 122 [t.av,Ax l] (fun r=>r=jL (iY t l)):=by
 by_cases hf:cW t=(0,0)
 ·have hv:=HW hf
  by_cases h2:2000 < l.length
  ·have e:iY t l=(2,-8):=by unfold iY;rw [if_neg (by simp [hf]),if_pos h2]
   rw [e]
   (refine bh Tryz.func122 Tryz.ntmps122 ?_)
   (refine cL (i:=1) rfl (fun hb=>?_);(try simp only [List.length_map] at hb))
   (repeat' (first|(refine hK _ ?_;clear hK K)|(refine aM (fun K hK=>?_))|(refine gR ?_;refine aP ?_)|(refine gC 128 ?_;refine bp (hv) ?_)|(refine gE ?_;refine cc ?_)|(refine gQ ?_;(first|(refine bT ?_)|(refine aS (fun hc=>?_) (fun hc=>?_)<;>(try (first|contradiction|omega)))))|(refine gT ?_;refine aZ ?_)|(refine gS ?_;refine aX ?_)))
   all_goals (refine aT (Le.refl _) (aQ (bt (by first|exact bF ab ab ab ab|exact br ab ab ab aq))) af ?_)
   all_goals rfl
  ·have e:iY t l=(bD (wj t.facts l) l.length).getD (0,0):=by unfold iY;rw [if_neg (by simp [hf]),if_neg h2]
   rw [e]
   (refine bh Tryz.func122 Tryz.ntmps122 ?_)
   (refine cL (i:=1) rfl (fun hb=>?_);(try simp only [List.length_map] at hb))
   (repeat' (first|(refine hK _ ?_;clear hK K)|(refine aM (fun K hK=>?_))|(refine gR ?_;refine aP ?_)|(refine gC 128 ?_;refine bp (hv) ?_)|(refine gE ?_;refine cc ?_)|(refine gQ ?_;(first|(refine bT ?_)|(refine aS (fun hc=>?_) (fun hc=>?_)<;>(try (first|contradiction|omega)))))|(refine aN ?_)|(refine gS ?_;refine aX ?_)))
   refine bO [6,7,20,21,22,23,24,25,26,27,28,29,30,31,32,33,34,35,36,37,38,39,40,41,42,43,44,45,46,47,48,49,50,51,52,53,54,55,56,57,58,59,60,61] (fun k:Nat=>k≤l.length∧bD (wj t.facts l) k=none) (fun k=>l.length - k) (fun k=>[(20,.int k)]) (fun _=>[(2,⟨38,t.cs,true⟩),(4,⟨42,[.int 0,.int 0],true⟩)]) 0 ⟨by omega,rfl⟩ ?_ ?_
   ·(refine cm ?_)
    (exact bd)
   ·rintro k ⟨hk,hn⟩ K hK
    (refine cm ?_)
    by_cases hlt:k < l.length
    ·have e1:=kU l[k].st t.facts
     have hg:wj t.facts l k=if E1 t.facts l k=true then some (5,(k:Int)) else if l[k].val < 1∨1000000000 < l[k].val then some (3,(k:Int)) else none:=by unfold wj;rw [bY hlt]
     have hbad:E1 t.facts l k=(!isSet l[k].st t.facts|| (decide (0 < k)&&decide (oJ l[k].st l[k-1]!.st≤0))):=by unfold E1;rw [bY hlt]
     cases h1:isSet l[k].st t.facts with
     |false=>
      rw [h1] at e1
      rw [hbad,h1,if_pos ab] at hg
      (repeat' (first|(refine hK _ ?_;clear hK K)|(refine aM (fun K hK=>?_))|(refine gR ?_;refine aP ?_)|(refine gD 9 ?_;refine fg (.it 0 0 (.it 1 0 (.it 2 0 (.it 3 0 (.it 4 1 (.it 5 0 (.it 6 0 (.it 7 0 (.it 8 0 (.it 9 0 (.it 10 0 (.it 11 0 (.it 12 0 (.it 13 0 (.it 14 0 (.it 15 0 (.it 16 0 (.it 17 0 (.it 18 0 (.it 19 0 (.it 20 0 (.it 21 0 (.it 22 0 .nil))))))))))))))))))))))) [0,1,2,3,5,6,7,8,9,10,11,12,13,14,15,16,17,18,19,20,21,22] ?_)|(refine kK 129 ?_;refine dw (e1) ?_)|(refine gE ?_;(first|(refine cc ?_)|(refine dL (fun _=>?_))))|(refine gQ ?_;(first|(refine cf ?_)|(refine aS (fun hc=>?_) (fun hc=>?_)<;>(try (first|contradiction|omega)))))|(refine aN ?_)|(refine gT ?_;refine aZ ?_)|(refine gS ?_;refine aX ?_)))
      (refine aT (Le.refl _) (aQ (bt (by first|exact bF ab ab ab ab|exact br ab ab ab aq))) af ?_)
      rw [cQ hn hg hlt]
      rfl
     |true=>
      rw [h1] at e1 hbad
      rcases Nat.eq_zero_or_pos k with rfl|hpos
      ·have hb0:E1 t.facts l 0=false:=by rw [hbad];rfl
       rw [hb0,if_neg ax] at hg
       (repeat' (first|(refine hK _ ?_;clear hK K)|(refine aM (fun K hK=>?_))|(refine gR ?_;refine aP ?_)|(refine gD 9 ?_;refine fg (.it 0 0 (.it 1 0 (.it 2 0 (.it 3 0 (.it 4 1 (.it 5 0 (.it 6 0 (.it 7 0 (.it 8 0 (.it 9 0 (.it 10 0 (.it 11 0 (.it 12 0 (.it 13 0 (.it 14 0 (.it 15 0 (.it 16 0 (.it 17 0 (.it 18 2 (.it 19 0 (.it 20 0 (.it 21 0 (.it 22 0 .nil))))))))))))))))))))))) [0,1,2,3,5,6,7,8,9,10,11,12,13,14,15,16,17,18,19,20,21,22] ?_)|(refine kK 129 ?_;refine dw (e1) ?_)|(refine gE ?_;(first|(refine cc ?_)|(refine dL (fun _=>?_))))|(refine gG ?_;refine cB (fun hc=>?_) (fun hc=>?_)<;>(try (first|contradiction|omega)))|(refine gQ ?_;(first|(refine cf ?_)|(refine bT ?_)|(refine aS (fun hc=>?_) (fun hc=>?_)<;>(try (first|contradiction|omega)))))|(refine aN ?_)|(refine gT ?_;refine aZ ?_)|(refine gS ?_;refine aX ?_)))
       all_goals first
        |((refine aT (Le.refl _) (aQ (bt (by first|exact bF ab ab ab ab|exact br ab ab ab aq))) af ?_);rw [cQ hn (hg.trans (if_pos aj)) hlt];rfl)
        |(refine ⟨0+1,⟨by omega,dy hn (hg.trans (if_neg aj))⟩,by omega,?_⟩;(refine cm ?_);(exact bd))
      ·have hk1:k - 1 < l.length:=by omega
       have e2:=vt l[k].st l[k-1].st
       rw [bY hk1,Bool.not_true,Bool.false_or,decide_eq_true hpos,Bool.true_and] at hbad
       obtain ⟨m,rfl⟩:∃ m,k=m+1:=⟨k - 1,by omega⟩
       simp only [Nat.add_sub_cancel] at e2 hbad
       generalize hz:oJ l[m+1].st l[m].st=z at *
       rw [hbad] at hg
       (repeat' (first|(refine hK _ ?_;clear hK K)|(refine aM (fun K hK=>?_))|(refine gR ?_;refine aP ?_)|(refine gD 9 ?_;refine fg (.it 0 0 (.it 1 0 (.it 2 0 (.it 3 0 (.it 4 1 (.it 5 0 (.it 6 0 (.it 7 0 (.it 8 0 (.it 9 0 (.it 10 0 (.it 11 0 (.it 12 0 (.it 13 0 (.it 14 0 (.it 15 0 (.it 16 0 (.it 17 0 (.it 18 2 (.it 19 0 (.it 20 0 (.it 21 0 (.it 22 0 .nil))))))))))))))))))))))) [0,1,2,3,5,6,7,8,9,10,11,12,13,14,15,16,17,18,19,20,21,22] ?_)|(refine kK 129 ?_;refine dw (e1) ?_)|(refine kK 172 ?_;refine dw (e2) ?_)|(refine gE ?_;(first|(refine cc ?_)|(refine dL (fun _=>?_))))|(refine gG ?_;refine cB (fun hc=>?_) (fun hc=>?_)<;>(try (first|contradiction|omega)))|(refine Lo ?_;refine pQ (fun hc=>?_) (fun hc=>?_)<;>(try (first|contradiction|omega)))|(refine gQ ?_;(first|(refine cf ?_)|(refine aS (fun hc=>?_) (fun hc=>?_)<;>(try (first|contradiction|omega)))))|(refine aN ?_)|(refine gT ?_;refine aZ ?_)|(refine gS ?_;refine aX ?_)))
       all_goals first
        |((refine aT (Le.refl _) (aQ (bt (by first|exact bF ab ab ab ab|exact br ab ab ab aq))) af ?_);rw [cQ hn (hg.trans (if_pos (decide_eq_true aj))) hlt];rfl)
        |((refine aT (Le.refl _) (aQ (bt (by first|exact bF ab ab ab ab|exact br ab ab ab aq))) af ?_);rw [cQ hn ((hg.trans (if_neg (by rw [decide_eq_false aj];simp))).trans (if_pos aj)) hlt];rfl)
        |(refine ⟨m+1+1,⟨by omega,dy hn ((hg.trans (if_neg (by rw [decide_eq_false aj];simp))).trans (if_neg aj))⟩,by omega,?_⟩;(refine cm ?_);(exact bd))
    ·obtain rfl:k=l.length:=by omega
     (repeat' (first|(refine hK _ ?_;clear hK K)|(refine aM (fun K hK=>?_))|(refine gR ?_;refine aP ?_)|(refine gE ?_;refine cc ?_)|(refine gQ ?_;refine aS (fun hc=>?_) (fun hc=>?_)<;>(try (first|contradiction|omega)))|(refine gX ?_;refine bV ?_)|(refine gT ?_;refine aZ ?_)|(apply_assumption (exfalso:=false) (symm:=false))))
     (refine aT (Le.refl _) (aQ (bt (by first|exact bF ab ab ab ab|exact br ab ab ab aq))) af ?_)
     rw [hn]
     rfl
 ·have hac:=tV hf
  have e:iY t l=cW t:=by unfold iY;rw [if_pos hf]
  rw [e]
  (refine bh Tryz.func122 Tryz.ntmps122 ?_)
  (repeat' (first|(refine hK _ ?_;clear hK K)|(refine aM (fun K hK=>?_))|(refine gR ?_;refine aP ?_)|(refine gC 128 ?_;refine bp (oI _) ?_)|(refine gE ?_;refine cc ?_)|(refine gQ ?_;refine aS (fun hc=>?_) (fun hc=>?_)<;>(try (first|contradiction|omega)))|(refine gT ?_;refine aZ ?_)))
  all_goals (refine aT (Le.refl _) (aQ (bt (by first|exact bF ab ab ab ab|exact br ab ab ab aq))) af ?_)
  all_goals rfl
end Go.Proofs.YtkbiagkbmodgdaaGreat
namespace Go.Proofs.YtkbiagkbmodgdaaGreat
open Go.Ab
open Go
set_option maxRecDepth 10000
attribute [local irreducible] dE fh mC lW db PV eR ef AW bg dn ec dP cO Ab.Fin ft en gI iO RV jX Le eI fM mg gV kf dz dg
set_option maxHeartbeats 8000000
@[local go_sem] theorem Oh (i g:Nat) (y:cq):AV.cv i (.yl g y)=(g == i):=rfl
@[local go_sem] theorem Nk (i g:Nat) (y:cq):AV.dJ i (.yl g y)=if (g == i)=true then .any else .yl g y:=rfl
theorem fG {P:Program} {aU:Nat→Option TI} [hT:Tb P aU] {all:Array Oper} {rest:List Oper} {d:Option Tmp} {op:Go.Op} {ty:TypeId} {pos:String} {bC:Array Edge} {s:St} {K:St→Prop} (x:AV) (h:mZ aU op s= .ok x) (k:db P all rest (s.put d x) K) (hnd:hJ [(⟨d,op,ty,pos,bC,none⟩:Oper)]=true:=by rfl):db P all (⟨d,op,ty,pos,bC,none⟩::rest) s K:=
 bu rfl hnd fun K1 hK1=>bK (by have:=kJ (P:=P) (aU:=aU) op s;rw [h] at this;exact this) (hK1 _ k)
theorem ic {P:Program} {aU:Nat→Option TI} [hT:Tb P aU] {all:Array Oper} {rest:List Oper} {d:Option Tmp} {op:Go.Op} {ty:TypeId} {pos:String} {bC:Array Edge} {s:St} {K:St→Prop} {c:Prop} {dc:Decidable c} {f:c→AV} (h:mZ aU op s=@PR.ex c dc f) (hc:c) (k:db P all rest (s.put d (f hc)) K) (hnd:hJ [(⟨d,op,ty,pos,bC,none⟩:Oper)]=true:=by rfl):db P all (⟨d,op,ty,pos,bC,none⟩::rest) s K:=
 bu rfl hnd fun K1 hK1=>bK (by have:=kJ (P:=P) (aU:=aU) op s;rw [h] at this;exact this hc) (hK1 _ k)
abbrev ME (t:Task) (kv:List (Int×Int)):Hp:=[(600,⟨206,[Ni t,.mp 2000000001],true⟩),(2000000001,⟨1000000000,wM (kI .u32) kv,false⟩)]
def yw (kv:List (Int×Int)):Prop:=∀ w v,lk kv w=some v→0≤v∧v≤1000000000
theorem Oi {kv:List (Int×Int)} (h:yw kv) (w:Int):0≤(lk kv w).getD 0∧(lk kv w).getD 0≤1000000000:=by
 cases hl:lk kv w with
 |none=>simp
 |some v=>exact h w v hl
theorem H6 (t:Task) (hw:xY t) (kv:List (Int×Int)) (hkv:yw kv) (s:List Int) (hs:isSet s t.facts=true) :
  cO Tryz.prog 176 [.ptr 600 0,u32 (cY s)] (ME t kv) [] [600] (fun x hp=>x= .int (nP t kv s)∧hp=ME t kv):=by
 have h40:=hw.n40
 have hL:=hw.f1
 have cg:=Kp t hw s hs
 have cs:=H4 t s
 cases hg:iG t.goal s with
 |true=>
  rw [hg] at cg
  have e:nP t kv s=0:=by unfold nP;rw [if_pos hg]
  rw [e]
  (refine ck Tryz.func176 Tryz.ntmps176 ?_)
  (repeat' (first|(refine hK _ ?_;clear hK K)|(refine aM (fun K hK=>?_))|(refine gR ?_;refine aP ?_)|(refine gC 143 ?_;refine bp (cg) ?_)|(refine gE ?_;refine cc ?_)|(refine gQ ?_;refine cf ?_)|(refine gT ?_;refine aZ ?_)))
  (refine bH (Le.refl _) (aQ (aO ab)) (by (repeat refine bq ab ?_);exact aY _) ab ae ⟨rfl,rfl⟩)
 |false=>
  rw [hg] at cg
  have e:nP t kv s=HY t kv s t.ops.length:=by unfold nP;rw [if_neg (by simp [hg])]
  rw [e]
  (refine ck Tryz.func176 Tryz.ntmps176 ?_)
  (repeat' (first|(refine hK _ ?_;clear hK K)|(refine aM (fun K hK=>?_))|(refine fH 3 ab ?_;refine aP ?_)|(refine gC 143 ?_;refine bp (cg) ?_)|(refine gE ?_;refine cc ?_)|(refine gQ ?_;refine bT ?_)|(refine gS ?_;refine aX ?_)))
  refine dG ?_
  refine cp rfl (fun K1 hK1=>?_)
  refine mB (d:=5) 605 ae ?_
  simp only [go_sem,seval];refine hK1 _ ?_;clear hK1 K1
  refine Cj ?_
  (repeat' (first|(refine hK _ ?_;clear hK K)|(refine aM (fun K hK=>?_))|(refine gR ?_;refine aP ?_)|(refine gC 194 ?_;refine bp (cs) ?_)|(refine gW ?_;refine bN ?_)|(refine aN ?_)))
  have hK9:=hK
  refine jC 1000000001 ab aw ae ae ae Tryz.func222 Tryz.ntmps222 ab ab (fun y hyp hya hyb=>?_)
  simp only [go_sem,seval,dj,aV,List.length_cons,List.length_nil,List.replicate_succ,List.replicate_zero,Nat.reduceSub]
  (repeat' (first|(refine hK _ ?_;clear hK K)|(refine aM (fun K hK=>?_))|(refine gR ?_;refine aP ?_)|(refine aN ?_)))
  refine bU [4,5,11,12,13,14,15,16,17,18,19,20,21,22,23,24,25,26,27,28,29,30,31,32,33,34,35,36,37,38,39] (fun k:Nat=>k≤t.ops.length) (fun k=>t.ops.length - k) (fun k=>[(11,.int k)]) (fun k=>[(605,⟨3,[.int (HY t kv s k)],true⟩)]) 0 (Nat.zero_le _) ?_ ?_
  ·(refine cm ?_)
   (exact bd)
  ·rintro k hk K hK
   (refine cm ?_)
   by_cases hlt:k < t.ops.length
   ·have ho:=hw.ops t.ops[k] (List.getElem_mem hlt)
    have hop:=ho.1
    unfold l9 at hop
    simp only [Bool.and_eq_true] at hop
    have h1:=K5 (jP hs hL) (jP hop.1.1.1 hL)
    have h2:=Dc hs hop.1.1.1
    have hgd:(bits .and .u32 ((cY s:Nat):Int) ((cY t.ops[k].pre:Nat):Int) == ((cY t.ops[k].pre:Nat):Int))=iG t.ops[k].pre s:=by
     rw [h1,Bool.eq_iff_iff,beq_iff_eq,← h2];omega
    have hst:=MA hw.f0 hL hs ho.1
    have hlb:HY t kv s (k+1)=if iG t.ops[k].pre s=true then min (HY t kv s k) (t.ops[k].cost+HX kv (bC t.facts s t.ops[k])) else HY t kv s k:=by rw [HY,bY hlt]
    cases hb:iG t.ops[k].pre s with
    |false=>
     rw [hb] at hgd
     rw [hb,if_neg ax] at hlb
     (repeat' (first|(refine hK _ ?_;clear hK K)|(refine aM (fun K hK=>?_))|(refine fH 3 ab ?_;refine aP ?_)|(refine gE ?_;(first|(refine cc ?_)|(refine dL (fun _=>?_))))|(refine gQ ?_;refine aS (fun hc=>?_) (fun hc=>?_)<;>(try (first|contradiction|omega)))|(refine aN ?_)|(refine gS ?_;refine aX ?_)))
     refine e8 ?_
     iterate 7 ((first|(refine fG _ ao ?_)|(refine ic ao ay ?_));simp only [go_sem,seval,dj,aV])
     simp only [hgd]
     (first|(refine fG _ ao ?_)|(refine ic ao ay ?_));simp only [go_sem,seval,dj,aV]
     iterate 14 (refine p9 ab ab ab ?_;simp only [go_sem,seval,dj,aV])
     (first|(refine fG _ ao ?_)|(refine ic ao ay ?_));simp only [go_sem,seval,dj,aV]
     refine cA ?_
     (repeat' (first|(refine hK _ ?_;clear hK K)|(refine gR ?_;refine aP ?_)|(refine gE ?_;refine cc ?_)|(refine gQ ?_;refine bT ?_)|(refine gS ?_;refine aX ?_)))
     refine ⟨k+1,by omega,by omega,?_⟩
     rw [hlb]
     (refine cm ?_)
     (exact bd)
    |true=>
     rw [hb] at hgd
     rw [hb,if_pos rfl] at hlb
     (repeat' (first|(refine hK _ ?_;clear hK K)|(refine aM (fun K hK=>?_))|(refine fH 3 ab ?_;refine aP ?_)|(refine gE ?_;(first|(refine cc ?_)|(refine dL (fun _=>?_))))|(refine gQ ?_;refine aS (fun hc=>?_) (fun hc=>?_)<;>(try (first|contradiction|omega)))|(refine aN ?_)|(refine gS ?_;refine aX ?_)))
     refine e8 ?_
     iterate 7 ((first|(refine fG _ ao ?_)|(refine ic ao ay ?_));simp only [go_sem,seval,dj,aV])
     simp only [hgd]
     (first|(refine fG _ ao ?_)|(refine ic ao ay ?_));simp only [go_sem,seval,dj,aV]
     iterate 10 (refine gB ab ab ?_;(first|(refine fG _ ao ?_)|(refine ic ao ay ?_));simp only [go_sem,seval,dj,aV])
     refine gB ab ab ?_;(first|(refine fG _ ao ?_)|(refine ic ao ay ?_));simp only [go_sem,seval,dj,aV]
     simp only [hst]
     refine gB ab ab ?_;(first|(refine fG _ ao ?_)|(refine ic ao ay ?_));simp only [go_sem,seval,dj,aV]
     have hab:=Oi hkv ((cY (bC t.facts s t.ops[k]):Nat):Int)
     have hat:HX kv (bC t.facts s t.ops[k])=(lk kv ((cY (bC t.facts s t.ops[k]):Nat):Int)).getD 0:=rfl
     rw [hat] at hlb
     generalize ((cY (bC t.facts s t.ops[k]):Nat):Int)=w at *
     refine gB ab ab ?_
     refine bX 1000000002 hyp hya hyb ab ab ab ab ab aw aw aw ab ae ab ab ?_
     simp only [go_sem,seval]
     refine gR ?_;refine aP ?_
     (repeat' (refine gE ?_;refine cc ?_))
     refine ⟨_,_,Le.refl _,by rfl,by rfl,?_⟩
     simp only [go_sem,seval]
     (repeat' (first|(refine hK _ ?_;clear hK K)|(refine gD 6 ?_;refine fg (.it 0 0 (.it 1 0 (.it 2 0 (.it 3 0 (.it 4 0 (.it 5 0 (.it 6 0 (.it 7 0 (.it 8 0 (.it 9 1 (.it 10 0 (.it 11 0 (.it 12 3 .nil))))))))))))) [0,1,2,3,4,5,6,7,8,10,11] ?_)|(refine dk (fun K hK=>?_);(refine eu (FU (kt:=131) (kA:=kI .u32) (kv:=kv) (k:=w) ab ab ab).1 ?_))|(refine gO ?_;refine jZ ?_)|(refine gE ?_;refine cc ?_)|(refine kj ?_;refine eK ?_)|(refine aN ?_)))
     refine ⟨_,_,_,1000000001,Le.refl _,by rfl,by rfl,by rfl,rfl,?_⟩
     simp only [go_sem,seval]
     refine gB ab ab ?_
     refine fG _ ao ?_;simp only [go_sem,seval,dj,aV]
     refine fG _ ao ?_;simp only [go_sem,seval,dj,aV]
     refine cA ?_
     (repeat' (first|(refine hK _ ?_;clear hK K)|(refine gR ?_;refine aP ?_)|(refine gE ?_;refine cc ?_)|(refine gQ ?_;refine bT ?_)|(refine gS ?_;refine aX ?_)))
     refine ⟨k+1,by omega,by omega,?_⟩
     rw [hlb]
     (refine cm ?_)
     (exact bd)
   ·obtain rfl:k=t.ops.length:=by omega
    (repeat' (first|(refine hK _ ?_;clear hK K)|(refine aM (fun K hK=>?_))|(refine gR ?_;refine aP ?_)|(refine gQ ?_;refine aS (fun hc=>?_) (fun hc=>?_)<;>(try (first|contradiction|omega)))|(refine gX ?_;refine bV ?_)))
    refine ⟨_,_,.normal,1000000001,_,Le.refl _,gp,rfl,by rfl,?_⟩
    simp only [go_sem,seval,dj,aV]
    refine hK9 _ ?_
    clear hK9 hK
    (repeat' (first|(refine hK _ ?_;clear hK K)|(refine aM (fun K hK=>?_))|(refine gR ?_;refine aP ?_)|(refine gT ?_;refine aZ ?_)))
    (refine bH (Le.refl _) (aQ (aO ab)) (by (repeat refine bq ab ?_);exact aY _) ab ae ⟨rfl,rfl⟩)
end Go.Proofs.YtkbiagkbmodgdaaGreat
namespace Go.Proofs.YtkbiagkbmodgdaaGreat
open Go.Ab
open Go
set_option maxRecDepth 10000
attribute [local irreducible] dE fh mC lW db PV eR ef AW bg dn ec dP cO Ab.Fin ft en gI iO RV jX Le eI fM mg gV kf dz dg
set_option maxHeartbeats 8000000
abbrev Nl (t:Task) (kv:List (Int×Int)):Hp:=ME t kv++[(601,⟨200,[.ptr 600 0],true⟩)]
def pJ (t:Task) (kv:List (Int×Int)) (e:rr):Bool:=decide (nP t kv e.st < e.val)
theorem H7 (t:Task) (hw:xY t) (kv:List (Int×Int)) (hkv:yw kv) (e:rr) (he:Nj t.facts e) :
  cO Tryz.prog 175 [e.av,.ptr 601 0] (Nl t kv) [] [600,601] (fun x hp=>x= .bool (pJ t kv e)∧hp=Nl t kv):=by
 have cw:=jW e.st t.facts he.st hw.f1
 have c1:=H6 t hw kv hkv e.st he.st
 unfold pJ
 generalize nP t kv e.st=z at *
 obtain ⟨st,val⟩:=e
 simp only at *
 (refine ck Tryz.func175 Tryz.ntmps175 ?_)
 (repeat' (first|(refine hK _ ?_;clear hK K)|(refine aM (fun K hK=>?_))|(refine fH 1 ab ?_;refine aP ?_)|(refine gE ?_;refine cc ?_)))
 (refine cT (bQ 2 rfl rfl rfl) ?_;simp only [go_sem,seval])
 refine nJ [.bx [.int val],.int val,.ptr 600 0,.bx [ints st,.int val],ints st,u32 (cY st),.int z,.bool (decide (z < val)),.bool (decide (z < val))] [[2],[4],[1],[2],[7],[8],[6,9],[5,10],[11]] [5,6] [(0,0),(0,1),(0,2),(1,0),(1,1),(1,2),(2,0),(2,1),(3,0),(4,0),(7,2),(8,2)] [fun h=>h,fun h=>ME t kv++eZ (aV (ME t kv)++[]) [600] h] ab ah au (all_cons ⟨_,rfl,rfl,(by first|exact ba (bl ab ab ak) ab|exact ba (bm ab ab ak) ab)⟩ (all_cons ⟨_,rfl,rfl,(by first|exact ba (bl ab ab ak) ab|exact ba (bm ab ab ak) ab)⟩ (all_cons ⟨_,rfl,rfl,(by first|exact ba (bl ab ab ak) ab|exact ba (bm ab ab ak) ab)⟩ (all_cons ⟨_,rfl,rfl,aR⟩ (all_cons ⟨_,rfl,rfl,aR⟩ (all_cons ⟨_,rfl,rfl,aR⟩ (all_cons ⟨_,rfl,rfl,aR⟩ (all_cons ⟨_,rfl,rfl,aR⟩ (all_cons ⟨_,rfl,rfl,(by first|exact ba (bl ab ab ak) ab|exact ba (bm ab ab ak) ab)⟩ (all_cons ⟨_,rfl,rfl,aR⟩ (all_cons ⟨_,rfl,rfl,(by first|exact ba (Lq ab ab) ab)⟩ (all_cons ⟨_,rfl,rfl,(by first|exact ba (cU) ab)⟩ all_nil)))))))))))) (dS (fun f hfl hU hfm K1 hK1=>⟨_,rfl,rfl,(by (refine cH (by rw [eM hU ab];exact cw) (by rw [eM hU ab];rfl) (fun x hx=>?_);obtain rfl:=hx;exact hK1))⟩) (dS (fun f hfl hU hfm K1 hK1=>⟨_,rfl,rfl,(by (refine bI (by rw [eM hU ab];exact c1) (by (repeat (first|exact bP|refine bA ab ?_))) (fun _ h=>by cases h) ab (fun x hp' hx=>?_);obtain ⟨rfl,rfl⟩:=hx;rw [fb hfm (by repeat (first|exact all_nil|refine all_cons ab ?_)) (by repeat (first|exact all_nil|refine all_cons ab ?_))];exact hK1))⟩) nH)) ?_
 simp only [go_sem,seval,dj,aV,CJ,List.length_cons,List.length_nil]
 (repeat' (first|(refine hK _ ?_;clear hK K)|(refine gT ?_;refine aZ ?_)))
 (refine bH (Le.refl _) (aQ (aO ab)) (by (repeat refine bq ab ?_);exact aY _) ab ae ⟨rfl,rfl⟩)
theorem Kq (t:Task) (hw:xY t) (kv:List (Int×Int)) (hkv:yw kv) (xs:List rr) (he:∀ e∈xs,Nj t.facts e) :
  cO Tryz.prog 215 [Ax xs,.fn 175 [.ptr 601 0]] (Nl t kv) [] [600,601] (fun x hp=>x= .int (mc (pJ t kv) xs)∧hp=Nl t kv):=by
 (refine ck Tryz.func215 Tryz.ntmps215 ?_)
 (refine cL (i:=0) rfl (fun hb=>?_);(try simp only [List.length_map] at hb))
 (repeat' (first|(refine hK _ ?_;clear hK K)|(refine aM (fun K hK=>?_))|(refine gR ?_;refine aP ?_)|(refine aN ?_)))
 refine bU [4,5,8,9,10,11,12,13,14,15,16,17,18] (fun k:Nat=>k≤xs.length∧∀ i (hi:i < xs.length),i < k→pJ t kv xs[i]=false) (fun k=>xs.length - k) (fun k=>[(8,.int k)]) (fun _=>[]) 0 ⟨by omega,by omega⟩ ?_ ?_
 ·(refine cm ?_)
  (exact bd)
 ·rintro k ⟨hk,hn⟩ K hK
  (refine cm ?_)
  by_cases hlt:k < xs.length
  ·have c1:=H7 t hw kv hkv xs[k] (he _ (List.getElem_mem hlt))
   cases ho:pJ t kv xs[k] with
   |true=>
    rw [ho] at c1
    (repeat' (first|(refine hK _ ?_;clear hK K)|(refine aM (fun K hK=>?_))|(refine gR ?_;refine aP ?_)|(refine bn (fun K hK=>?_);(refine dQ ab (c1) (by (repeat (first|exact bP|refine bA ab ?_))) (fun _ h=>by cases h) ab (fun x hp' hx=>?_);obtain ⟨rfl,rfl⟩:=hx<;>simp only [go_sem,seval,dj,aV]))|(refine gE ?_;refine dL (fun _=>?_))|(refine gQ ?_;(first|(refine cf ?_)|(refine aS (fun hc=>?_) (fun hc=>?_)<;>(try (first|contradiction|omega)))))|(refine gW ?_;refine bN ?_)|(refine aN ?_)|(refine gT ?_;refine aZ ?_)|(refine gS ?_;refine aX ?_)))
    rw [ib hlt ho hn]
    (refine bH (Le.refl _) (aQ (aO ab)) (by (repeat refine bq ab ?_);exact aY _) ab ae ⟨rfl,rfl⟩)
   |false=>
    rw [ho] at c1
    (repeat' (first|(refine hK _ ?_;clear hK K)|(refine aM (fun K hK=>?_))|(refine gR ?_;refine aP ?_)|(refine bn (fun K hK=>?_);(refine dQ ab (c1) (by (repeat (first|exact bP|refine bA ab ?_))) (fun _ h=>by cases h) ab (fun x hp' hx=>?_);obtain ⟨rfl,rfl⟩:=hx<;>simp only [go_sem,seval,dj,aV]))|(refine gE ?_;(first|(refine cc ?_)|(refine dL (fun _=>?_))))|(refine gQ ?_;(first|(refine bT ?_)|(refine aS (fun hc=>?_) (fun hc=>?_)<;>(try (first|contradiction|omega)))))|(refine gW ?_;refine bN ?_)|(refine aN ?_)|(refine gS ?_;refine aX ?_)))
    refine ⟨k+1,⟨by omega,fq hn fun _=>ho⟩,by omega,?_⟩
    (refine cm ?_)
    (exact bd)
  ·(repeat' (first|(refine hK _ ?_;clear hK K)|(refine aM (fun K hK=>?_))|(refine gR ?_;refine aP ?_)|(refine gQ ?_;refine aS (fun hc=>?_) (fun hc=>?_)<;>(try (first|contradiction|omega)))|(refine gX ?_;refine bV ?_)|(refine gT ?_;refine aZ ?_)|(apply_assumption (exfalso:=false) (symm:=false))))
   rw [fR fun i hi=>hn i hi aj]
   (refine bH (Le.refl _) (aQ (aO ab)) (by (repeat refine bq ab ?_);exact aY _) ab ae ⟨rfl,rfl⟩)
theorem H8 (t:Task) (hw:xY t) (kv:List (Int×Int)) (hkv:yw kv) (xs:List rr) (he:∀ e∈xs,Nj t.facts e) :
  cO Tryz.prog 174 [Ax xs,.fn 175 [.ptr 601 0]] (Nl t kv) [] [600,601] (fun x hp=>x= .bool (xs.any (pJ t kv))∧hp=Nl t kv):=by
 have c1:=Kq t hw kv hkv xs he
 rw [← iI]
 generalize mc (pJ t kv) xs=z at *
 (refine ck Tryz.func174 Tryz.ntmps174 ?_)
 (repeat' (first|(refine hK _ ?_;clear hK K)|(refine aM (fun K hK=>?_))|(refine gR ?_;refine aP ?_)|(refine bn (fun K hK=>?_);(refine bI (c1) (by (repeat (first|exact bP|refine bA ab ?_))) (fun _ h=>by cases h) ab (fun x hp' hx=>?_);obtain ⟨rfl,rfl⟩:=hx<;>simp only [go_sem,seval,dj,aV]))|(refine gW ?_;refine bN ?_)|(refine gT ?_;refine aZ ?_)))
 (refine bH (Le.refl _) (aQ (aO ab)) (by (repeat refine bq ab ?_);exact aY _) ab ae ⟨rfl,rfl⟩)
theorem Kr (t:Task) (hw:xY t) (kv:List (Int×Int)) (hkv:yw kv) (xs:List rr) (he:∀ e∈xs,Nj t.facts e) :
  cO Tryz.prog 124 [.ptr 600 0,Ax xs] (ME t kv) [] [600] (fun x hp=>x= .bool (oM t kv xs)∧hp=ME t kv):=by
 have c1:=H8 t hw kv hkv xs he
 have e:oM t kv xs= !xs.any (pJ t kv):=by
  unfold oM pJ
  rw [List.any_eq_not_all_not,Bool.not_not]
 rw [e]
 generalize xs.any (pJ t kv)=b at *
 (refine ck Tryz.func124 Tryz.ntmps124 ?_)
 (repeat' (refine aM (fun K hK=>?_)))
 refine dG ?_
 refine cp rfl (fun K1 hK1=>?_)
 refine ke (d:=2) 601 ae (.inl rfl) ae ?_
 simp only [go_sem,seval];refine hK1 _ ?_;clear hK1 K1
 refine Cj ?_
 (repeat' (first|(refine hK _ ?_;clear hK K)|(refine aM (fun K hK=>?_))|(refine gW ?_;refine bN ?_)))
 refine dG ?_
 refine cp rfl (fun K1 hK1=>?_)
 refine bK cR ?_
 simp only [go_sem,seval];refine hK1 _ ?_;clear hK1 K1
 refine cp rfl (fun K1 hK1=>?_)
 refine bK cD ?_
 simp only [go_sem,seval];refine hK1 _ ?_;clear hK1 K1
 refine Cj ?_
 (repeat' (first|(refine hK _ ?_;clear hK K)|(refine bn (fun K hK=>?_);(refine bI (c1) (by (repeat (first|exact bP|refine bA ab ?_))) (fun _ h=>by cases h) ab (fun x hp' hx=>?_);obtain ⟨rfl,rfl⟩:=hx<;>simp only [go_sem,seval,dj,aV]))|(refine gW ?_;refine bN ?_)|(refine gT ?_;refine aZ ?_)))
 (refine bH (Le.refl _) (aQ (aO ab)) (by (repeat refine bq ab ?_);exact aY _) ab ae ⟨rfl,rfl⟩)
theorem Ks {t:Task} {l:List rr} {p:Int×Int} (e:iY t l=p):bg Tryz.prog 122 [t.av,Ax l] (fun r=>r=jL p):=by
 have:=Df t l
 rw [e] at this
 exact this
theorem H9 (t:Task) (l:List rr) (hf:iY t l≠(0,0)):bg Tryz.prog 59 [t.av,Ax l] (fun r=>r= .dr [.int 0,.bool false,jL (iY t l)]):=by
 have hac:=Ay hf
 have hv:=Df t l
 (refine bh Tryz.func59 Tryz.ntmps59 ?_)
 (repeat' (first|(refine hK _ ?_;clear hK K)|(refine aM (fun K hK=>?_))|(refine gR ?_;refine aP ?_)|(refine gD 3 ?_;refine fg (.it 0 0 (.it 1 0 (.it 2 0 (.it 3 3 .nil)))) [0,1,2] ?_)|(refine gC 122 ?_;refine bp (hv) ?_)|(refine gO ?_;refine jZ ?_)|(refine gE ?_;refine cc ?_)|(refine gQ ?_;refine aS (fun hc=>?_) (fun hc=>?_)<;>(try (first|contradiction|omega)))|(refine gT ?_;refine aZ ?_)))
 all_goals (refine aT (Le.refl _) (qW (aO ab) (aO ab) (bt (by first|exact bF ab ab ab ab|exact br ab ab ab aq))) af ?_)
 all_goals rfl
theorem Ia {L:Int}:∀ (l:List rr) (kv:List (Int×Int)),(∀ e∈l,Nj L e)→yw kv→yw (lr l kv)
 |[],kv,_,h=>h
 |e::r,kv,he,h=>Ia r _ (fun x hx=>he x (by simp [hx])) fun w v hv=>by
  have h1:=he e ax
  rw [lK] at hv
  split at hv
  ·injection hv with hv
   have:=h1.v1;have:=h1.v2
   omega
  ·exact h w v hv
theorem Oj (t:Task) (l:List rr) (hf:iY t l=(0,0)):bg Tryz.prog 59 [t.av,Ax l]
  (fun r=>r= .dr [.int (if oM t (lr l []) l=true then HX (lr l []) t.init else 0),.bool (oM t (lr l []) l),fault 0 0]):=by
 have hv:=Ks hf
 obtain ⟨hw,hl2,he⟩:=vK hf
 have csp:=H5 t hw
 (refine bh Tryz.func59 Tryz.ntmps59 ?_)
 (repeat' (first|(refine hK _ ?_;clear hK K)|(refine aM (fun K hK=>?_))|(refine fH 4 ab ?_;refine aP ?_)|(refine gC 122 ?_;refine bp (hv) ?_)|(refine gE ?_;refine cc ?_)|(refine gQ ?_;refine bT ?_)|(refine gS ?_;refine aX ?_)))
 (refine cT (bQ 2 rfl rfl rfl) ?_;simp only [go_sem,seval])
 (refine cT (bQ 7 rfl rfl rfl) ?_;simp only [go_sem,seval])
 refine dG ?_
 refine cp rfl (fun K1 hK1=>?_)
 refine bK (oS ab ab (by first|decide|(simp;done))) ?_
 simp only [go_sem,seval];refine hK1 _ ?_;clear hK1 K1
 refine cp rfl (fun K1 hK1=>?_)
 refine bK cR ?_
 simp only [go_sem,seval];refine hK1 _ ?_;clear hK1 K1
 refine cp rfl (fun K0 hK0=>?_)
 (refine nA 1000000001 Tryz.func123 Tryz.ntmps123 aw aw ae ae ae ?_)
 (repeat' (first|(refine hK _ ?_;clear hK K)|(refine aM (fun K hK=>?_))|(refine fH 1 ab ?_;refine aP ?_)|(refine gE ?_;refine cc ?_)))
 (refine cT (bQ 2 rfl rfl rfl) ?_;simp only [go_sem,seval])
 refine dG ?_
 refine cp rfl (fun K1 hK1=>?_)
 refine bK (oS ab ab (by first|decide|(simp;done))) ?_
 simp only [go_sem,seval];refine hK1 _ ?_;clear hK1 K1
 refine cp rfl (fun K1 hK1=>?_)
 refine cH csp ab (fun x hx=>?_);obtain rfl:=hx
 simp only [go_sem,seval];refine hK1 _ ?_;clear hK1 K1
 refine cp rfl (fun K1 hK1=>?_)
 refine jR (d:=10) 2000000001 aw ae aI ?_
 simp only [go_sem,seval];refine hK1 _ ?_;clear hK1 K1
 refine cp rfl (fun K1 hK1=>?_)
 refine bK (qL ab) ?_
 simp only [go_sem,seval];refine hK1 _ ?_;clear hK1 K1
 refine cp rfl (fun K1 hK1=>?_)
 refine ke (d:=12) 600 ae (.inr ⟨_,rfl⟩) ae ?_
 simp only [go_sem,seval];refine hK1 _ ?_;clear hK1 K1
 refine Cj ?_
 (repeat' (first|(refine hK _ ?_;clear hK K)|(refine aM (fun K hK=>?_))|(refine gR ?_;refine aP ?_)|(refine gW ?_;refine bN ?_)|(refine aN ?_)))
 obtain ⟨RR,hRR⟩:∃ r,r=lr l []:=⟨_,rfl⟩
 refine bU [7,15,16,17,18,19,20,21,22,23,24,25,26,27,28] (fun q:Nat×List (Int×Int)=>q.1≤l.length∧lr (l.drop q.1) q.2=RR) (fun q=>l.length - q.1) (fun q=>[(15,.int q.1)]) (fun q=>[(2000000001,⟨1000000000,wM (kI .u32) q.2,false⟩)]) (0,[]) ⟨Nat.zero_le _,by rw [hRR];rfl⟩ ?_ ?_
 ·(refine cm ?_)
  (exact bd)
 ·rintro ⟨k,kv⟩ ⟨hk,hr⟩ K hK
  simp only at hk hr ⊢
  (refine cm ?_)
  by_cases hlt:k < l.length
  ·have hek:=he l[k] (List.getElem_mem hlt)
   have cw:=jW l[k].st t.facts hek.st hw.f1
   rw [List.drop_eq_getElem_cons hlt] at hr
   unfold lr at hr
   (repeat' (first|(refine hK _ ?_;clear hK K)|(refine aM (fun K hK=>?_))|(refine gR ?_;refine aP ?_)|(refine gD 5 ?_;refine fg (.it 0 0 (.it 1 0 (.it 2 0 (.it 3 0 (.it 4 0 (.it 5 0 (.it 7 0 (.it 8 0 (.it 6 1 (.it 9 3 .nil)))))))))) [0,1,2,3,4,5,7,8] ?_)|(refine kK 65 ?_;refine dw (cw) ?_)|(refine gH (fun K hK=>?_);(refine (iE (kt:=131) (kA:=kI .u32) (kv:=kv) (k:=((cY l[k].st:Nat):Int)) ab ab ab ab ?_).1))|(refine gE ?_;(first|(refine cc ?_)|(refine dL (fun _=>?_))))|(refine gQ ?_;refine aS (fun hc=>?_) (fun hc=>?_)<;>(try (first|contradiction|omega)))|(refine kj ?_;refine eK ?_)|(refine aN ?_)|(refine gS ?_;refine aX ?_)))
   refine ⟨(k+1,jt kv ((cY l[k].st:Nat):Int) l[k].val),⟨by simp only;omega,hr⟩,by simp only;omega,?_⟩
   (refine cm ?_)
   (exact bd)
  ·obtain rfl:k=l.length:=by omega
   rw [List.drop_length,lr] at hr
   (repeat' (first|(refine hK _ ?_;clear hK K)|(refine aM (fun K hK=>?_))|(refine gR ?_;refine aP ?_)|(refine gQ ?_;refine aS (fun hc=>?_) (fun hc=>?_)<;>(try (first|contradiction|omega)))|(refine gX ?_;refine bV ?_)|(refine gT ?_;refine aZ ?_)|(apply_assumption (exfalso:=false) (symm:=false))))
   (refine ⟨_,_,_,Le.refl _,(aQ (aO ab)),by rfl,?_⟩;simp only [go_sem,seval])
   refine hK0 _ ?_
   clear hK0
   have ekv:=hr.trans hRR
   have hkv:yw kv:=by rw [ekv];exact Ia l [] he fun w v h=>by simp [lk] at h
   have c1:=Kr t hw kv hkv l he
   have cst:=E0 t
   cases hh:oM t kv l with
   |false=>
    rw [hh] at c1
    refine Cj ?_
    (repeat' (first|(refine hK _ ?_;clear hK K)|(refine aM (fun K hK=>?_))|(refine gR ?_;refine aP ?_)|(refine bn (fun K hK=>?_);(refine bI (c1) (by (repeat (first|exact bP|refine bA ab ?_))) (fun _ h=>by cases h) ab (fun x hp' hx=>?_);obtain ⟨rfl,rfl⟩:=hx<;>simp only [go_sem,seval,dj,aV]))|(refine gE ?_;refine cc ?_)|(refine gQ ?_;refine cf ?_)|(refine gW ?_;refine bN ?_)|(refine gT ?_;refine aZ ?_)|(apply_assumption (exfalso:=false) (symm:=false))))
    (refine aT (Le.refl _) (qW (aO ab) (aO ab) (bt (by first|exact bF ab ab ab ab|exact br ab ab ab aq))) af ?_)
    rw [← ekv,hh,if_neg ax]
    rfl
   |true=>
    rw [hh] at c1
    refine Cj ?_
    (repeat' (first|(refine hK _ ?_;clear hK K)|(refine aM (fun K hK=>?_))|(refine gR ?_;refine aP ?_)|(refine gD 7 ?_;refine fg (.it 0 0 (.it 1 0 (.it 2 0 (.it 3 0 (.it 4 0 (.it 5 0 (.it 6 0 (.it 7 0 (.it 10 0 (.it 8 1 (.it 9 1 (.it 11 0 (.it 12 0 (.it 13 3 .nil)))))))))))))) [0,1,2,3,4,5,6,7,10,11,12] ?_)|(refine kK 125 ?_;refine dw (cst) ?_)|(refine bn (fun K hK=>?_);(refine bI (c1) (by (repeat (first|exact bP|refine bA ab ?_))) (fun _ h=>by cases h) ab (fun x hp' hx=>?_);obtain ⟨rfl,rfl⟩:=hx<;>simp only [go_sem,seval,dj,aV]))|(refine dk (fun K hK=>?_);(refine eu (FU (kt:=131) (kA:=kI .u32) (kv:=kv) (k:=((cY t.init:Nat):Int)) ab ab ab).1 ?_))|(refine gO ?_;refine jZ ?_)|(refine gE ?_;refine cc ?_)|(refine gQ ?_;refine bT ?_)|(refine kj ?_;refine eK ?_)|(refine gW ?_;refine bN ?_)|(refine gT ?_;refine aZ ?_)|(refine gS ?_;refine aX ?_)|(apply_assumption (exfalso:=false) (symm:=false))))
    (refine aT (Le.refl _) (qW (aO ab) (aO ab) (bt (by first|exact bF ab ab ab ab|exact br ab ab ab aq))) af ?_)
    rw [← ekv,hh,if_pos rfl]
    rfl
end Go.Proofs.YtkbiagkbmodgdaaGreat
namespace Go.Proofs.YtkbiagkbmodgdaaGreat
open Go.Ab
open Go
set_option maxRecDepth 10000
set_option maxHeartbeats 8000000
structure xX where
 found:Bool
 steps:List bB
 cost:Int
 bound:List rr
 never:List SSet
abbrev xX.cs (a:xX):List AV:=[.bool a.found,cZ a.steps,.int a.cost,Ax a.bound,Aw a.never]
abbrev xX.av (a:xX):AV:=.agg a.cs
def Dg (x y:bB):Bool:=decide (x.p=y.p)&&decide (x.a=y.a)
def Dh (g:yr) (x:bB):Int:=mc (Dg x) g.ins
def xo (g:yr) (l:List bB):List Int:=l.map (Dh g)
def Di (g:yr) (a:xX):Prop:=
 iY g.t a.bound=(0,0)∧oM g.t (lr a.bound []) a.bound=true∧kY g.t g.t.init (ju (xo g a.steps))=true∧a.cost=fA g.t (ju (xo g a.steps))∧HX (lr a.bound []) g.t.init=fA g.t (ju (xo g a.steps))
instance (g:yr) (a:xX):Decidable (Di g a):=inferInstanceAs (Decidable (_∧_∧_∧_∧_))
def mX (g:yr) (a:xX):Bool:=decide (a.steps.length≤60∧a.never.length=0∧(∀ x∈a.steps,0≤Dh g x)∧Di g a)
def pM (g:yr) (a:xX):Bool:=decide (a.steps.length=0∧a.bound.length=0∧a.cost=0)&&(decide (jq g.t a.never=(0,0))&&td g.t a.never)
def we (g:yr) (a:xX):Bool:=if a.found=true then mX g a else pM g a
theorem Az {g:yr} {a b:xX} (ha:mX g a=true) (hb:mX g b=true):a.cost≤b.cost:=by
 obtain ⟨_,_,_,h1,h2,h3,h4,h5⟩:=of_decide_eq_true ha
 obtain ⟨_,_,_,k1,k2,k3,k4,k5⟩:=of_decide_eq_true hb
 obtain ⟨hw,_,he⟩:=vK h1
 have:=vJ hw (fun e he'=>(he e he').st) h2 _ _ hw.init (vG.1 k3)
 omega
theorem vM {g:yr} {a b:xX} (ha:mX g a=true) (hb:pM g b=true):False:=by
 obtain ⟨_,_,_,h1,h2,h3,h4,h5⟩:=of_decide_eq_true ha
 rw [pM,Bool.and_eq_true,Bool.and_eq_true] at hb
 obtain ⟨hw,_,he⟩:=Dd (of_decide_eq_true hb.2.1)
 exact BM hw he hb.2.2 _ (vG.1 h3)
theorem vN {g:yr} {a:xX} (h:pM g a=true):a.cost=0:=by
 rw [pM,Bool.and_eq_true] at h
 exact (of_decide_eq_true h.1).2.2
theorem Jm {g:yr} {a b:xX} (ha:we g a=true) (hb:we g b=true):a.found=b.found∧a.cost=b.cost:=by
 rw [we] at ha hb
 cases h1:a.found with
 |true=>
  rw [h1,if_pos rfl] at ha
  cases h2:b.found with
  |true=>
   rw [h2,if_pos rfl] at hb
   exact ⟨rfl,Int.le_antisymm (Az ha hb) (Az hb ha)⟩
  |false=>
   rw [h2,if_neg aw] at hb
   exact (vM ha hb).elim
 |false=>
  rw [h1,if_neg aw] at ha
  cases h2:b.found with
  |true=>
   rw [h2,if_pos rfl] at hb
   exact (vM hb ha).elim
  |false=>
   rw [h2,if_neg aw] at hb
   exact ⟨rfl,by rw [vN ha,vN hb]⟩
end Go.Proofs.YtkbiagkbmodgdaaGreat
namespace Go.Proofs.YtkbiagkbmodgdaaGreat
open Go.Ab
open Go
set_option maxRecDepth 10000
attribute [local irreducible] dE fh mC lW db PV eR ef AW bg dn ec dP cO Ab.Fin ft en gI iO RV jX Le eI fM mg gV kf dz dg
set_option maxHeartbeats 8000000
attribute [local go_sem] fp jH iW
theorem E2 (a b:List Int):bg Tryz.prog 86 [ints a,ints b] (fun r=>r= .bool (decide (a=b))):=by
 (refine bh Tryz.func86 Tryz.ntmps86 ?_)
 (refine cL (i:=0) rfl (fun hbd=>?_);(try simp only [List.length_map] at hbd))
 by_cases hl:a.length=b.length
 ·(repeat' (first|(refine hK _ ?_;clear hK K)|(refine aM (fun K hK=>?_))|(refine gR ?_;refine aP ?_)|(refine gQ ?_;refine aS (fun hc=>?_) (fun hc=>?_)<;>(try (first|contradiction|omega)))|(refine aN ?_)|(refine gS ?_;refine aX ?_)))
  refine bO [4,5,13,14,15,16,17,18,19,20,21,22,23,24,25] (fun k:Nat=>k≤a.length∧a.take k=b.take k) (fun k=>a.length - k) (fun k=>[(13,.int k)]) (fun _=>[]) 0 ax ?_ ?_
  ·(refine cm ?_)
   (exact bd)
  ·rintro k ⟨hk,he⟩ K hK
   (refine cm ?_)
   by_cases hlt:k < a.length
   ·have hlb:k < b.length:=by omega
    (repeat' (first|(refine hK _ ?_;clear hK K)|(refine aM (fun K hK=>?_))|(refine gR ?_;refine aP ?_)|(refine gD 6 ?_;refine fg (.it 0 0 (.it 1 0 (.it 2 0 (.it 3 0 (.it 4 0 (.it 5 0 (.it 6 0 (.it 7 0 (.it 8 0 .nil))))))))) [0,1,2,3,4,5,6,7,8] ?_)|(refine gE ?_;(first|(refine cc ?_)|(refine dL (fun _=>?_))))|(refine gQ ?_;refine aS (fun hc=>?_) (fun hc=>?_)<;>(try (first|contradiction|omega)))|(refine aN ?_)|(refine gT ?_;refine aZ ?_)|(refine gS ?_;refine aX ?_)))
    ·(refine aT (Le.refl _) (aQ (aO ab)) af ?_)
     rw [decide_eq_false]
     rintro rfl
     simp_all
    ·refine ⟨k+1,⟨by omega,?_⟩,by omega,?_⟩
     ·rw [List.take_succ_eq_append_getElem hlt,List.take_succ_eq_append_getElem hlb,he]
      simp_all
     ·(refine cm ?_)
      (exact bd)
   ·obtain rfl:k=a.length:=by omega
    (repeat' (first|(refine hK _ ?_;clear hK K)|(refine aM (fun K hK=>?_))|(refine gR ?_;refine aP ?_)|(refine gQ ?_;refine aS (fun hc=>?_) (fun hc=>?_)<;>(try (first|contradiction|omega)))|(refine gX ?_;refine bV ?_)|(refine gT ?_;refine aZ ?_)|(apply_assumption (exfalso:=false) (symm:=false))))
    (refine aT (Le.refl _) (aQ (aO ab)) af ?_)
    rw [decide_eq_true]
    rw [List.take_length] at he
    rw [he,List.take_of_length_le aj]
 ·(repeat' (first|(refine hK _ ?_;clear hK K)|(refine aM (fun K hK=>?_))|(refine gR ?_;refine aP ?_)|(refine gQ ?_;refine aS (fun hc=>?_) (fun hc=>?_)<;>(try (first|contradiction|omega)))|(refine gT ?_;refine aZ ?_)))
  (refine aT (Le.refl _) (aQ (aO ab)) af ?_)
  rw [decide_eq_false]
  rintro rfl
  exact hl rfl
theorem Ib (x:bB) (l:List bB):dt 85 [.bx (jO x)] bB.av (Dg x) l:=by
 intro y hy
 obtain ⟨p,a⟩:=x
 obtain ⟨q,b⟩:=y
 simp only [Dg]
 by_cases h1:p=q
 ·subst h1
  simp only [decide_true,Bool.true_and]
  (refine bh Tryz.func85 Tryz.ntmps85 ?_)
  (repeat' (first|(refine hK _ ?_;clear hK K)|(refine aM (fun K hK=>?_))|(refine gR ?_;refine aP ?_)|(refine gC 86 ?_;refine bp (E2 _ _) ?_)|(refine gE ?_;refine cc ?_)|(refine gG ?_;refine cB (fun hc=>?_) (fun hc=>?_)<;>(try (first|contradiction|omega)))|(refine gT ?_;refine aZ ?_)))
  (refine aT (Le.refl _) (aQ (aO ab)) af ?_)
  rfl
 ·simp only [h1,decide_false,Bool.false_and]
  (refine bh Tryz.func85 Tryz.ntmps85 ?_)
  (repeat' (first|(refine hK _ ?_;clear hK K)|(refine aM (fun K hK=>?_))|(refine gR ?_;refine aP ?_)|(refine gG ?_;refine cB (fun hc=>?_) (fun hc=>?_)<;>(try (first|contradiction|omega)))|(refine gT ?_;refine aZ ?_)))
  (refine aT (Le.refl _) (aQ (aO ab)) af ?_)
  rfl
theorem Kt (xs:List bB) (f:FuncId) [cS Tryz.prog f] (caps:List AV) (hcap:AV.cj caps=true) (p:bB→Bool) (h:dt f caps bB.av p xs):bg Tryz.prog 84 [cZ xs,.fn f caps] (fun r=>r= .int (mc p xs)):=by
 (refine bh Tryz.func84 Tryz.ntmps84 ?_)
 (refine cL (i:=0) rfl (fun hb=>?_);(try simp only [List.length_map] at hb))
 (repeat' (first|(refine hK _ ?_;clear hK K)|(refine aM (fun K hK=>?_))|(refine gR ?_;refine aP ?_)|(refine aN ?_)))
 refine bO [4,5,8,9,10,11,12,13,14,15,16,17,18] (fun k:Nat=>k≤xs.length∧∀ i (hi:i < xs.length),i < k→p xs[i]=false) (fun k=>xs.length - k) (fun k=>[(8,.int k)]) (fun _=>[]) 0 ⟨by omega,by omega⟩ ?_ ?_
 ·(refine cm ?_)
  (exact bd)
 ·rintro k ⟨hk,hn⟩ K hK
  (refine cm ?_)
  by_cases hlt:k < xs.length
  ·(repeat' (first|(refine hK _ ?_;clear hK K)|(refine aM (fun K hK=>?_))|(refine gR ?_;refine aP ?_)|(refine bn (fun K hK=>?_);refine gA ab (h xs[k] (List.getElem_mem hlt)) (by simp [cn,St.eval,AV.cj,AV.fm,hcap]) (fun x hx=>?_);subst hx)|(refine gE ?_;(first|(refine cc ?_)|(refine dL (fun _=>?_))))|(refine gQ ?_;refine aS (fun hc=>?_) (fun hc=>?_)<;>(try (first|contradiction|omega)))|(refine gW ?_;refine bN ?_)|(refine aN ?_)|(refine gT ?_;refine aZ ?_)|(refine gS ?_;refine aX ?_)))
   ·(refine aT (Le.refl _) (aQ (aO ab)) af ?_)
    rw [ib hlt hc hn]
   ·refine ⟨k+1,⟨by omega,fq hn fun _=>hc⟩,by omega,?_⟩
    (refine cm ?_)
    (exact bd)
  ·(repeat' (first|(refine hK _ ?_;clear hK K)|(refine aM (fun K hK=>?_))|(refine gR ?_;refine aP ?_)|(refine gQ ?_;refine aS (fun hc=>?_) (fun hc=>?_)<;>(try (first|contradiction|omega)))|(refine gX ?_;refine bV ?_)|(refine gT ?_;refine aZ ?_)|(apply_assumption (exfalso:=false) (symm:=false))))
   (refine aT (Le.refl _) (aQ (aO ab)) af ?_)
   rw [fR fun i hi=>hn i hi aj]
theorem Ku (g:yr) (x:bB):bg Tryz.prog 32 [g.av,x.av] (fun r=>r= .int (Dh g x)):=by
 have hi:=Kt g.ins 85 [.bx (jO x)] rfl (Dg x) (Ib x g.ins)
 (refine bh Tryz.func32 Tryz.ntmps32 ?_)
 (repeat' (first|(refine hK _ ?_;clear hK K)|(refine aM (fun K hK=>?_))|(refine gR ?_;refine aP ?_)|(refine gC 84 ?_;refine bp (hi) ?_)|(refine bn (fun K hK=>?_);refine fD (bQ 3 rfl rfl rfl) ?_;simp only [go_sem,seval];refine bK cD ?_)|(refine gE ?_;refine cc ?_)|(refine gW ?_;refine bN ?_)|(refine gT ?_;refine aZ ?_)))
 (refine aT (Le.refl _) (aQ (aO ab)) af ?_)
 rfl
theorem Dj (g:yr) (x:bB):-1≤Dh g x∧Dh g x < g.ins.length:=by
 unfold Dh mc
 split
 ·rename_i i h
  rw [List.findIdx?_eq_some_iff_getElem] at h
  obtain ⟨h1,_⟩:=h
  omega
 ·omega
theorem AA {t:Task} (hc:∀ o∈t.ops,0≤o.cost∧o.cost≤100):∀ (plan:List Nat),0≤fA t plan∧fA t plan≤100 * plan.length
 |[]=>by simp [fA]
 |i::r=>by
  have:=AA hc r
  rw [fA,List.length_cons]
  cases hi:t.ops[i]? with
  |none=>simp only [hi];omega
  |some o=>
   have:=hc o (List.mem_of_getElem? hi)
   simp only [hi];omega
theorem E3 (g:yr) (a:xX) (hcst:∀ o∈g.t.ops,0≤o.cost∧o.cost≤100) (hlen:g.ins.length=g.t.ops.length):bg Tryz.prog 23 [g.av,a.av] (fun r=>r= .bool (mX g a)):=by
 obtain ⟨fd,st,co,bo,ne⟩:=a
 by_cases hL:st.length≤60
 ·by_cases hN:ne.length=0
  ·have hpb:mX g ⟨fd,st,co,bo,ne⟩=decide ((∀ x∈st,0≤Dh g x)∧Di g ⟨fd,st,co,bo,ne⟩):=by simp only [mX,hL,hN,true_and]
   obtain ⟨PL,hPl,hPg,hpr⟩:∃ PL:List Int,PL.length=st.length∧(∀ k (hk:k < st.length) (h2:k < PL.length),PL[k]=Dh g st[k])∧
     Di g ⟨fd,st,co,bo,ne⟩=(iY g.t bo=(0,0)∧oM g.t (lr bo []) bo=true∧kY g.t g.t.init (ju PL)=true∧co=fA g.t (ju PL)∧HX (lr bo []) g.t.init=fA g.t (ju PL)):=
    ⟨xo g st,by simp [xo],fun k hk h2=>by simp [xo],rfl⟩
   obtain ⟨B,hB⟩:∃ B,B=mX g ⟨fd,st,co,bo,ne⟩:=⟨_,rfl⟩
   have hBi:B=true↔(∀ x∈st,0≤Dh g x)∧iY g.t bo=(0,0)∧oM g.t (lr bo []) bo=true∧kY g.t g.t.init (ju PL)=true∧co=fA g.t (ju PL)∧HX (lr bo []) g.t.init=fA g.t (ju PL):=by rw [hB,hpb,decide_eq_true_iff,hpr]
   rw [← hB]
   clear hB hpb hpr
   (refine bh Tryz.func23 Tryz.ntmps23 ?_)
   (repeat' (first|(refine hK _ ?_;clear hK K)|(refine aM (fun K hK=>?_))|(refine fH 5 ab ?_;refine aP ?_)|(refine gE ?_;refine cc ?_)|(refine gG ?_;refine cB (fun hc=>?_) (fun hc=>?_)<;>(try (first|contradiction|omega)))|(refine gQ ?_;refine aS (fun hc=>?_) (fun hc=>?_)<;>(try (first|contradiction|omega)))|(refine gS ?_;refine aX ?_)))
   (refine j1 5 105 1 8 3 ?_)
   (repeat' (first|(refine hK _ ?_;clear hK K)|(refine fH 6 ab ?_;refine aP ?_)|(refine gE ?_;refine cc ?_)|(refine aN ?_)))
   refine bU (5::6::[4,5,6,8,9,26,27,28,29,30,31,32,33,34,35,36,37,38,39,40,41,42,43,44,45,46,47,48]) (fun k:Nat=>k≤st.length∧∀ i (hi:i < st.length),i < k→0≤Dh g st[i]) (fun k=>st.length - k) (fun k=>[(26,.int k),(5,.sl 1 8 105 0 k),(6,.int (fA g.t (ju (PL.take k))))]) (fun k=>[(105,⟨3,(PL.take k).map AV.int,false⟩)]) 0 ⟨by omega,by omega⟩ ?_ ?_
   ·rw [List.take_zero]
    (refine cm ?_)
    (exact bd)
   ·rintro k ⟨hk,hn⟩ K hK
    (refine cm ?_)
    have hpt:(PL.take k).length=k:=by rw [List.length_take];omega
    by_cases hlt:k < st.length
    ·have hf:=Ku g st[k]
     have hrg:=Dj g st[k]
     by_cases h0:0≤Dh g st[k]
     ·obtain ⟨j,hj⟩:∃ j:Nat,Dh g st[k]=(j:Int):=⟨(Dh g st[k]).toNat,(Int.toNat_of_nonneg h0).symm⟩
      have hjl:j < g.t.ops.length:=by omega
      have hkP:k < PL.length:=by omega
      have hpk:PL[k]=(j:Int):=by rw [hPg k hlt hkP,hj]
      have hcs:=EW (t:=g.t) (plan:=PL) (k:=k) hkP (by rw [hpk];omega)
      simp only [hpk,Int.toNat_natCast] at hcs
      have hst:PL.take (k+1)=PL.take k++[(j:Int)]:=by rw [List.take_succ_eq_append_getElem hkP,hpk]
      have hcj:=hcst g.t.ops[j] (List.getElem_mem hjl)
      have hbd:=AA hcst (ju (PL.take k))
      rw [ju,List.length_map,hpt] at hbd
      rw [← ju] at hbd
      rw [hj] at hf
      (repeat' (first|(refine hK _ ?_;clear hK K)|(refine aM (fun K hK=>?_))|(refine gR ?_;refine aP ?_)|(refine gC 32 ?_;refine bp (hf) ?_)|(refine bn (fun K hK=>?_);refine cF ?_)|(refine gE ?_;(first|(refine cc ?_)|(refine dL (fun _=>?_))))|(refine gQ ?_;(first|(refine bT ?_)|(refine aS (fun hc=>?_) (fun hc=>?_)<;>(try (first|contradiction|omega)))))|(refine gW ?_;refine bN ?_)|(refine aN ?_)|(refine gS ?_;refine aX ?_)))
      refine ⟨k+1,⟨by omega,fq hn fun _=>h0⟩,by omega,?_⟩
      rw [hcs,hst,List.map_append]
      (refine cm ?_)
      (exact bd)
     ·
      (repeat' (first|(refine hK _ ?_;clear hK K)|(refine aM (fun K hK=>?_))|(refine gR ?_;refine aP ?_)|(refine gC 32 ?_;refine bp (hf) ?_)|(refine gE ?_;(first|(refine cc ?_)|(refine dL (fun _=>?_))))|(refine gQ ?_;refine aS (fun hc=>?_) (fun hc=>?_)<;>(try (first|contradiction|omega)))|(refine aN ?_)|(refine gT ?_;refine aZ ?_)|(refine gS ?_;refine aX ?_)))
      (refine aT (Le.refl _) (aQ (aO ab)) af ?_)
      rw [show B=false from Bool.eq_false_iff.2 fun h=>h0 ((hBi.1 h).1 _ (List.getElem_mem hlt))]
    ·obtain rfl:k=st.length:=by omega
     have hall:∀ x∈st,0≤Dh g x:=fun x hx=>by
      obtain ⟨i,hi,rfl⟩:=List.mem_iff_getElem.1 hx
      exact hn i hi hi
     have hin:Da g.t PL:=fun x hx=>by
      obtain ⟨i,hi,rfl⟩:=List.mem_iff_getElem.1 hx
      have h1:=hPg i aj hi
      have h2:=Dj g st[i]
      have h3:=hall _ (List.getElem_mem (show i < st.length by omega))
      rw [h1];omega
     rw [show PL.take st.length=PL from List.take_of_length_le aj,← hPl]
     (repeat' (first|(refine hK _ ?_;clear hK K)|(refine aM (fun K hK=>?_))|(refine fH 14 ab ?_;refine aP ?_)|(refine gQ ?_;refine aS (fun hc=>?_) (fun hc=>?_)<;>(try (first|contradiction|omega)))|(refine gX ?_;refine bV ?_)|(apply_assumption (exfalso:=false) (symm:=false))))
     (refine cT (sq 105 PL.length PL ab aJ) ?_;simp only [go_sem,seval])
     by_cases hf:iY g.t bo=(0,0)
     ·have hlb:=Oj g.t bo hf
      have hw:=(vK hf).1
      have hwk:=HV g.t g.t.init PL hw hw.init hin aj
      cases hh:oM g.t (lr bo []) bo with
      |false=>
       have hBf:B=false:=Bool.eq_false_iff.2 fun h=>by rw [hh] at hBi;exact absurd (hBi.1 h).2.2.1 aw
       rw [hh,if_neg aw] at hlb
       (repeat' (first|(refine hK _ ?_;clear hK K)|(refine aM (fun K hK=>?_))|(refine gR ?_;refine aP ?_)|(refine gC 59 ?_;refine bp (hlb) ?_)|(refine gE ?_;refine cc ?_)|(refine gT ?_;refine aZ ?_)))
       all_goals (refine aT (Le.refl _) (aQ (aO ab)) af ?_)
       all_goals rw [hBf]
      |true=>
       rw [hh,if_pos rfl] at hlb
       cases hwb:kY g.t g.t.init (ju PL) with
       |false=>
        have hBf:B=false:=Bool.eq_false_iff.2 fun h=>by rw [hwb] at hBi;exact absurd (hBi.1 h).2.2.2.1 aw
        rw [hwb] at hwk
        (repeat' (first|(refine hK _ ?_;clear hK K)|(refine aM (fun K hK=>?_))|(refine gR ?_;refine aP ?_)|(refine gC 59 ?_;refine bp (hlb) ?_)|(refine gC 60 ?_;refine bp (hwk) ?_)|(refine gE ?_;refine cc ?_)|(refine gT ?_;refine aZ ?_)))
        all_goals (refine aT (Le.refl _) (aQ (aO ab)) af ?_)
        all_goals rw [hBf]
       |true=>
        rw [hwb] at hwk
        generalize fA g.t (ju PL)=cs at *
        generalize HX (lr bo []) g.t.init=av at *
        have hBe:B=(decide (co=cs)&&decide (av=cs)):=by
         rw [Bool.eq_iff_iff,hBi,Bool.and_eq_true,decide_eq_true_iff,decide_eq_true_iff]
         exact ⟨fun h=>h.2.2.2.2,fun h=>⟨hall,hf,hh,hwb,h⟩⟩
        (repeat' (first|(refine hK _ ?_;clear hK K)|(refine aM (fun K hK=>?_))|(refine gR ?_;refine aP ?_)|(refine gC 59 ?_;refine bp (hlb) ?_)|(refine gC 60 ?_;refine bp (hwk) ?_)|(refine gE ?_;refine cc ?_)|(refine gG ?_;refine cB (fun hc=>?_) (fun hc=>?_)<;>(try (first|contradiction|omega)))|(refine gT ?_;refine aZ ?_)))
        all_goals (refine aT (Le.refl _) (aQ (aO ab)) af ?_)
        all_goals (rw [hBe];simp [*,JN])
     ·have hlb:=H9 g.t bo hf
      have hac:=Ay hf
      have hBf:B=false:=Bool.eq_false_iff.2 fun h=>hf (hBi.1 h).2.1
      (repeat' (first|(refine hK _ ?_;clear hK K)|(refine aM (fun K hK=>?_))|(refine gR ?_;refine aP ?_)|(refine gC 59 ?_;refine bp (hlb) ?_)|(refine gE ?_;refine cc ?_)|(refine gG ?_;refine cB (fun hc=>?_) (fun hc=>?_)<;>(try (first|contradiction|omega)))|(refine gT ?_;refine aZ ?_)))
      all_goals (refine aT (Le.refl _) (aQ (aO ab)) af ?_)
      all_goals rw [hBf]
  ·have hpb:mX g ⟨fd,st,co,bo,ne⟩=false:=by simp [mX,hN]
   rw [hpb]
   (refine bh Tryz.func23 Tryz.ntmps23 ?_)
   (repeat' (first|(refine hK _ ?_;clear hK K)|(refine aM (fun K hK=>?_))|(refine gR ?_;refine aP ?_)|(refine gE ?_;refine cc ?_)|(refine gG ?_;refine cB (fun hc=>?_) (fun hc=>?_)<;>(try (first|contradiction|omega)))|(refine gQ ?_;refine aS (fun hc=>?_) (fun hc=>?_)<;>(try (first|contradiction|omega)))|(refine gT ?_;refine aZ ?_)))
   (refine aT (Le.refl _) (aQ (aO ab)) af ?_)
   rfl
 ·have hpb:mX g ⟨fd,st,co,bo,ne⟩=false:=by simp [mX];omega
  rw [hpb]
  (refine bh Tryz.func23 Tryz.ntmps23 ?_)
  (repeat' (first|(refine hK _ ?_;clear hK K)|(refine aM (fun K hK=>?_))|(refine gR ?_;refine aP ?_)|(refine gE ?_;refine cc ?_)|(refine gG ?_;refine cB (fun hc=>?_) (fun hc=>?_)<;>(try (first|contradiction|omega)))|(refine gQ ?_;refine cf ?_)|(refine gT ?_;refine aZ ?_)))
  (refine aT (Le.refl _) (aQ (aO ab)) af ?_)
  rfl
theorem zK {p:Int×Int} (h:p≠(0,0)):p.1≠0∨p.2≠0:=by
 obtain ⟨a,b⟩:=p
 by_cases h1:a=0
 ·refine .inr fun h2=>h ?_
  simp only at h2
  rw [h1,h2]
 ·exact .inl h1
theorem AB (d:dB) (h:lq d≠(0,0)):bg Tryz.prog 107 [d.av] (fun r=>r= .dr [.fS,jL (lq d)]):=by
 have hac:=zK h
 have hdv:=GI d
 generalize lq d=p at *
 (refine bh Tryz.func107 Tryz.ntmps107 ?_)
 (repeat' (first|(refine hK _ ?_;clear hK K)|(refine aM (fun K hK=>?_))|(refine gR ?_;refine aP ?_)|(refine gD 3 ?_;refine wx (s1:=?_) (.oh 0 1 1 3 (.it 1 3 (.it 2 3 .nil)) (.it 0 1 (.it 2 3 .nil))) [] ?_ ?_;rotate_left)|(refine gC 157 ?_;refine bp (hdv) ?_)|(refine And.intro ?_ ?_)|(refine tO ?_;refine ko ?_)|(refine gO ?_;refine jZ ?_)|(refine gL ?_;(first|exact Le.refl _|exact bd))|(refine gE ?_;refine cc ?_)|(refine gQ ?_;refine aS (fun hc=>?_) (fun hc=>?_)<;>(try (first|contradiction|omega)))|(refine gT ?_;refine aZ ?_)))
 all_goals (refine aT (Le.refl _) (dx (bt (by first|exact bF ab ab ab ab|exact br ab ab ab aq)) (bt (by first|exact bF ab ab ab ab|exact br ab ab ab aq))) af ?_)
 all_goals rfl
theorem AD (d:dB) (h:lq d≠(0,0)):bg Tryz.prog 49 [d.av] (fun r=>r= .dr [.v (.pointer none),jL (lq d)]):=by
 have hac:=zK h
 have hdv:=AB d h
 generalize lq d=p at *
 (refine bh Tryz.func49 Tryz.ntmps49 ?_)
 (repeat' (first|(refine hK _ ?_;clear hK K)|(refine aM (fun K hK=>?_))|(refine gR ?_;refine aP ?_)|(refine gD 3 ?_;refine fg (.it 0 0 (.it 1 0 (.it 2 3 .nil))) [0,1] ?_)|(refine gC 107 ?_;refine bp (hdv) ?_)|(refine gO ?_;refine jZ ?_)|(refine gE ?_;refine cc ?_)|(refine gQ ?_;refine aS (fun hc=>?_) (fun hc=>?_)<;>(try (first|contradiction|omega)))|(refine gT ?_;refine aZ ?_)))
 all_goals (refine aT (Le.refl _) (dx (aO ab) (bt (by first|exact bF ab ab ab ab|exact br ab ab ab aq))) af ?_)
 all_goals rfl
theorem AE (d:dB) (h:lq d≠(0,0)):bg Tryz.prog 22 [d.av] (fun r=>r= .dr [xh,jL (lq d)]):=by
 have hac:=zK h
 have hdv:=AD d h
 generalize lq d=p at *
 (refine bh Tryz.func22 Tryz.ntmps22 ?_)
 (repeat' (first|(refine hK _ ?_;clear hK K)|(refine aM (fun K hK=>?_))|(refine gR ?_;refine aP ?_)|(refine gD 3 ?_;refine wx (s1:=?_) (.it 0 0 (.oh 1 1 2 3 (.it 2 3 (.it 3 3 .nil)) (.it 1 1 (.it 3 3 .nil)))) [0] ?_ ?_;rotate_left)|(refine gC 49 ?_;refine bp (hdv) ?_)|(refine And.intro ?_ ?_)|(refine tO ?_;refine ko ?_)|(refine gO ?_;refine jZ ?_)|(refine gL ?_;(first|exact Le.refl _|exact bd))|(refine gE ?_;refine cc ?_)|(refine gQ ?_;refine aS (fun hc=>?_) (fun hc=>?_)<;>(try (first|contradiction|omega)))|(refine gT ?_;refine aZ ?_)))
 all_goals (refine aT (Le.refl _) (dx (bt (by first|exact bF ab ab ab ab|exact br ab ab ab aq)) (bt (by first|exact bF ab ab ab ab|exact br ab ab ab aq))) af ?_)
 all_goals rfl
def Dk (d:dB):Prop:=(rY d d.cC.length).length≤400∧(qx d).length≤24∧(tp d).length≤40
instance (d:dB):Decidable (Dk d):=inferInstanceAs (Decidable (_∧_∧_))
def E9 (d:dB):yr:=Mv d (qx d) (tp d)
def Ex (d:dB):Int×Int:=if lq d≠(0,0) then lq d else if Dk d then (0,0) else (10,-8)
def Ol (d:dB):AV:=if Ex d=(0,0) then .dr [(E9 d).av,fault 0 0] else .dr [xh,jL (Ex d)]
theorem xp (d:dB):bg Tryz.prog 22 [d.av] (fun r=>r=Ol d):=by
 unfold Ol Ex
 by_cases hv:lq d=(0,0)
 ·have h:=HT d hv
  simp only [hv,ne_eq,not_true_eq_false,if_false]
  by_cases hf:Dk d
  ·simp only [hf,if_true]
   rwa [yt,if_pos hf.1,kW,if_pos hf.2] at h
  ·simp only [hf,if_false]
   rw [if_neg aw]
   rw [yt] at h
   by_cases h1:(rY d d.cC.length).length≤400
   ·rwa [if_pos h1,kW,if_neg (fun h2=>hf ⟨h1,h2⟩)] at h
   ·rwa [if_neg h1] at h
 ·have h:=AE d hv
  simp only [hv,ne_eq,not_false_eq_true,if_true,if_false]
  exact h
theorem MF {d:dB} (h:Ex d=(0,0)):lq d=(0,0)∧Dk d:=by
 unfold Ex at h
 split at h
 ·rename_i h1;exact absurd h h1
 ·rename_i h1
  split at h
  ·rename_i h2;exact ⟨Classical.not_not.1 h1,h2⟩
  ·cases h
theorem AF {α:Type} [Inhabited α] {l:List α} {p:Nat→Bool} {x:α}:∀ {k:Nat},k≤l.length→x∈me l p k→x∈l
 |0,_,h=>by cases h
 |k+1,hk,h=>by
  rw [me,List.mem_append] at h
  rcases h with h|h
  ·exact AF aj h
  ·split at h
   ·rw [List.mem_singleton] at h
    rw [h,bY (show k < l.length by omega)]
    exact List.getElem_mem _
   ·cases h
theorem xq {d:dB} (hD:JD d) {x:Act}:∀ {k:Nat},k≤d.eh.length→x∈pq d k→0≤x.cost∧x.cost≤100
 |0,_,h=>by cases h
 |k+1,hk,h=>by
  rw [sK,List.mem_append] at h
  rcases h with h|h
  ·exact xq hD aj h
  ·rw [List.mem_flatMap] at h
   obtain ⟨args,_,h⟩:=h
   have hs:=hD.Mc d.eh[k] (List.getElem_mem aj)
   rw [bY (show k < d.eh.length by omega),wh] at h
   split at h
   ·cases h
   ·split at h
    ·cases h
    ·rw [List.mem_singleton] at h
     rw [h];exact ⟨hs.c0,hs.c1⟩
theorem Ic {d:dB} (h:Ex d=(0,0)):∀ o∈(E9 d).t.ops,0≤o.cost∧o.cost≤100:=by
 intro o ho
 have ho2:o∈(tp d).map (Is (qx d)):=ho
 obtain ⟨x,hx,rfl⟩:=List.mem_map.1 ho2
 exact xq (GU (MF h).1) (Nat.le_refl _) (AF (l:=mW d) (Nat.le_refl _) hx)
theorem Kv (d:dB):(E9 d).ins.length=(E9 d).t.ops.length:=by
 show ((tp d).map rS).length=((tp d).map (Is (qx d))).length
 rw [List.length_map,List.length_map]
def uY (d:dB) (a:xX):AV:=if Ex d=(0,0) then .dr [.bool (we (E9 d) a),fault 0 0] else .dr [.bool false,jL (Ex d)]
theorem rp (d:dB) (a:xX):bg Tryz.prog 7 [d.av,a.av] (fun r=>r=uY d a):=by
 have hr:=xp d
 unfold uY
 by_cases hf:Ex d=(0,0)
 ·rw [if_pos hf]
  rw [Ol,if_pos hf] at hr
  have hp:=E3 (E9 d) a (Ic hf) (Kv d)
  generalize E9 d=g at *
  obtain ⟨fd,st,co,bo,ne⟩:=a
  cases fd with
  |true=>
   rw [we,if_pos rfl]
   generalize mX g ⟨true,st,co,bo,ne⟩=b at *
   (refine bh Tryz.func7 Tryz.ntmps7 ?_)
   (repeat' (first|(refine hK _ ?_;clear hK K)|(refine aM (fun K hK=>?_))|(refine gR ?_;refine aP ?_)|(refine gC 22 ?_;refine bp (hr) ?_)|(refine gC 23 ?_;refine bp (hp) ?_)|(refine gE ?_;refine cc ?_)|(refine gQ ?_;(first|(refine cf ?_)|(refine bT ?_)))|(refine gT ?_;refine aZ ?_)|(refine gS ?_;refine aX ?_)))
   (refine aT (Le.refl _) (dx (aO ab) (bt (by first|exact bF ab ab ab ab|exact br ab ab ab aq))) af ?_)
   rfl
  |false=>
   rw [show we g ⟨false,st,co,bo,ne⟩=pM g ⟨false,st,co,bo,ne⟩ from rfl]
   by_cases h0:st.length=0∧bo.length=0∧co=0
   ·have hn:pM g ⟨false,st,co,bo,ne⟩=(decide (jq g.t ne=(0,0))&&td g.t ne):=by simp only [pM,h0,decide_true,Bool.true_and,and_self]
    rw [hn]
    obtain ⟨h1,h2,h3⟩:=h0
    by_cases hc:jq g.t ne=(0,0)
    ·have hd:=Kn g.t ne hc
     rw [decide_eq_true hc,Bool.true_and]
     clear hc
     generalize td g.t ne=b at *
     (refine bh Tryz.func7 Tryz.ntmps7 ?_)
     (repeat' (first|(refine hK _ ?_;clear hK K)|(refine aM (fun K hK=>?_))|(refine gR ?_;refine aP ?_)|(refine gC 22 ?_;refine bp (hr) ?_)|(refine gC 24 ?_;refine bp (hd) ?_)|(refine gE ?_;refine cc ?_)|(refine gG ?_;refine cB (fun hc=>?_) (fun hc=>?_)<;>(try (first|contradiction|omega)))|(refine gQ ?_;(first|(refine bT ?_)|(refine aS (fun hc=>?_) (fun hc=>?_)<;>(try (first|contradiction|omega)))))|(refine gT ?_;refine aZ ?_)|(refine gS ?_;refine aX ?_)))
     all_goals (refine aT (Le.refl _) (dx (aO ab) (bt (by first|exact bF ab ab ab ab|exact br ab ab ab aq))) af ?_)
     all_goals (first|rfl|(rw [hc];rfl))
    ·have hd:=B7 g.t ne hc
     have hac:=xm hc
     rw [decide_eq_false hc,Bool.false_and]
     (refine bh Tryz.func7 Tryz.ntmps7 ?_)
     (repeat' (first|(refine hK _ ?_;clear hK K)|(refine aM (fun K hK=>?_))|(refine gR ?_;refine aP ?_)|(refine gC 22 ?_;refine bp (hr) ?_)|(refine gC 24 ?_;refine bp (hd) ?_)|(refine gE ?_;refine cc ?_)|(refine gG ?_;refine cB (fun hc=>?_) (fun hc=>?_)<;>(try (first|contradiction|omega)))|(refine gQ ?_;(first|(refine bT ?_)|(refine aS (fun hc=>?_) (fun hc=>?_)<;>(try (first|contradiction|omega)))))|(refine gT ?_;refine aZ ?_)|(refine gS ?_;refine aX ?_)))
     all_goals (refine aT (Le.refl _) (dx (aO ab) (bt (by first|exact bF ab ab ab ab|exact br ab ab ab aq))) af ?_)
     all_goals rfl
   ·have hn:pM g ⟨false,st,co,bo,ne⟩=false:=by rw [pM,decide_eq_false h0,Bool.false_and]
    rw [hn]
    (refine bh Tryz.func7 Tryz.ntmps7 ?_)
    (repeat' (first|(refine hK _ ?_;clear hK K)|(refine aM (fun K hK=>?_))|(refine gR ?_;refine aP ?_)|(refine gC 22 ?_;refine bp (hr) ?_)|(refine gE ?_;refine cc ?_)|(refine gG ?_;refine cB (fun hc=>?_) (fun hc=>?_)<;>(try (first|contradiction|omega)))|(refine gQ ?_;(first|(refine cf ?_)|(refine bT ?_)|(refine aS (fun hc=>?_) (fun hc=>?_)<;>(try (first|contradiction|omega)))))|(refine gT ?_;refine aZ ?_)|(refine gS ?_;refine aX ?_)))
    all_goals (refine aT (Le.refl _) (dx (aO ab) (bt (by first|exact bF ab ab ab ab|exact br ab ab ab aq))) af ?_)
    all_goals rfl
 ·rw [if_neg hf]
  rw [Ol,if_neg hf] at hr
  have hac:=zK hf
  unfold xh at hr
  generalize Ex d=p at *
  (refine bh Tryz.func7 Tryz.ntmps7 ?_)
  (repeat' (first|(refine hK _ ?_;clear hK K)|(refine aM (fun K hK=>?_))|(refine gR ?_;refine aP ?_)|(refine gD 3 ?_;refine fg (.it 0 0 (.it 1 0 (.it 2 3 .nil))) [0,1] ?_)|(refine gC 22 ?_;refine bp (hr) ?_)|(refine gO ?_;refine jZ ?_)|(refine gE ?_;refine cc ?_)|(refine gQ ?_;refine aS (fun hc=>?_) (fun hc=>?_)<;>(try (first|contradiction|omega)))|(refine gT ?_;refine aZ ?_)))
  all_goals (refine aT (Le.refl _) (dx (aO ab) (bt (by first|exact bF ab ab ab ab|exact br ab ab ab aq))) af ?_)
  all_goals rfl
end Go.Proofs.YtkbiagkbmodgdaaGreat
namespace Go.Proofs.YtkbiagkbmodgdaaGreat
open Go.Ab
open Go
set_option maxRecDepth 100000
def Ie (t:Nat):Option TI:=if t=235 then some ⟨false,1,16,[.v .nilIface],.other⟩ else aU t
theorem Px:Tb Tryz.prog Ie:=⟨fun t i h=>by
 unfold Ie at h
 split at h
 ·rename_i e
  subst e
  injection h with h
  subst h
  exact ⟨.interface #[("helmsman/planner.plan", 145)], .nilIface, ⟨Tryz.underlying235⟩, bG ah, rfl, rfl, trivial⟩
 ·exact Tb.ok t i h⟩
def MG (P:Program) (f:FuncId):Bool:=match P.funcs[f]? with
 | some fn => fn.body.isSome && !(fn.name == "runtime.NumGoroutine") && Nat.blt f 1000000000
 |none=>false
theorem Kw {P:Program} {f:FuncId} (h:MG P f=true):cS P f:=by
 unfold MG at h
 split at h
 ·rename_i fn hf
  simp only [Bool.and_eq_true,Bool.not_eq_true'] at h
  exact bc hf h.1.1 h.1.2 (by simpa [Nat.blt_eq] using h.2)
 ·cases h
def OZ:List Nat:=[3,4,5,6,7,8,9,10,11,12,13,14,15,16,17,18,19,20,21,22,23,24,25,26,27,28,29,30,31,32,33,34,35,36,37,38,39,40,41,42,43,44,45,46,47,48,49,50,51,52,53,54,55,56,57,58,59,60,61,62,63,64,65,66,67,68,69,71,72,73,74,75,76,77,78,79,80,81,82,83,84,85,86,87,88,89,90,91,92,93,94,95,96,97,98,99,100,101,102,103,104,105,106,107,108,109,110,111,112,113,114,115,116,117,118,119,120,121,122,123,124,125,126,127,128,129,130,131,132,133,134,135,136,137,138,139,140,141,142,143,145,146,147,148,149,150,151,152,153,154,155,156,157,158,159,160,161,162,163,164,165,166,167,168,169,170,171,172,173,174,175,176,177,178,179,180,181,182,183,184,185,186,187,188,189,190,191,192,193,194,195,196,199,200,201,202,203,204,205,206,207,208,209,210,211,212,213,214,215,216,217,218,219,220,221,222,223,225,226,227,228,229,230,231,232,233,234,235,236,237,238,239,240,241,242,243,244,245,246,247,248,249,250,251,252,253,254,255,256,257,258,259,260,261,262,263,264,265,266,267,268,269,270,271,272,273,274,275,276,277,278,279,280,281,282,283,284,285,286,287,288,289,290,291,309,310,311,312,313,314,315,316,317,318,319,320,321,322,323,324,325,326,427,428,429,430,431,433,434,435,436]
def Py:List Nat:=[49,52,58,63,64,68,109,111,112,121,123,124,130,131,132,133,134,139,141,152,158,159,174,175,176,180,181,182,183,186,187,188,190,192,193,194,196,197,210,211,215,216,217,219,220,221,222,223,224,239,240,241,242,243,244,245,246,247,248,251,252,253,254,255,256,257,258,259,260,268,269,270,271,272,273,274,275,276,277,279,280,281,282,283,284,286,287,288,289,290,291,308,314,318,319,321,322,323,324,399,416,424,426,429,430,431,434,435,436]
def MH:Cf:=⟨Ie,OZ,Py,12,[(147,[.cr 1 8 []],.cr 1 8 [])]⟩
instance yx:ks Tryz.prog MH where
 tb:=Px
 fs:=fun f h=>Kw (List.all_eq_true.1 (show OZ.all (MG Tryz.prog)=true by kernel_rfl) f (eY.1 h))
 mo:=by kernel_rfl
 kn:=fun e h=>by
  rw [show MH.kn=[(147,[.cr 1 8 []],.cr 1 8 [])] from rfl,List.mem_singleton] at h
  subst h
  exact ⟨cP [],rfl⟩
end Go.Proofs.YtkbiagkbmodgdaaGreat
