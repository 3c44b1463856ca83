/- Part of a proof: of two right answers both have a plan, at one cost, or none. No condition. -/
import Derived.Test.YtkbiagkbmodgdaaGreatZgci
set_option linter.unusedSimpArgs false
set_option linter.unusedVariables false
namespace Go.Proofs.YtkbiagkbmodgdaaGreat
open Go.Ab
open Go
set_option maxRecDepth 10000
attribute [local irreducible] dE fh mC lW db PV eR ef AW bg dn ec dP cO Ab.Fin ft en gI iO RV jX Le eI fM mg gV kf dz dg
set_option maxHeartbeats 8000000
attribute [local go_sem] fp jH iW
def sL (d:dB) (l:List cz):Nat→List Bool
 |0=>List.replicate l.length false
 |k+1=>(sL d l k).set k (BU d l[k]!)
theorem Ar (d:dB) (l:List cz):∀ k,(sL d l k).length=l.length
 |0=>by simp [sL]
 |k+1=>by rw [sL,List.length_set,Ar d l k]
def HQ (l:List cz) (ac:List Act) (i:Nat):List Int:=mA l (ac[i]!).pre
def HR (l:List cz) (ac:List Act) (i:Nat):List Int:=mA l (ac[i]!).add
def Nf (d:dB):List Bool×List Bool:=
 B4 (HQ (nO d) (mW d)) (HR (nO d) (mW d)) (mW d).length ((mW d).length+1) (List.replicate (mW d).length false,sL d (nO d) (nO d).length)
def me {α:Type} [Inhabited α] (l:List α) (p:Nat→Bool):Nat→List α
 |0=>[]
 |k+1=>me l p k++if p k=true then [l[k]!] else []
theorem vE {α:Type} [Inhabited α] (l:List α) (p:Nat→Bool):∀ k,(me l p k).length≤k
 |0=>Nat.le_refl _
 |k+1=>by
  have:=vE l p k
  rw [me,List.length_append]
  split<;>simp<;>omega
def qx (d:dB):List cz:=me (nO d) (fun i=>(Nf d).2[i]!|| tE d.goal (nO d)[i]!) (nO d).length
def tp (d:dB):List Act:=me (mW d) (fun i=>(Nf d).1[i]!) (mW d).length
def yt (d:dB):AV:=if (rY d d.cC.length).length≤400 then kW d (qx d) (tp d) else .dr [xh,fault 10 (-8)]
def yu (X:List (List Int)) (k:Nat):List AV:=(X.take k).map ints++List.replicate (X.length - k) .fS
@[go_sem] theorem OW (X:List (List Int)) (k:Nat):(yu X k).length=X.length:=by
 rw [yu,List.length_append,List.length_map,List.length_take,List.length_replicate];omega
theorem HS (n:Nat):AV.cj (List.replicate n .fS)=true:=by
 induction n with
 |zero=>rfl
 |succ n ih=>rw [List.replicate_succ];exact ih
theorem Kj (X:List (List Int)) (k:Nat):AV.cj (yu X k)=true:=by
 rw [yu,nZ,dK ints _ (fun _=>rfl)];exact HS _
@[go_sem] theorem Od (id:Nat) (X:List (List Int)) (k:Nat):AV.bz id (yu X k)=false:=iS (Kj X k)
@[go_sem] theorem Mw (id:Nat) (X:List (List Int)):AV.bz id (X.map ints)=false:=iS (dK ints X fun _=>rfl)
@[go_sem] theorem KZ (id:Nat) (X:List (List Int)):AV.ct id (X.map ints)=X.map ints:=kE (dK ints X fun _=>rfl)
@[go_sem] theorem Nh (ids pins:List Nat) (X:List (List Int)):AV.iN ids pins (X.map ints)=X.map ints:=kO (dK ints X fun _=>rfl)
@[go_sem] theorem K2 (id sz bw n:Nat) (es:List AV) (X:List (List Int)):AV.du id sz bw n es (X.map ints)=X.map ints:=ew (dK ints X fun _=>rfl)
theorem C6 {X:List (List Int)} {k:Nat} (h:k < X.length):(yu X k).set k (ints X[k])=yu X (k+1):=by
 have h1:((X.take k).map ints).length=k:=by rw [List.length_map,List.length_take];omega
 rw [yu,yu,List.set_append_right _ _ aj,h1,Nat.sub_self,List.take_succ_eq_append_getElem h,List.map_append,List.append_assoc]
 obtain ⟨m,hm⟩:∃ m,X.length - k=m+1:=⟨X.length - k - 1,by omega⟩
 rw [hm,show X.length - (k+1)=m by omega]
 rfl
theorem C7 (X:List (List Int)):yu X X.length=X.map ints:=by simp [yu]
theorem vF {facts l:List cz} {p:Int}:∀ {k:Nat},p∈sG facts l k→0≤p∧p < k
 |0,h=>by cases h
 |k+1,h=>by
  rw [sG,List.mem_append] at h
  rcases h with h|h
  ·have:=vF h
   omega
  ·split at h
   ·rw [List.mem_singleton] at h;omega
   ·cases h
theorem HT (d:dB) (hv:lq d=(0,0)):bg Tryz.prog 22 [d.av] (fun r=>r=yt d):=by
 have hD:=GU hv
 have hs:=Hx d hD hv
 unfold yt
 by_cases hle:(rY d d.cC.length).length≤400
 ·simp only [if_pos hle] at hs
  rw [if_pos hle]
  have hl:=Ao d hD hle
  have ha:=BZ d
  have hco:=B0 d hD
  have hal:=rR d hD d.eh.length (Nat.le_refl _)
  have hs8:=hD.s8
  have hfa:qx d=me (nO d) (fun i=>(Nf d).2[i]!|| tE d.goal (nO d)[i]!) (nO d).length:=rfl
  have hac:tp d=me (mW d) (fun i=>(Nf d).1[i]!) (mW d).length:=rfl
  have hre:Nf d=B4 (HQ (nO d) (mW d)) (HR (nO d) (mW d)) (mW d).length ((mW d).length+1) (List.replicate (mW d).length false,sL d (nO d) (nO d).length):=rfl
  have hall:(mW d).length≤4096:=by rw [mW];omega
  have hla:(nO d).length≤800:=by
   have h1:=rO d d.cC.length
   have h2:=rP d d.cC.length
   rw [nO,List.length_append];omega
  clear hal
  generalize qx d=FR at *
  generalize tp d=AR at *
  generalize Nf d=re at *
  generalize nO d=AL at *
  generalize mW d=AC at *
  (refine bh Tryz.func22 Tryz.ntmps22 ?_)
  (repeat' (first|(refine hK _ ?_;clear hK K)|(refine aM (fun K hK=>?_))|(refine fH 6 ab ?_;refine aP ?_)|(refine gC 49 ?_;refine bp (hs) ?_)|(refine gC 50 ?_;refine bp (hl) ?_)|(refine gC 52 ?_;refine bp (ha) ?_)|(refine gC 51 ?_;refine bp (hco) ?_)|(refine bn (fun K hK=>?_);refine pt (d:=43) ab ab aj aA aw ab 43 al ?_)|(refine gE ?_;refine cc ?_)|(refine gQ ?_;refine bT ?_)|(refine gW ?_;refine bN ?_)|(refine gS ?_;refine aX ?_)))
  (repeat' (first|(refine hK _ ?_;clear hK K)|(refine fH 7 ab ?_;refine aP ?_)|(refine aN ?_)))
  refine bU [9,10,46,47,48,49,50,51,52,53,54,55,56,57] (fun k:Nat=>k≤AL.length) (fun k=>AL.length - k) (fun k=>[(46,.int k)]) (fun k=>[(43,⟨4,(sL d AL k).map AV.bool,true⟩)]) 0 (Nat.zero_le _) ?_ ?_
  ·rw [sL,List.map_replicate]
   (refine cm ?_)
   (exact bd)
  ·rintro k hk K hK
   (refine cm ?_)
   have hil:=Ar d AL k
   by_cases hlt:k < AL.length
   ·have hst:sL d AL (k+1)=(sL d AL k).set k (BU d AL[k]):=by rw [sL,bY hlt]
    have hi:=Hy d AL[k]
    generalize sL d AL k=R at *
    (repeat' (first|(refine hK _ ?_;clear hK K)|(refine aM (fun K hK=>?_))|(refine gR ?_;refine aP ?_)|(refine gD 9 ?_;refine fg (.it 0 0 (.it 1 0 (.it 2 0 (.it 3 0 (.it 4 1 (.it 5 0 (.it 6 3 .nil))))))) [0,1,2,3,5] ?_)|(refine kK 53 ?_;refine dw (hi) ?_)|(refine gO ?_;refine jZ ?_)|(refine gE ?_;(first|(refine cc ?_)|(refine dL (fun _=>?_))))|(refine gQ ?_;refine aS (fun hc=>?_) (fun hc=>?_)<;>(try (first|contradiction|omega)))|(refine aN ?_)|(refine gS ?_;refine aX ?_)))
    refine ⟨k+1,by omega,by omega,?_⟩
    rw [hst,List.map_set]
    (refine cm ?_)
    (exact bd)
   ·obtain rfl:k=AL.length:=by omega
    generalize hR0:sL d AL AL.length=R0 at *
    (repeat' (first|(refine hK _ ?_;clear hK K)|(refine aM (fun K hK=>?_))|(refine fH 13 ab ?_;refine aP ?_)|(refine gD 11 ?_;refine wx (s1:=?_) (.it 0 0 (.it 1 0 (.it 3 0 (.it 4 0 (.fk 2 5 (.it 6 0 (.it 5 1 (.it 7 0 .nil))) (.it 2 1 (.it 6 0 (.it 7 0 .nil)))))))) [0,1,3,4,6,7] ?_ ?_;rotate_left)|(refine dk (fun K hK=>?_);(first|(refine fJ (d:=60) ab ab aj aA aw ab 60 al ?_)|(refine fJ (d:=63) ab ab aj aA aw ab 63 al ?_)))|(refine And.intro ?_ ?_)|(refine gL ?_;(first|exact Le.refl _|exact bd))|(refine gQ ?_;refine aS (fun hc=>?_) (fun hc=>?_)<;>(try (first|contradiction|omega)))|(refine kj ?_;refine eK ?_)|(refine aN ?_)|(refine gX ?_;refine bV ?_)|(apply_assumption (exfalso:=false) (symm:=false))))
    obtain ⟨X,hXl,hXg⟩:∃ X:List (List Int),X.length=AC.length∧∀ k (hk:k < AC.length) (h2:k < X.length),X[k]=mA AL AC[k].pre:=⟨AC.map fun x=>mA AL x.pre,by simp,fun k hk h2=>by simp⟩
    obtain ⟨Y,hYl,hYg⟩:∃ X:List (List Int),X.length=AC.length∧∀ k (hk:k < AC.length) (h2:k < X.length),X[k]=mA AL AC[k].add:=⟨AC.map fun x=>mA AL x.add,by simp,fun k hk h2=>by simp⟩
    have hx0:yu X 0=List.replicate AC.length (.v (.slice none 0 0)):=by simp [yu,hXl]
    have hy0:yu Y 0=List.replicate AC.length (.v (.slice none 0 0)):=by simp [yu,hYl]
    refine bU [13,14,66,67,68,69,70,71,72,73,74,75,76,77,78,79,80,81,82,83,84,85] (fun k:Nat=>k≤AC.length) (fun k=>AC.length - k) (fun k=>[(66,.int k)]) (fun k=>[(60,⟨35,yu X k,true⟩),(63,⟨35,yu Y k,true⟩)]) 0 (Nat.zero_le _) ?_ ?_
    ·rw [hx0,hy0]
     (refine cm ?_)
     (exact bd)
    ·rintro k hk K hK
     (refine cm ?_)
     by_cases hlt:k < AC.length
     ·have i1:=mQ AL AC[k].pre
      have i2:=mQ AL AC[k].add
      have s1:=C6 (X:=X) (k:=k) aj
      have s2:=C6 (X:=Y) (k:=k) aj
      rw [hXg k hlt aj] at s1
      rw [hYg k hlt aj] at s2
      (repeat' (first|(refine hK _ ?_;clear hK K)|(refine aM (fun K hK=>?_))|(refine gR ?_;refine aP ?_)|(refine gD 15 ?_;refine wx (s1:=?_) (.it 0 0 (.it 1 0 (.it 4 0 (.it 5 0 (.it 6 0 (.it 8 0 (.it 9 0 (.it 10 0 (.yN 2 3 7 (.fk 3 7 (.it 7 1 (.it 11 1 (.it 12 0 (.it 13 3 (.it 14 1 (.it 15 3 .nil)))))) (.fk 3 11 (.it 11 1 (.it 12 0 (.it 13 3 (.it 14 1 (.it 15 3 .nil))))) (.it 12 0 (.oh 3 1 13 3 (.it 13 3 (.it 14 1 (.it 15 3 .nil))) (.it 3 1 (.it 14 1 (.it 15 3 .nil))))))) (.fk 2 7 (.it 7 1 (.it 11 1 (.it 12 0 (.it 13 3 (.it 14 1 (.it 15 3 .nil)))))) (.fk 2 11 (.it 11 1 (.it 12 0 (.it 13 3 (.it 14 1 (.it 15 3 .nil))))) (.it 12 0 (.oh 2 1 13 3 (.it 13 3 (.it 14 1 (.it 15 3 .nil))) (.it 2 1 (.it 14 1 (.it 15 3 .nil))))))) (.yN 2 3 11 (.fk 3 11 (.it 11 1 (.it 12 0 (.it 13 3 (.it 14 1 (.it 15 3 .nil))))) (.it 12 0 (.oh 3 1 13 3 (.it 13 3 (.it 14 1 (.it 15 3 .nil))) (.it 3 1 (.it 14 1 (.it 15 3 .nil)))))) (.fk 2 11 (.it 11 1 (.it 12 0 (.it 13 3 (.it 14 1 (.it 15 3 .nil))))) (.it 12 0 (.oh 2 1 13 3 (.it 13 3 (.it 14 1 (.it 15 3 .nil))) (.it 2 1 (.it 14 1 (.it 15 3 .nil)))))) (.it 12 0 (.Ck 2 1 3 1 13 3 (.oh 3 1 13 3 (.it 13 3 (.it 14 1 (.it 15 3 .nil))) (.it 3 1 (.it 14 1 (.it 15 3 .nil)))) (.oh 2 1 13 3 (.it 13 3 (.it 14 1 (.it 15 3 .nil))) (.it 2 1 (.it 14 1 (.it 15 3 .nil)))) (.fk 2 3 (.it 3 1 (.it 14 1 (.it 15 3 .nil))) (.it 2 1 (.it 14 1 (.it 15 3 .nil)))))))))))))))) [0,1,4,5,6,8,9,10,12] ?_ ?_;rotate_left)|(refine kK 54 ?_;refine dw (i1) ?_)|(refine kK 54 ?_;refine dw (i2) ?_)|(refine And.intro ?_ ?_)|(refine tO ?_;refine ko ?_)|(refine gO ?_;refine jZ ?_)|(refine gL ?_;(first|exact Le.refl _|exact bd))|(refine gE ?_;(first|(refine cc ?_)|(refine dL (fun _=>?_))))|(refine gQ ?_;refine aS (fun hc=>?_) (fun hc=>?_)<;>(try (first|contradiction|omega)))|(refine aN ?_)|(refine gS ?_;refine aX ?_)))
      refine ⟨k+1,by omega,by omega,?_⟩
      rw [← s1,← s2]
      (refine cm ?_)
      (exact bd)
     ·obtain rfl:k=AC.length:=by omega
      have hxa:yu X AC.length=X.map ints:=by rw [← hXl];exact C7 X
      have hya:yu Y AC.length=Y.map ints:=by rw [← hYl];exact C7 Y
      rw [hxa,hya]
      (repeat' (first|(refine hK _ ?_;clear hK K)|(refine aM (fun K hK=>?_))|(refine fH 19 ab ?_;refine aP ?_)|(refine bn (fun K hK=>?_);refine pt (d:=88) ab ab aj aA aw ab 88 al ?_)|(refine gQ ?_;refine aS (fun hc=>?_) (fun hc=>?_)<;>(try (first|contradiction|omega)))|(refine gW ?_;refine bN ?_)|(refine aN ?_)|(refine gX ?_;refine bV ?_)|(apply_assumption (exfalso:=false) (symm:=false))))
      have hU0:((List.replicate AC.length false).map AV.bool)=List.replicate AC.length (.v (.bool false)):=by rw [List.map_replicate]
      have hpX:∀ k (hk:k < AC.length),∀ p∈X[k]' aj,0≤p∧p < AL.length:=fun k hk p hp=>by
       rw [hXg k hk aj] at hp;exact vF hp
      have hpY:∀ k (hk:k < AC.length),∀ p∈Y[k]' aj,0≤p∧p < AL.length:=fun k hk p hp=>by
       rw [hYg k hk aj] at hp;exact vF hp
      have hpre:∀ k (hk:k < AC.length),HQ AL AC k=X[k]' aj :=fun k hk=>by rw [HQ,bY hk,hXg k hk aj]
      have hadd:∀ k (hk:k < AC.length),HR AL AC k=Y[k]' aj :=fun k hk=>by rw [HR,bY hk,hYg k hk aj]
      generalize HQ AL AC=pre at *
      generalize HR AL AC=add at *
      refine bU (16::43::[16,17,19,89,90,91,92,93,94,95,96,97,98,99,100,101,102,103,104,105,106,107,108,109,110,111,112,113,114,115,116,117,118,119,120,121,122,123,124,125]) (fun x:Bool×List Bool×List Bool=>x.2.1.length=AC.length∧x.2.2.length=AL.length∧(x.1=true→∃ f,rT x.2.1 < f∧B4 pre add AC.length f (x.2.1,x.2.2)=re)∧(x.1=false→(x.2.1,x.2.2)=re)) (fun x=>if x.1=true then rT x.2.1+1 else 0) (fun x=>[(16,.bool x.1)]) (fun x=>[(88,⟨4,x.2.1.map AV.bool,true⟩),(43,⟨4,x.2.2.map AV.bool,true⟩)]) (true,List.replicate AC.length false,R0) ⟨by simp,hil,fun _=>⟨AC.length+1,Nat.lt_succ_of_le (by unfold rT;exact Nat.le_trans List.count_le_length ax),hre.symm⟩,fun h=>by cases h⟩ ?_ ?_
      ·rw [hU0]
       (refine cm ?_)
       (exact bd)
      ·rintro ⟨ag,U,R⟩ ⟨hU,hR,h1,h2⟩ K hK
       simp only at hU hR h1 h2
       (refine cm ?_)
       cases ag with
       |true=>
        obtain ⟨f,hf1,hf2⟩:=h1 rfl
        clear h1 h2
        (repeat' (first|(refine hK _ ?_;clear hK K)|(refine aM (fun K hK=>?_))|(refine fH 22 ab ?_;refine aP ?_)|(refine gQ ?_;refine cf ?_)|(refine aN ?_)|(refine gS ?_;refine aX ?_)))
        refine bU (16::43::[16,17,19,92,93,94,95,96,97,98,99,100,101,102,103,104,105,106,107,108,109,110,111,112,113,114,115,116,117,118,119,120,121,122,123,124,125]) (fun k:Nat=>k≤AC.length) (fun k=>AC.length - k) (fun k=>[(92,.int k),(16,.bool (ep pre add k (false,U,R)).1)]) (fun k=>[(88,⟨4,(ep pre add k (false,U,R)).2.1.map AV.bool,true⟩),(43,⟨4,(ep pre add k (false,U,R)).2.2.map AV.bool,true⟩)]) 0 (Nat.zero_le _) ?_ ?_
        ·rw [ep]
         (refine cm ?_)
         (exact bd)
        ·rintro k hk K hK
         have hsl:=qw pre add k (false,U,R)
         simp only [hU,hR] at hsl
         have hcn:=vD pre add k (false,U,R) aH
         have hst:ep pre add (k+1) (false,U,R)=Aq pre add k (ep pre add k (false,U,R)):=rfl
         have hfx:k=AC.length→B4 pre add AC.length f (U,R)=re→(ep pre add k (false,U,R)).1=true∧(∃ f',rT (ep pre add k (false,U,R)).2.1 < f'∧B4 pre add AC.length f' (ep pre add k (false,U,R)).2=re)∧rT (ep pre add k (false,U,R)).2.1 < rT U∨(ep pre add k (false,U,R)).1=false∧(ep pre add k (false,U,R)).2=re:=by
          rintro rfl h
          obtain ⟨f',rfl⟩:∃ f',f=f'+1:=⟨f - 1,by omega⟩
          rw [B4] at h
          cases hb:(ep pre add AC.length (false,U,R)).1 with
          |true=>
           rw [hb,if_pos rfl] at h
           rcases hcn.2 hb with h3|h3
           ·cases h3
           ·exact .inl ⟨rfl,⟨f',by simp only at h3;omega,h⟩,h3⟩
          |false=>
           rw [hb,if_neg aw] at h
           exact .inr ⟨rfl,h⟩
         clear hcn
         generalize ep pre add k (false,U,R)=y at *
         obtain ⟨gb,V,S⟩:=y
         simp only at hsl hst hfx
         obtain ⟨hV,hS⟩:=hsl
         (refine cm ?_)
         by_cases hlt:k < AC.length
         ·have hkV:k < V.length:=by omega
          have hkX:k < X.length:=by omega
          have hkY:k < Y.length:=by omega
          have hzk:ep pre add (k+1) (false,U,R)=if V[k]=false∧X[k].any (vC S)=false then (true,V.set k true,pH S Y[k]) else (gb,V,S):=by
           rw [hst,Aq,hpre k hlt,hadd k hlt];simp only [bY hkV]
          have c1:=Ki S X[k] (by rw [hS];exact hpX k hlt)
          rw [hS] at c1
          cases hv:V[k] with
          |true=>
           rw [hv,if_neg (fun h=>by cases h.1)] at hzk
           (repeat' (first|(refine hK _ ?_;clear hK K)|(refine aM (fun K hK=>?_))|(refine gR ?_;refine aP ?_)|(refine bn (fun K hK=>?_);exact absurd (hv.symm.trans hc) aw)|(refine gE ?_;(first|(refine cc ?_)|(refine dL (fun _=>?_))))|(refine gG ?_;refine cB (fun hc=>?_) (fun hc=>?_)<;>(try (first|contradiction|omega)))|(refine gQ ?_;(first|(refine bT ?_)|(refine aS (fun hc=>?_) (fun hc=>?_)<;>(try (first|contradiction|omega)))))|(refine aN ?_)|(refine gS ?_;refine aX ?_)))
           all_goals
            refine ⟨k+1,by omega,by omega,?_⟩
            rw [hzk]
            (refine cm ?_)
            (exact bd)
          |false=>
           cases hx:X[k].any (vC S) with
           |true=>
            rw [hx,if_neg (fun h=>by cases h.2)] at hzk
            rw [hx] at c1
            (repeat' (first|(refine hK _ ?_;clear hK K)|(refine aM (fun K hK=>?_))|(refine gR ?_;refine aP ?_)|(refine bn (fun K hK=>?_);(first|(refine bK cD ?_)|((refine bI (c1) (by (repeat (first|exact bP|refine bA ab ?_))) (fun _ h=>by cases h) ab (fun x hp' hx=>?_);obtain ⟨rfl,rfl⟩:=hx<;>simp only [go_sem,seval,dj,aV]))))|(refine gE ?_;(first|(refine cc ?_)|(refine dL (fun _=>?_))))|(refine gG ?_;refine cB (fun hc=>?_) (fun hc=>?_)<;>(try (first|contradiction|omega)))|(refine gQ ?_;(first|(refine bT ?_)|(refine aS (fun hc=>?_) (fun hc=>?_)<;>(try (first|contradiction|omega)))))|(refine gW ?_;refine bN ?_)|(refine aN ?_)|(refine gS ?_;refine aX ?_)))
            all_goals
             refine ⟨k+1,by omega,by omega,?_⟩
             rw [hzk]
             (refine cm ?_)
             (exact bd)
           |false=>
            rw [hv,hx,if_pos ⟨rfl,rfl⟩] at hzk
            rw [hx] at c1
            (repeat' (first|(refine hK _ ?_;clear hK K)|(refine aM (fun K hK=>?_))|(refine fH 27 ab ?_;refine aP ?_)|(refine bn (fun K hK=>?_);(first|(refine bK cD ?_)|((refine bI (c1) (by (repeat (first|exact bP|refine bA ab ?_))) (fun _ h=>by cases h) ab (fun x hp' hx=>?_);obtain ⟨rfl,rfl⟩:=hx<;>simp only [go_sem,seval,dj,aV]))))|(refine gE ?_;(first|(refine cc ?_)|(refine dL (fun _=>?_))))|(refine gG ?_;refine cB (fun hc=>?_) (fun hc=>?_)<;>(try (first|contradiction|omega)))|(refine gQ ?_;(first|(refine cf ?_)|(refine bT ?_)|(refine aS (fun hc=>?_) (fun hc=>?_)<;>(try (first|contradiction|omega)))))|(refine gW ?_;refine bN ?_)|(refine aN ?_)|(refine gS ?_;refine aX ?_)))
            all_goals try exact absurd (hv.symm.trans hc) aw
            have hpk:=hpY k hlt
            have hll:Y[k].length≤800:=by
             have:=vn AL AC[k].add AL.length
             rw [hYg k hlt hkY];exact Nat.le_trans this hla
            generalize Y[k]=L at hpk hzk hll ⊢
            refine bU (43::[19,117,118,119,120,121,122,123,124]) (fun j:Nat=>j≤L.length) (fun j=>L.length - j) (fun j=>[(117,.int j)]) (fun j=>[(43,⟨4,(pH S (L.take j)).map AV.bool,true⟩)]) 0 (Nat.zero_le _) ?_ ?_
            ·rw [List.take_zero,pH,List.foldl_nil]
             (refine cm ?_)
             (exact bd)
            ·rintro j hj K hK
             have hol:=xi (L.take j) S
             rw [hS] at hol
             by_cases hjt:j < L.length
             ·have hox:=B3 hjt S
              have hpb:=hpk L[j] (List.getElem_mem hjt)
              generalize pH S (L.take j)=T1 at *
              (refine cm ?_)
              obtain ⟨q,hq⟩:∃ q:Nat,L[j]=(q:Int):=⟨L[j].toNat,(Int.toNat_of_nonneg hpb.1).symm⟩
              (repeat' (first|(refine hK _ ?_;clear hK K)|(refine aM (fun K hK=>?_))|(refine gR ?_;refine aP ?_)|(refine gE ?_;(first|(refine cc ?_)|(refine dL (fun _=>?_))))|(refine gQ ?_;refine aS (fun hc=>?_) (fun hc=>?_)<;>(try (first|contradiction|omega)))|(refine aN ?_)|(refine gS ?_;refine aX ?_)))
              refine ⟨j+1,by omega,by omega,?_⟩
              rw [hox,List.map_set]
              (refine cm ?_)
              (exact bd)
             ·obtain rfl:j=L.length:=by omega
              rw [List.take_length]
              (refine cm ?_)
              (repeat' (first|(refine hK _ ?_;clear hK K)|(refine aM (fun K hK=>?_))|(refine gR ?_;refine aP ?_)|(refine gE ?_;refine cc ?_)|(refine gQ ?_;refine aS (fun hc=>?_) (fun hc=>?_)<;>(try (first|contradiction|omega)))|(refine gX ?_;refine bV ?_)|(apply_assumption (exfalso:=false) (symm:=false))))
              refine ⟨k+1,by omega,by omega,?_⟩
              rw [hzk,List.map_set]
              (refine cm ?_)
              (exact bd)
         ·obtain rfl:k=AC.length:=by omega
          have hfy:=hfx rfl hf2
          (repeat' (first|(refine hK _ ?_;clear hK K)|(refine aM (fun K hK=>?_))|(refine gR ?_;refine aP ?_)|(refine gQ ?_;refine aS (fun hc=>?_) (fun hc=>?_)<;>(try (first|contradiction|omega)))|(refine gX ?_;refine bV ?_)|(apply_assumption (exfalso:=false) (symm:=false))))
          refine ⟨(gb,V,S),⟨hV,hS,?_,?_⟩,?_,?_⟩
          ·rintro rfl
           rcases hfy with ⟨_,h3,_⟩|⟨h3,_⟩
           ·exact h3
           ·cases h3
          ·rintro rfl
           rcases hfy with ⟨h3,_⟩|⟨_,h3⟩
           ·cases h3
           ·exact h3
          ·rcases hfy with ⟨rfl,_,h3⟩|⟨rfl,_⟩
           ·simp only [if_true];omega
           ·simp
          ·(refine cm ?_)
           (exact bd)
       |false=>
        have hur:=h2 rfl
        clear h1 h2
        obtain ⟨hr1,hr2⟩:re.1=U∧re.2=R:=by rw [← hur];exact ⟨rfl,rfl⟩
        rw [hr1] at hac
        rw [hr2] at hfa
        obtain ⟨pf,hpf⟩:∃ pf:Nat→Bool,pf=fun i=>R[i]!|| tE d.goal AL[i]!:=⟨_,rfl⟩
        obtain ⟨pa,hpa⟩:∃ pa:Nat→Bool,pa=fun i=>U[i]!:=⟨_,rfl⟩
        rw [← hpf] at hfa
        rw [← hpa] at hac
        (repeat' (first|(refine hK _ ?_;clear hK K)|(refine aM (fun K hK=>?_))|(refine fH 34 ab ?_;refine aP ?_)|(refine gQ ?_;refine bT ?_)|(refine aN ?_)|(refine gX ?_;refine bV ?_)|(apply_assumption (exfalso:=false) (symm:=false))))
        (refine j1 20 20 3 40 68 ?_)
        refine bU (20::[20,21,22,128,129,130,131,132,133,134,135,136,137,138,139,140,141,142,143,144,145,146,147]) (fun k:Nat=>k≤AL.length) (fun k=>AL.length - k) (fun k=>[(128,.int k),(20,.sl 3 40 20 0 (me AL pf k).length)]) (fun k=>[(20,⟨68,(me AL pf k).flatMap ph,false⟩)]) 0 (Nat.zero_le _) ?_ ?_
        ·rw [me]
         (refine cm ?_)
         (exact bd)
        ·rintro k hk K hK
         have hfl:=vE AL pf k
         have hst:me AL pf (k+1)=me AL pf k++if pf k=true then [AL[k]!] else []:=rfl
         by_cases hlt:k < AL.length
         ·have hkR:k < R.length:=by omega
          have hpk:pf k=(R[k]|| tE d.goal AL[k]):=by rw [hpf];simp only [bY hkR,bY hlt]
          rw [hpk,bY hlt] at hst
          generalize me AL pf k=F1 at *
          (refine cm ?_)
          have hh:=tY d.goal AL[k]
          cases hv:R[k] with
          |true=>
           rw [hv,Bool.true_or,if_pos rfl] at hst
           (repeat' (first|(refine hK _ ?_;clear hK K)|(refine aM (fun K hK=>?_))|(refine gR ?_;refine aP ?_)|(refine gC 57 ?_;refine bp (hh) ?_)|(refine bn (fun K hK=>?_);refine cF ?_)|(refine gE ?_;(first|(refine cc ?_)|(refine dL (fun _=>?_))))|(refine gG ?_;refine cB (fun hc=>?_) (fun hc=>?_)<;>(try (first|contradiction|omega)))|(refine gQ ?_;(first|(refine cf ?_)|(refine aS (fun hc=>?_) (fun hc=>?_)<;>(try (first|contradiction|omega)))))|(refine gW ?_;refine bN ?_)|(refine aN ?_)|(refine gS ?_;refine aX ?_)))
           all_goals try exact absurd (hv.symm.trans (show R[k]=false by assumption)) aw
           all_goals
            refine ⟨k+1,by omega,by omega,?_⟩
            rw [hst,List.length_append,List.length_singleton]
            (refine cm ?_)
            (exact bd)
          |false=>
           rw [hv,Bool.false_or] at hst
           cases hg:tE d.goal AL[k] with
           |true=>
            rw [hg,if_pos rfl] at hst
            rw [hg] at hh
            (repeat' (first|(refine hK _ ?_;clear hK K)|(refine aM (fun K hK=>?_))|(refine gR ?_;refine aP ?_)|(refine gC 57 ?_;refine bp (hh) ?_)|(refine bn (fun K hK=>?_);(first|(exact absurd (hv.symm.trans hc) aw)|(refine cF ?_)))|(refine gE ?_;(first|(refine cc ?_)|(refine dL (fun _=>?_))))|(refine gG ?_;refine cB (fun hc=>?_) (fun hc=>?_)<;>(try (first|contradiction|omega)))|(refine gQ ?_;(first|(refine cf ?_)|(refine aS (fun hc=>?_) (fun hc=>?_)<;>(try (first|contradiction|omega)))))|(refine gW ?_;refine bN ?_)|(refine aN ?_)|(refine gS ?_;refine aX ?_)))
            all_goals try exact absurd (hv.symm.trans (show R[k]=true by assumption)) aw
            all_goals
             refine ⟨k+1,by omega,by omega,?_⟩
             rw [hst,List.length_append,List.length_singleton]
             (refine cm ?_)
             (exact bd)
           |false=>
            rw [hg,if_neg aw,List.append_nil] at hst
            rw [hg] at hh
            (repeat' (first|(refine hK _ ?_;clear hK K)|(refine aM (fun K hK=>?_))|(refine gR ?_;refine aP ?_)|(refine gC 57 ?_;refine bp (hh) ?_)|(refine bn (fun K hK=>?_);exact absurd (hv.symm.trans hc) aw)|(refine gE ?_;(first|(refine cc ?_)|(refine dL (fun _=>?_))))|(refine gG ?_;refine cB (fun hc=>?_) (fun hc=>?_)<;>(try (first|contradiction|omega)))|(refine gQ ?_;(first|(refine cf ?_)|(refine bT ?_)|(refine aS (fun hc=>?_) (fun hc=>?_)<;>(try (first|contradiction|omega)))))|(refine aN ?_)|(refine gS ?_;refine aX ?_)))
            all_goals try exact absurd (hv.symm.trans (show R[k]=true by assumption)) aw
            all_goals
             refine ⟨k+1,by omega,by omega,?_⟩
             rw [hst]
             (refine cm ?_)
             (exact bd)
         ·obtain rfl:k=AL.length:=by omega
          rw [← hfa] at *
          (refine cm ?_)
          (repeat' (first|(refine hK _ ?_;clear hK K)|(refine aM (fun K hK=>?_))|(refine fH 40 ab ?_;refine aP ?_)|(refine gQ ?_;refine aS (fun hc=>?_) (fun hc=>?_)<;>(try (first|contradiction|omega)))|(refine gX ?_;refine bV ?_)|(apply_assumption (exfalso:=false) (symm:=false))))
          (refine j1 23 23 6 112 112 ?_)
          (repeat' (first|(refine hK _ ?_;clear hK K)|(refine fH 41 ab ?_;refine aP ?_)|(refine aN ?_)))
          refine bU (23::[23,24,25,150,151,152,153,154,155,156,157,158,159,160,161,162,163]) (fun k:Nat=>k≤AC.length) (fun k=>AC.length - k) (fun k=>[(150,.int k),(23,.sl 6 112 23 0 (me AC pa k).length)]) (fun k=>[(23,⟨112,(me AC pa k).flatMap j4,false⟩)]) 0 (Nat.zero_le _) ?_ ?_
          ·rw [me]
           (refine cm ?_)
           (exact bd)
          ·rintro k hk K hK
           have hfl:=vE AC pa k
           have hst:me AC pa (k+1)=me AC pa k++if pa k=true then [AC[k]!] else []:=rfl
           by_cases hlt:k < AC.length
           ·have hkU:k < U.length:=by omega
            have hpk:pa k=U[k]:=by rw [hpa];simp only [bY hkU]
            rw [hpk,bY hlt] at hst
            generalize me AC pa k=F1 at *
            (refine cm ?_)
            cases hv:U[k] with
            |true=>
             rw [hv,if_pos rfl] at hst
             (repeat' (first|(refine hK _ ?_;clear hK K)|(refine aM (fun K hK=>?_))|(refine gR ?_;refine aP ?_)|(refine bn (fun K hK=>?_);refine cF ?_)|(refine gE ?_;(first|(refine cc ?_)|(refine dL (fun _=>?_))))|(refine gQ ?_;refine aS (fun hc=>?_) (fun hc=>?_)<;>(try (first|contradiction|omega)))|(refine gW ?_;refine bN ?_)|(refine aN ?_)|(refine gS ?_;refine aX ?_)))
             all_goals try exact absurd (hv.symm.trans (show U[k]=false by assumption)) aw
             all_goals
              refine ⟨k+1,by omega,by omega,?_⟩
              rw [hst,List.length_append,List.length_singleton]
              (refine cm ?_)
              (exact bd)
            |false=>
             rw [hv,if_neg aw,List.append_nil] at hst
             (repeat' (first|(refine hK _ ?_;clear hK K)|(refine aM (fun K hK=>?_))|(refine gR ?_;refine aP ?_)|(refine bn (fun K hK=>?_);exact absurd (hv.symm.trans hc) aw)|(refine gE ?_;(first|(refine cc ?_)|(refine dL (fun _=>?_))))|(refine gQ ?_;refine aS (fun hc=>?_) (fun hc=>?_)<;>(try (first|contradiction|omega)))|(refine aN ?_)|(refine gS ?_;refine aX ?_)))
             all_goals try exact absurd (hv.symm.trans (show U[k]=true by assumption)) aw
             all_goals
              refine ⟨k+1,by omega,by omega,?_⟩
              rw [hst]
              (refine cm ?_)
              (exact bd)
           ·obtain rfl:k=AC.length:=by omega
            rw [← hac] at *
            (refine cm ?_)
            (repeat' (first|(refine hK _ ?_;clear hK K)|(refine aM (fun K hK=>?_))|(refine fH 46 ab ?_;refine aP ?_)|(refine gQ ?_;refine aS (fun hc=>?_) (fun hc=>?_)<;>(try (first|contradiction|omega)))|(refine gX ?_;refine bV ?_)|(apply_assumption (exfalso:=false) (symm:=false))))
            (refine cT (eg (f:=cz.av) 20 3 40 FR.length FR ab (gv _) aJ (fun _=>rfl) (fun _=>rfl) aj) ?_;try simp only [go_sem,seval])
            (refine cT (eg (f:=Act.av) 23 6 112 AR.length AR ab (xd _) aJ (fun _=>rfl) (fun _=>rfl) aj) ?_;try simp only [go_sem,seval])
            have hb:=HO d FR AR
            by_cases hq:FR.length≤24∧AR.length≤40
            ·rw [kW,if_pos hq] at hb
             (repeat' (first|(refine hK _ ?_;clear hK K)|(refine gR ?_;refine aP ?_)|(refine gC 58 ?_;refine bp (hb) ?_)|(refine gT ?_;refine aZ ?_)))
             (refine aT (Le.refl _) (dx (bt (by first|exact bF ab ab ab ab|exact br ab ab ab aq)) (bt (by first|exact bF ab ab ab ab|exact br ab ab ab aq))) af ?_)
             rw [kW,if_pos hq]
             rfl
            ·rw [kW,if_neg hq] at hb
             unfold xh at hb
             (repeat' (first|(refine hK _ ?_;clear hK K)|(refine gR ?_;refine aP ?_)|(refine gC 58 ?_;refine bp (hb) ?_)|(refine gT ?_;refine aZ ?_)))
             (refine aT (Le.refl _) (dx (bt (by first|exact bF ab ab ab ab|exact br ab ab ab aq)) (bt (by first|exact bF ab ab ab ab|exact br ab ab ab aq))) af ?_)
             rw [kW,if_neg hq]
             rfl
 ·simp only [if_neg hle] at hs
  rw [if_neg hle]
  (refine bh Tryz.func22 Tryz.ntmps22 ?_)
  (repeat' (first|(refine hK _ ?_;clear hK K)|(refine aM (fun K hK=>?_))|(refine gR ?_;refine aP ?_)|(refine gD 3 ?_;refine wx (s1:=?_) (.it 0 0 (.oh 1 1 2 3 (.it 2 3 (.it 3 3 .nil)) (.it 1 1 (.it 3 3 .nil)))) [0] ?_ ?_;rotate_left)|(refine gC 49 ?_;refine bp (hs) ?_)|(refine And.intro ?_ ?_)|(refine tO ?_;refine ko ?_)|(refine gO ?_;refine jZ ?_)|(refine gL ?_;(first|exact Le.refl _|exact bd))|(refine gE ?_;refine cc ?_)|(refine gQ ?_;refine cf ?_)|(refine gT ?_;refine aZ ?_)))
  (refine aT (Le.refl _) (dx (bt (by first|exact bF ab ab ab ab|exact br ab ab ab aq)) (bt (by first|exact bF ab ab ab ab|exact br ab ab ab aq))) af ?_)
  rfl
end Go.Proofs.YtkbiagkbmodgdaaGreat
