/- Part of a proof: of two right answers both have a plan, at one cost, or none. No condition. -/
import Derived.Test.YtkbiagkbmodgdaaGreatZgce
set_option linter.unusedSimpArgs false
set_option linter.unusedVariables false
namespace Go.Proofs.YtkbiagkbmodgdaaGreat
open Go.Ab
open Go
set_option maxRecDepth 10000
attribute [local irreducible] dE fh mC lW db PV eR ef AW bg dn ec dP cO Ab.Fin ft en gI iO RV jX Le eI fM mg gV kf dz dg
set_option maxHeartbeats 8000000
attribute [local go_sem] fp jH iW Ht EM
def pF (d:dB) (k:Nat) (ng:Bool) (pre r:List Int) (A:List cz):List cz:=A++(BT d pre r).map fun a=>⟨ng,⟨(k:Int),a⟩⟩
def pK (d:dB) (k:Nat) (ng:Bool) (pre:List Int) (t:Int) (r:List Int) (A:List cz) (j:Nat):List cz:=A++(C0 d pre t r j).map fun a=>⟨ng,⟨(k:Int),a⟩⟩
theorem HI (d:dB) (k:Nat) (ng:Bool) (pre:List Int) (A:List cz):pF d k ng pre [] A=A++[⟨ng,⟨(k:Int),pre⟩⟩]:=by rw [pF,yn];rfl
theorem C3 (d:dB) (k:Nat) (ng:Bool) (pre:List Int) (t:Int) (r:List Int) (A:List cz):pK d k ng pre t r A 0=A:=by rw [pK,vu,List.map_nil,List.append_nil]
theorem yq {d:dB} {k:Nat} {ng:Bool} {pre:List Int} {t:Int} {r:List Int} {A:List cz} {j:Nat} (h:j < (mh d t).length):pF d k ng (pre++[(mh d t)[j]]) r (pK d k ng pre t r A j)=pK d k ng pre t r A (j+1):=by
 rw [pF,pK,pK,List.append_assoc,← List.map_append,← vv h]
theorem HJ (d:dB) (k:Nat) (ng:Bool) (pre:List Int) (t:Int) (r:List Int) (A:List cz):pK d k ng pre t r A (mh d t).length=pF d k ng pre (t::r) A:=by rw [pK,ua,pF]
theorem HK (d:dB) (k:Nat) (ng:Bool) (pre:List Int) (t:Int) (r:List Int) (A:List cz) (j:Nat):(pK d k ng pre t r A j).length≤(pF d k ng pre (t::r) A).length:=by
 have:=(yo d pre t r j).length_le
 rw [pK,pF,List.length_append,List.length_append,List.length_map,List.length_map];omega
def qF (d:dB) (k:Nat) (Ng:Bool) (pre r:List Int) (B:List cz):List cz:=if Ng=true then pF d k true pre r B else B
def qK (d:dB) (k:Nat) (Ng:Bool) (pre:List Int) (t:Int) (r:List Int) (B:List cz) (j:Nat):List cz:=if Ng=true then pK d k true pre t r B j else B
theorem Ka (d:dB) (k:Nat) (Ng:Bool) (pre:List Int) (t:Int) (r:List Int) (A:List cz):qK d k Ng pre t r A 0=A:=by rw [qK,C3,ite_self]
theorem C4 {d:dB} {k:Nat} {Ng:Bool} {pre:List Int} {t:Int} {r:List Int} {A:List cz} {j:Nat} (h:j < (mh d t).length):qF d k Ng (pre++[(mh d t)[j]]) r (qK d k Ng pre t r A j)=qK d k Ng pre t r A (j+1):=by
 cases Ng
 ·rfl
 ·exact yq h
theorem Mq (d:dB) (k:Nat) (Ng:Bool) (pre:List Int) (t:Int) (r:List Int) (A:List cz):qK d k Ng pre t r A (mh d t).length=qF d k Ng pre (t::r) A:=by rw [qK,HJ,qF]
theorem Mr (d:dB) (k:Nat) (Ng:Bool) (pre:List Int) (t:Int) (r:List Int) (A:List cz) (j:Nat):(qK d k Ng pre t r A j).length≤(qF d k Ng pre (t::r) A).length:=by
 cases Ng
 ·exact Nat.le_refl _
 ·exact HK d k true pre t r A j
def rM (d:dB) (k:Nat):List cz:=(List.range k).flatMap fun (p:Nat)=>if hasB (po d) (p:Int)=true then (Ah d d.cC[p]!.ts).map fun a=>⟨false,⟨(p:Int),a⟩⟩ else []
def rN (d:dB) (k:Nat):List cz:=(List.range k).flatMap fun (p:Nat)=>if hasB (po d) (p:Int)=true then (if hasB (EG d) (p:Int)=true then (Ah d d.cC[p]!.ts).map fun a=>⟨true,⟨(p:Int),a⟩⟩ else []) else []
theorem xb (d:dB) (k:Nat):rM d (k+1)=rM d k++if hasB (po d) (k:Int)=true then (Ah d d.cC[k]!.ts).map fun a=>⟨false,⟨(k:Int),a⟩⟩ else []:=by
 rw [rM,List.range_succ,List.flatMap_append];simp [rM]
theorem xc (d:dB) (k:Nat):rN d (k+1)=rN d k++if hasB (po d) (k:Int)=true then (if hasB (EG d) (k:Int)=true then (Ah d d.cC[k]!.ts).map fun a=>⟨true,⟨(k:Int),a⟩⟩ else []) else []:=by
 rw [rN,List.range_succ,List.flatMap_append];simp [rN]
theorem rO (d:dB):∀ k,(rM d k).length≤(rY d k).length
 |0=>by simp [rM]
 |k+1=>by
  have:=rO d k
  rw [xb,rK,List.length_append,List.length_append,List.length_map]
  split
  ·rw [List.length_map];omega
  ·rw [List.length_nil];omega
theorem rP (d:dB):∀ k,(rN d k).length≤(rY d k).length
 |0=>by simp [rN]
 |k+1=>by
  have:=rP d k
  rw [xc,rK,List.length_append,List.length_append,List.length_map]
  split
  ·split
   ·rw [List.length_map];omega
   ·rw [List.length_nil];omega
  ·rw [List.length_nil];omega
def nO (d:dB):List cz:=rM d d.cC.length++rN d d.cC.length
theorem Ao (d:dB) (h:JD d) (h4:(rY d d.cC.length).length≤400):bg Tryz.prog 50 [.bx d.gs] (fun r=>r=dM (nO d)):=by
 have hp8:=h.p8
 have hhi:=h.Mb
 have hob:=h.obj
 have ho8:=h.o8
 (refine bh Tryz.func50 Tryz.ntmps50 ?_)
 (repeat' (first|(refine hK _ ?_;clear hK K)|(refine aM (fun K hK=>?_))|(refine fH 2 ab ?_;refine aP ?_)|(refine gE ?_;refine cc ?_)))
 (refine cT (bQ 1 rfl rfl rfl) ?_;simp only [go_sem,seval])
 (refine cT (iD 3 0 503 3 40 68 ab ab al) ?_;simp only [go_sem,seval])
 (refine cT (iD 4 0 504 3 40 68 ab ab al) ?_;simp only [go_sem,seval])
 (repeat' (first|(refine hK _ ?_;clear hK K)|(refine fH 3 ab ?_;refine aP ?_)|(refine aN ?_)))
 refine bU (0::2::9::10::11::12::[5,6,7,8,15,16,17,18,19,20,21,22,23,24,25,26,27,28,29,30,31,32,33,34,36,37,38,39,40,41,42,43,44,45,46,47,48,49,50,51,52,53,54,55,56]) (fun k:Nat=>k≤d.cC.length) (fun k=>d.cC.length - k) (fun k=>[(15,.int k)]) (fun k=>[(3,⟨27,[.sl 3 40 503 0 (rM d k).length],true⟩),(503,⟨68,(rM d k).flatMap ph,false⟩),(4,⟨27,[.sl 3 40 504 0 (rN d k).length],true⟩),(504,⟨68,(rN d k).flatMap ph,false⟩)]) 0 (Nat.zero_le _) ?_ ?_
 ·(refine cm ?_)
  (exact bd)
 ·rintro k hk K hK
  (refine cm ?_)
  by_cases hlt:k < d.cC.length
  ·(repeat' (first|(refine hK _ ?_;clear hK K)|(refine aM (fun K hK=>?_))|(refine fH 5 ab ?_;refine aP ?_)|(refine gE ?_;(first|(refine cc ?_)|(refine dL (fun _=>?_))))|(refine gQ ?_;refine aS (fun hc=>?_) (fun hc=>?_)<;>(try (first|contradiction|omega)))|(refine aN ?_)|(refine gS ?_;refine aX ?_)))
   (refine cT (bQ 5 rfl rfl rfl) ?_;simp only [go_sem,seval])
   (refine cT (bQ 6 rfl rfl rfl) ?_;simp only [go_sem,seval])
   have hmk:k < (P1 d).length:=by rw [iH];exact hlt
   have hmn:k < (P2 d).length:=by rw [iH];exact hlt
   have hmg:=rD hmk
   have hng:=rD hmn
   have hls:=xb d k
   have hms:=xc d k
   rw [bY hlt] at hls hms
   cases hf:hasB (po d) (k:Int) with
   |false=>
    rw [hf] at hmg hls hms
    simp only [Bool.false_eq_true,if_false,List.append_nil] at hls hms
    (repeat' (first|(refine hK _ ?_;clear hK K)|(refine aM (fun K hK=>?_))|(refine fH 6 ab ?_;refine aP ?_)|(refine gD 5 ?_;refine fg (.it 0 0 (.it 1 0 (.it 2 0 (.it 3 0 (.it 4 0 (.it 5 0 (.it 6 0 (.it 7 0 .nil)))))))) [0,1,2,3,4,5,6,7] ?_)|(refine gE ?_;(first|(refine cc ?_)|(refine dL (fun _=>?_))))|(refine gQ ?_;refine aS (fun hc=>?_) (fun hc=>?_)<;>(try (first|contradiction|omega)))|(refine gX ?_;refine bV ?_)|(refine gS ?_;refine aX ?_)|(apply_assumption (exfalso:=false) (symm:=false))))
    ·refine ⟨k+1,by omega,by omega,?_⟩
     rw [hls,hms]
     (refine cm ?_)
     (exact bd)
    ·exfalso;simp_all
   |true=>
    rw [hf] at hmg hls hms
    simp only [if_true] at hls hms
    (repeat' (first|(refine hK _ ?_;clear hK K)|(refine aM (fun K hK=>?_))|(refine fH 6 ab ?_;refine aP ?_)|(refine gD 5 ?_;refine fg (.it 0 0 (.it 1 0 (.it 2 0 (.it 3 0 (.it 4 0 (.it 5 0 (.it 6 0 (.it 7 0 .nil)))))))) [0,1,2,3,4,5,6,7] ?_)|(refine gE ?_;(first|(refine cc ?_)|(refine dL (fun _=>?_))))|(refine gQ ?_;refine aS (fun hc=>?_) (fun hc=>?_)<;>(try (first|contradiction|omega)))|(refine gX ?_;refine bV ?_)|(refine gS ?_;refine aX ?_)|(apply_assumption (exfalso:=false) (symm:=false))))
    ·exfalso;simp_all
    ·(repeat' (first|(refine hK _ ?_;clear hK K)|(refine gD 6 ?_;refine fg (.it 0 0 (.it 1 0 (.it 2 0 (.it 3 0 (.it 4 0 (.it 5 0 (.it 6 1 .nil))))))) [0,1,2,3,4,5] ?_)|(refine kK 109 ?_;refine dw (qv _ _) ?_)|(refine aN ?_)))
     refine mJ [0,2,6,7,8,9,10,11,12,16,17,18,19,20,21,22,23,24,25,26,27,28,29,30,31,32,33] ?_
     simp only [jw,List.set_cons_succ,List.set_cons_zero]
     have hp:=h.P0 d.cC[k] (List.getElem_mem hlt)
     have hmono:=Ai d (j:=k+1) (n:=d.cC.length) aj
     have hll:=rO d (k+1)
     have hml:=rP d (k+1)
     generalize hw:d.cC[k].ts=w at *
     obtain ⟨Ng,hNg⟩:∃ b,hasB (EG d) (k:Int)=b:=⟨_,rfl⟩
     rw [hNg] at hng hms
     have hqa:pF d k false [] w (rM d k)=rM d (k+1):=by
      rw [hls,pF,BT];simp
     have hqb:qF d k Ng [] w (rN d k)=rN d (k+1):=by
      rw [hms,qF]
      cases Ng
      ·simp
      ·rw [pF,BT];simp
     have hK9:=hK
     refine jC 1000000001 ab aw ae ae ae Tryz.func158 Tryz.ntmps158 ab ab (fun y hyp hya hyb=>?_)
     simp only [go_sem,seval,dj,aV,List.length_cons,List.length_nil,List.replicate_succ,List.replicate_zero,Nat.reduceSub]
     have key:∀ (r pre:List Int) (A B:List cz),w=w.take pre.length++r→pre.length+r.length=w.length→(pF d k false pre r A).length≤400→(qF d k Ng pre r B).length≤400→
       cO Tryz.prog 159 [ints pre,.bx [ints w],.ptr 703 0,.bx d.cs,.ptr 704 0] [(3,⟨27,[.sl 3 40 503 0 (A).length],true⟩),(503,⟨68,(A).flatMap ph,false⟩),(4,⟨27,[.sl 3 40 504 0 (B).length],true⟩),(504,⟨68,(B).flatMap ph,false⟩),(1000000001,⟨1000000001,[.any,.bx [.bx d.gs],.any,.ptr 3 0,.ptr 4 0,.bx [.int (k:Int)],.any,.any,.any,.any,.any,.any,.any,fi d.cC,.int (d.cC.length:Int),.int (k:Int),.any,.any,.any,.any,.any,.any,.any,.any,.any,.any,.any,.any,.any,.any,.any,.any,.any,.any,.fn 158 [.bx [ints w],.bx d.cs],.any,.any,.any,.any,.any,.any,.any,.any,.any,.any,.any,.any,.any,.any,.any,.any,.any,.any,.any,.any,.any,.any,.any,.any,.any],false⟩),(703,⟨246,[.yl 1000000001 y],true⟩),(704,⟨246,[.fn 159 [.bx [ints w],.ptr 703 0,.bx d.cs,.ptr 704 0]],true⟩)] [] [703,704]
        (fun x hp=>x= .bool true∧hp=[(3,⟨27,[.sl 3 40 503 0 (pF d k false pre r A).length],true⟩),(503,⟨68,(pF d k false pre r A).flatMap ph,false⟩),(4,⟨27,[.sl 3 40 504 0 (qF d k Ng pre r B).length],true⟩),(504,⟨68,(qF d k Ng pre r B).flatMap ph,false⟩),(1000000001,⟨1000000001,[.any,.bx [.bx d.gs],.any,.ptr 3 0,.ptr 4 0,.bx [.int (k:Int)],.any,.any,.any,.any,.any,.any,.any,fi d.cC,.int (d.cC.length:Int),.int (k:Int),.any,.any,.any,.any,.any,.any,.any,.any,.any,.any,.any,.any,.any,.any,.any,.any,.any,.any,.fn 158 [.bx [ints w],.bx d.cs],.any,.any,.any,.any,.any,.any,.any,.any,.any,.any,.any,.any,.any,.any,.any,.any,.any,.any,.any,.any,.any,.any,.any,.any,.any],false⟩),(703,⟨246,[.yl 1000000001 y],true⟩),(704,⟨246,[.fn 159 [.bx [ints w],.ptr 703 0,.bx d.cs,.ptr 704 0]],true⟩)]):=by
      intro r
      induction r with
      |nil=>
       intro pre A B hr hl hA hB
       rw [HI] at hA ⊢
       simp only [List.length_nil,Nat.add_zero,List.length_append,List.length_singleton] at hl hA
       cases Ng with
       |true=>
        rw [qF,if_pos rfl,HI] at hB ⊢
        simp only [List.length_append,List.length_singleton] at hB
        (refine ck Tryz.func159 Tryz.ntmps159 ?_)
        (repeat' (first|(refine hK _ ?_;clear hK K)|(refine aM (fun K hK=>?_))|(refine fH 2 ab ?_;refine aP ?_)|(refine gQ ?_;refine aS (fun hc=>?_) (fun hc=>?_)<;>(try (first|contradiction|omega)))))
        refine iQ ab ?_
        intro o ho
        have ho2:o∈[[0,1,2,3,4],[1,0,2,3,4],[1,2,0,3,4]]:=by
         refine Eq.mp (congrArg (o∈·) ?_) ho
         kernel_rfl
        simp only [List.mem_cons,List.not_mem_nil,or_false] at ho2
        rcases ho2 with rfl|rfl|rfl
        ·simp only [List.filterMap_cons,List.filterMap_nil,List.getElem?_toArray,List.getElem?_cons_zero,List.getElem?_cons_succ]
         (first|(refine bL _ ai ?_)|(refine bM ai an ?_));(try simp only [go_sem,seval,dj,aV])
         (first|(refine bL _ ai ?_)|(refine bM ai an ?_));(try simp only [go_sem,seval,dj,aV])
         refine bu rfl rfl (fun K1 hK1=>?_)
         refine cH (cP _) ab (fun x hx=>?_)
         obtain rfl:=hx
         simp only [go_sem,seval];refine hK1 _ ?_;clear hK1 K1
         refine bX 1000000002 hyp hya hyb ab ab ab ab ab aw aw aw ab ae ab ab ?_
         simp only [go_sem,seval]
         refine gR ?_;refine aP ?_
         refine ⟨_,_,Le.refl _,by rfl,by rfl,?_⟩
         simp only [go_sem,seval]
         (repeat' (first|(refine hK _ ?_;clear hK K)|(refine aM (fun K hK=>?_))|(refine gR ?_;refine aP ?_)|(refine gD 10 ?_;refine fg (.it 0 0 (.it 1 0 (.it 2 0 (.it 3 0 (.it 4 0 (.it 5 0 (.it 6 0 .nil))))))) [0,1,2,3,4,5,6] ?_)|(refine bn (fun K hK=>?_);refine cF ?_)|(refine gE ?_;(first|(refine cc ?_)|(refine dL (fun _=>?_))))|(refine gQ ?_;refine aS (fun hc=>?_) (fun hc=>?_)<;>(try (first|contradiction|omega)))|(refine gW ?_;refine bN ?_)|(refine aN ?_)|(refine gS ?_;refine aX ?_)))
         all_goals first
          |exact absurd (hng.symm.trans hc) aw
          |exact absurd hng hc
          |skip
         (try simp only [Nat.reduceBEq,Bool.false_or,Bool.or_false,Bool.false_eq_true,reduceIte])
         refine ⟨_,_,_,1000000001,Le.refl _,by rfl,by rfl,by rfl,rfl,?_⟩
         simp only [go_sem,seval]
         refine bu rfl rfl (fun K1 hK1=>?_)
         refine bK cU ?_
         simp only [go_sem,seval];refine hK1 _ ?_;clear hK1 K1
         refine cA ?_
         (repeat' (first|(refine hK _ ?_;clear hK K)|(refine gT ?_;refine aZ ?_)))
         (refine bH (Le.refl _) (aQ (aO ab)) (by (repeat refine bq ab ?_);exact aY _) ab ae ⟨rfl,rfl⟩)
        ·simp only [List.filterMap_cons,List.filterMap_nil,List.getElem?_toArray,List.getElem?_cons_zero,List.getElem?_cons_succ]
         (first|(refine bL _ ai ?_)|(refine bM ai an ?_));(try simp only [go_sem,seval,dj,aV])
         (first|(refine bL _ ai ?_)|(refine bM ai an ?_));(try simp only [go_sem,seval,dj,aV])
         refine bu rfl rfl (fun K1 hK1=>?_)
         refine cH (cP _) ab (fun x hx=>?_)
         obtain rfl:=hx
         simp only [go_sem,seval];refine hK1 _ ?_;clear hK1 K1
         refine bX 1000000002 hyp hya hyb ab ab ab ab ab aw aw aw ab ae ab ab ?_
         simp only [go_sem,seval]
         refine gR ?_;refine aP ?_
         refine ⟨_,_,Le.refl _,by rfl,by rfl,?_⟩
         simp only [go_sem,seval]
         (repeat' (first|(refine hK _ ?_;clear hK K)|(refine aM (fun K hK=>?_))|(refine gR ?_;refine aP ?_)|(refine gD 10 ?_;refine fg (.it 0 0 (.it 1 0 (.it 2 0 (.it 3 0 (.it 4 0 (.it 5 0 (.it 6 0 .nil))))))) [0,1,2,3,4,5,6] ?_)|(refine bn (fun K hK=>?_);refine cF ?_)|(refine gE ?_;(first|(refine cc ?_)|(refine dL (fun _=>?_))))|(refine gQ ?_;refine aS (fun hc=>?_) (fun hc=>?_)<;>(try (first|contradiction|omega)))|(refine gW ?_;refine bN ?_)|(refine aN ?_)|(refine gS ?_;refine aX ?_)))
         all_goals first
          |exact absurd (hng.symm.trans hc) aw
          |exact absurd hng hc
          |skip
         (try simp only [Nat.reduceBEq,Bool.false_or,Bool.or_false,Bool.false_eq_true,reduceIte])
         refine ⟨_,_,_,1000000001,Le.refl _,by rfl,by rfl,by rfl,rfl,?_⟩
         simp only [go_sem,seval]
         refine bu rfl rfl (fun K1 hK1=>?_)
         refine bK cU ?_
         simp only [go_sem,seval];refine hK1 _ ?_;clear hK1 K1
         refine cA ?_
         (repeat' (first|(refine hK _ ?_;clear hK K)|(refine gT ?_;refine aZ ?_)))
         (refine bH (Le.refl _) (aQ (aO ab)) (by (repeat refine bq ab ?_);exact aY _) ab ae ⟨rfl,rfl⟩)
        ·simp only [List.filterMap_cons,List.filterMap_nil,List.getElem?_toArray,List.getElem?_cons_zero,List.getElem?_cons_succ]
         (first|(refine bL _ ai ?_)|(refine bM ai an ?_));(try simp only [go_sem,seval,dj,aV])
         refine bu rfl rfl (fun K1 hK1=>?_)
         refine cH (cP _) ab (fun x hx=>?_)
         obtain rfl:=hx
         simp only [go_sem,seval];refine hK1 _ ?_;clear hK1 K1
         (first|(refine bL _ ai ?_)|(refine bM ai an ?_));(try simp only [go_sem,seval,dj,aV])
         refine bX 1000000002 hyp hya hyb ab ab ab ab ab aw aw aw ab ae ab ab ?_
         simp only [go_sem,seval]
         refine gR ?_;refine aP ?_
         refine ⟨_,_,Le.refl _,by rfl,by rfl,?_⟩
         simp only [go_sem,seval]
         (repeat' (first|(refine hK _ ?_;clear hK K)|(refine aM (fun K hK=>?_))|(refine gR ?_;refine aP ?_)|(refine gD 10 ?_;refine fg (.it 0 0 (.it 1 0 (.it 2 0 (.it 3 0 (.it 4 0 (.it 5 0 (.it 6 0 .nil))))))) [0,1,2,3,4,5,6] ?_)|(refine bn (fun K hK=>?_);refine cF ?_)|(refine gE ?_;(first|(refine cc ?_)|(refine dL (fun _=>?_))))|(refine gQ ?_;refine aS (fun hc=>?_) (fun hc=>?_)<;>(try (first|contradiction|omega)))|(refine gW ?_;refine bN ?_)|(refine aN ?_)|(refine gS ?_;refine aX ?_)))
         all_goals first
          |exact absurd (hng.symm.trans hc) aw
          |exact absurd hng hc
          |skip
         (try simp only [Nat.reduceBEq,Bool.false_or,Bool.or_false,Bool.false_eq_true,reduceIte])
         refine ⟨_,_,_,1000000001,Le.refl _,by rfl,by rfl,by rfl,rfl,?_⟩
         simp only [go_sem,seval]
         refine bu rfl rfl (fun K1 hK1=>?_)
         refine bK cU ?_
         simp only [go_sem,seval];refine hK1 _ ?_;clear hK1 K1
         refine cA ?_
         (repeat' (first|(refine hK _ ?_;clear hK K)|(refine gT ?_;refine aZ ?_)))
         (refine bH (Le.refl _) (aQ (aO ab)) (by (repeat refine bq ab ?_);exact aY _) ab ae ⟨rfl,rfl⟩)
       |false=>
        rw [qF,if_neg ax] at hB ⊢
        (refine ck Tryz.func159 Tryz.ntmps159 ?_)
        (repeat' (first|(refine hK _ ?_;clear hK K)|(refine aM (fun K hK=>?_))|(refine fH 2 ab ?_;refine aP ?_)|(refine gQ ?_;refine aS (fun hc=>?_) (fun hc=>?_)<;>(try (first|contradiction|omega)))))
        refine iQ ab ?_
        intro o ho
        have ho2:o∈[[0,1,2,3,4],[1,0,2,3,4],[1,2,0,3,4]]:=by
         refine Eq.mp (congrArg (o∈·) ?_) ho
         kernel_rfl
        simp only [List.mem_cons,List.not_mem_nil,or_false] at ho2
        rcases ho2 with rfl|rfl|rfl
        ·simp only [List.filterMap_cons,List.filterMap_nil,List.getElem?_toArray,List.getElem?_cons_zero,List.getElem?_cons_succ]
         (first|(refine bL _ ai ?_)|(refine bM ai an ?_));(try simp only [go_sem,seval,dj,aV])
         (first|(refine bL _ ai ?_)|(refine bM ai an ?_));(try simp only [go_sem,seval,dj,aV])
         refine bu rfl rfl (fun K1 hK1=>?_)
         refine cH (cP _) ab (fun x hx=>?_)
         obtain rfl:=hx
         simp only [go_sem,seval];refine hK1 _ ?_;clear hK1 K1
         refine bX 1000000002 hyp hya hyb ab ab ab ab ab aw aw aw ab ae ab ab ?_
         simp only [go_sem,seval]
         refine gR ?_;refine aP ?_
         refine ⟨_,_,Le.refl _,by rfl,by rfl,?_⟩
         simp only [go_sem,seval]
         (repeat' (first|(refine hK _ ?_;clear hK K)|(refine aM (fun K hK=>?_))|(refine gR ?_;refine aP ?_)|(refine gD 10 ?_;refine fg (.it 0 0 (.it 1 0 (.it 2 0 (.it 3 0 (.it 4 0 (.it 5 0 (.it 6 0 .nil))))))) [0,1,2,3,4,5,6] ?_)|(refine bn (fun K hK=>?_);refine cF ?_)|(refine gE ?_;(first|(refine cc ?_)|(refine dL (fun _=>?_))))|(refine gQ ?_;refine aS (fun hc=>?_) (fun hc=>?_)<;>(try (first|contradiction|omega)))|(refine gW ?_;refine bN ?_)|(refine aN ?_)|(refine gS ?_;refine aX ?_)))
         all_goals first
          |exact absurd (hng.symm.trans hc) aw
          |exact absurd hng hc
          |skip
         (try simp only [Nat.reduceBEq,Bool.false_or,Bool.or_false,Bool.false_eq_true,reduceIte])
         refine ⟨_,_,_,1000000001,Le.refl _,by rfl,by rfl,by rfl,rfl,?_⟩
         simp only [go_sem,seval]
         refine bu rfl rfl (fun K1 hK1=>?_)
         refine bK cU ?_
         simp only [go_sem,seval];refine hK1 _ ?_;clear hK1 K1
         refine cA ?_
         (repeat' (first|(refine hK _ ?_;clear hK K)|(refine gT ?_;refine aZ ?_)))
         (refine bH (Le.refl _) (aQ (aO ab)) (by (repeat refine bq ab ?_);exact aY _) ab ae ⟨rfl,rfl⟩)
        ·simp only [List.filterMap_cons,List.filterMap_nil,List.getElem?_toArray,List.getElem?_cons_zero,List.getElem?_cons_succ]
         (first|(refine bL _ ai ?_)|(refine bM ai an ?_));(try simp only [go_sem,seval,dj,aV])
         (first|(refine bL _ ai ?_)|(refine bM ai an ?_));(try simp only [go_sem,seval,dj,aV])
         refine bu rfl rfl (fun K1 hK1=>?_)
         refine cH (cP _) ab (fun x hx=>?_)
         obtain rfl:=hx
         simp only [go_sem,seval];refine hK1 _ ?_;clear hK1 K1
         refine bX 1000000002 hyp hya hyb ab ab ab ab ab aw aw aw ab ae ab ab ?_
         simp only [go_sem,seval]
         refine gR ?_;refine aP ?_
         refine ⟨_,_,Le.refl _,by rfl,by rfl,?_⟩
         simp only [go_sem,seval]
         (repeat' (first|(refine hK _ ?_;clear hK K)|(refine aM (fun K hK=>?_))|(refine gR ?_;refine aP ?_)|(refine gD 10 ?_;refine fg (.it 0 0 (.it 1 0 (.it 2 0 (.it 3 0 (.it 4 0 (.it 5 0 (.it 6 0 .nil))))))) [0,1,2,3,4,5,6] ?_)|(refine bn (fun K hK=>?_);refine cF ?_)|(refine gE ?_;(first|(refine cc ?_)|(refine dL (fun _=>?_))))|(refine gQ ?_;refine aS (fun hc=>?_) (fun hc=>?_)<;>(try (first|contradiction|omega)))|(refine gW ?_;refine bN ?_)|(refine aN ?_)|(refine gS ?_;refine aX ?_)))
         all_goals first
          |exact absurd (hng.symm.trans hc) aw
          |exact absurd hng hc
          |skip
         (try simp only [Nat.reduceBEq,Bool.false_or,Bool.or_false,Bool.false_eq_true,reduceIte])
         refine ⟨_,_,_,1000000001,Le.refl _,by rfl,by rfl,by rfl,rfl,?_⟩
         simp only [go_sem,seval]
         refine bu rfl rfl (fun K1 hK1=>?_)
         refine bK cU ?_
         simp only [go_sem,seval];refine hK1 _ ?_;clear hK1 K1
         refine cA ?_
         (repeat' (first|(refine hK _ ?_;clear hK K)|(refine gT ?_;refine aZ ?_)))
         (refine bH (Le.refl _) (aQ (aO ab)) (by (repeat refine bq ab ?_);exact aY _) ab ae ⟨rfl,rfl⟩)
        ·simp only [List.filterMap_cons,List.filterMap_nil,List.getElem?_toArray,List.getElem?_cons_zero,List.getElem?_cons_succ]
         (first|(refine bL _ ai ?_)|(refine bM ai an ?_));(try simp only [go_sem,seval,dj,aV])
         refine bu rfl rfl (fun K1 hK1=>?_)
         refine cH (cP _) ab (fun x hx=>?_)
         obtain rfl:=hx
         simp only [go_sem,seval];refine hK1 _ ?_;clear hK1 K1
         (first|(refine bL _ ai ?_)|(refine bM ai an ?_));(try simp only [go_sem,seval,dj,aV])
         refine bX 1000000002 hyp hya hyb ab ab ab ab ab aw aw aw ab ae ab ab ?_
         simp only [go_sem,seval]
         refine gR ?_;refine aP ?_
         refine ⟨_,_,Le.refl _,by rfl,by rfl,?_⟩
         simp only [go_sem,seval]
         (repeat' (first|(refine hK _ ?_;clear hK K)|(refine aM (fun K hK=>?_))|(refine gR ?_;refine aP ?_)|(refine gD 10 ?_;refine fg (.it 0 0 (.it 1 0 (.it 2 0 (.it 3 0 (.it 4 0 (.it 5 0 (.it 6 0 .nil))))))) [0,1,2,3,4,5,6] ?_)|(refine bn (fun K hK=>?_);refine cF ?_)|(refine gE ?_;(first|(refine cc ?_)|(refine dL (fun _=>?_))))|(refine gQ ?_;refine aS (fun hc=>?_) (fun hc=>?_)<;>(try (first|contradiction|omega)))|(refine gW ?_;refine bN ?_)|(refine aN ?_)|(refine gS ?_;refine aX ?_)))
         all_goals first
          |exact absurd (hng.symm.trans hc) aw
          |exact absurd hng hc
          |skip
         (try simp only [Nat.reduceBEq,Bool.false_or,Bool.or_false,Bool.false_eq_true,reduceIte])
         refine ⟨_,_,_,1000000001,Le.refl _,by rfl,by rfl,by rfl,rfl,?_⟩
         simp only [go_sem,seval]
         refine bu rfl rfl (fun K1 hK1=>?_)
         refine bK cU ?_
         simp only [go_sem,seval];refine hK1 _ ?_;clear hK1 K1
         refine cA ?_
         (repeat' (first|(refine hK _ ?_;clear hK K)|(refine gT ?_;refine aZ ?_)))
         (refine bH (Le.refl _) (aQ (aO ab)) (by (repeat refine bq ab ?_);exact aY _) ab ae ⟨rfl,rfl⟩)
      |cons t r ih=>
       intro pre A B hr hl hA hB
       have hlen:(t::r).length=r.length+1:=rfl
       rw [hlen] at hl
       have hne:¬((pre.length:Int)=(w.length:Int)):=by omega
       have hwt:w[pre.length]?=some t:=by
        have h1:(w.take pre.length).length=pre.length:=by rw [List.length_take];omega
        have h2:(w.take pre.length++t::r)[pre.length]?=some t:=by
         rw [List.getElem?_append_right (Nat.le_of_eq h1),h1,Nat.sub_self];rfl
        rwa [← hr] at h2
       have hpw:pre.length < w.length:=by omega
       have hwe:w[pre.length]=t:=by rw [List.getElem?_eq_getElem hpw] at hwt;exact Option.some.inj hwt
       (refine ck Tryz.func159 Tryz.ntmps159 ?_)
       (repeat' (first|(refine hK _ ?_;clear hK K)|(refine aM (fun K hK=>?_))|(refine gR ?_;refine aP ?_)|(refine gD 3 ?_;refine fg (.it 0 0 (.it 1 0 (.it 2 0 (.it 3 0 (.it 4 0 (.it 5 0 (.it 6 0 (.it 7 0 (.it 8 0 (.it 11 0 (.it 9 1 (.it 10 0 .nil)))))))))))) [0,1,2,3,4,5,6,7,8,10,11] ?_)|(refine kK 160 ?_;refine dw (Hn _ _ _ az az az) ?_)|(refine gE ?_;refine dL (fun _=>?_))|(refine gQ ?_;refine aS (fun hc=>?_) (fun hc=>?_)<;>(try (first|contradiction|omega)))|(refine aN ?_)|(refine gS ?_;refine aX ?_)))
       have hoe:CZ d.types d.dT t d.dT.length=mh d t:=rfl
       simp only [hwe,hoe]
       have hof:=pg d.types d.dT t d.dT.length
       rw [hoe] at hof
       refine bU [6,8,29,30,31,32,33,34,35,36,37,38,39,40,41] (fun j:Nat=>j≤(mh d t).length) (fun j=>(mh d t).length - j) (fun j=>[(29,.int j)]) (fun j=>[(3,⟨27,[.sl 3 40 503 0 (pK d k false pre t r A j).length],true⟩),(503,⟨68,(pK d k false pre t r A j).flatMap ph,false⟩),(4,⟨27,[.sl 3 40 504 0 (qK d k Ng pre t r B j).length],true⟩),(504,⟨68,(qK d k Ng pre t r B j).flatMap ph,false⟩)]) 0 (Nat.zero_le _) ?_ ?_
       ·rw [C3,Ka]
        (refine cm ?_)
        (exact bd)
       ·rintro j hj K hK
        (refine cm ?_)
        by_cases hlt:j < (mh d t).length
        ·have ihj:=ih (pre++[(mh d t)[j]]) (pK d k false pre t r A j) (qK d k Ng pre t r B j) (by
          rw [List.length_append,List.length_singleton,List.take_add_one,hwt,Option.toList_some,List.append_assoc];exact hr) (by rw [List.length_append,List.length_singleton];omega)
          (by rw [yq hlt];exact Nat.le_trans (HK d k false pre t r A (j+1)) hA) (by rw [C4 hlt];exact Nat.le_trans (Mr d k Ng pre t r B (j+1)) hB)
         rw [yq hlt,C4 hlt] at ihj
         have hprb:(pre.length+1) * 8≤140737488355328:=by omega
         simp only [ints,List.map_append,List.map_cons,List.map_nil] at ihj
         (repeat' (first|(refine hK _ ?_;clear hK K)|(refine aM (fun K hK=>?_))|(refine fH 6 ab ?_;refine aP ?_)|(refine gE ?_;refine dL (fun _=>?_))|(refine gQ ?_;refine aS (fun hc=>?_) (fun hc=>?_)<;>(try (first|contradiction|omega)))|(refine aN ?_)|(refine gS ?_;refine aX ?_)))
         (repeat' (first|(refine hK _ ?_;clear hK K)|(refine gD 6 ?_;refine wx (s1:=?_) (.it 1 0 (.it 3 0 (.yN 0 2 4 (.fk 2 4 (.it 4 1 (.it 5 3 (.it 6 3 (.it 7 1 .nil)))) (.it 2 1 (.it 5 3 (.it 6 3 (.it 7 1 .nil))))) (.fk 0 4 (.it 4 1 (.it 5 3 (.it 6 3 (.it 7 1 .nil)))) (.oh 0 1 5 3 (.it 5 3 (.it 6 3 (.it 7 1 .nil))) (.it 0 1 (.it 6 3 (.it 7 1 .nil))))) (.fk 0 2 (.it 2 1 (.it 5 3 (.it 6 3 (.it 7 1 .nil)))) (.oh 0 1 5 3 (.it 5 3 (.it 6 3 (.it 7 1 .nil))) (.it 0 1 (.it 6 3 (.it 7 1 .nil)))))))) [1,3] ?_ ?_;rotate_left)|(refine dk (fun K hK=>?_);(first|(refine na (d:=some 35) (pd 35000 _) ab (by first|exact qA al|(intro id hid;simp only [List.mem_cons,List.not_mem_nil,or_false] at hid;rcases hid with rfl|rfl|rfl|rfl<;>first|rfl|(simp only [go_sem,seval];done)|(simp only [St.free,cI,go_sem,seval];done)|(simp only [go_sem,seval];rfl)|(simp [St.free,cI,AV.bz,AV.cv];try exact eU _ _ _ fun _=>rfl))) (fun x hp hx=>?_);obtain ⟨rfl,rfl⟩:=hx)|(refine dq (d:=37) aC ab ab ab ab ?_)))|(refine And.intro ?_ ?_)|(refine tO ?_;refine ko ?_)|(refine gH (fun K hK=>?_);refine cF ?_)|(refine kj ?_;refine eK ?_)|(apply_assumption (exfalso:=false) (symm:=false))))
         all_goals (try (refine gH (fun K hK=>?_);(try simp only [Nat.reduceBEq,Bool.or_false,Bool.false_or,Bool.false_eq_true,reduceIte]);refine fD (fx (f:=AV.int) 35005 1 8 (pre.length+1) (pre++[(mh d t)[j]]) ab (by rw [ky,List.map_append];rfl) ax (fun _=>rfl) (fun _=>rfl) aj) ?_;simp only [AV.eG,sealS_any,sealS_v,sealS_isl,sealS_iptr,er,eW,sealS_agg,sealS_tup,sealS_fn,purge_agg,purge_tup,purge_fn,and_self,AV.bz,AV.cv,Bool.or_self,go_sem,seval,List.map_append,List.map_cons,List.map_nil];(refine dQ ab (ihj) (by (repeat (first|exact bP|refine bA ab ?_))) (fun _ h=>by cases h) ab (fun x hp' hx=>?_);obtain ⟨rfl,rfl⟩:=hx<;>simp only [go_sem,seval,dj,aV]);refine hK _ ?_;clear hK K;(repeat' (first|(refine tO ?_;refine ko ?_)|(refine gL ?_;(first|exact Le.refl _|exact bd))|(refine kj ?_;refine eK ?_)))))
         (repeat' (first|(refine gR ?_;refine aP ?_)|(refine gE ?_;refine cc ?_)|(refine gQ ?_;refine bT ?_)|(refine gS ?_;refine aX ?_)|(apply_assumption (exfalso:=false) (symm:=false))))
         refine ⟨j+1,by omega,by omega,?_⟩
         (refine cm ?_)
         (exact bd)
        ·obtain rfl:j=(mh d t).length:=by omega
         rw [HJ,Mq]
         (repeat' (first|(refine hK _ ?_;clear hK K)|(refine aM (fun K hK=>?_))|(refine gR ?_;refine aP ?_)|(refine gQ ?_;refine aS (fun hc=>?_) (fun hc=>?_)<;>(try (first|contradiction|omega)))|(refine gX ?_;refine bV ?_)|(refine gT ?_;refine aZ ?_)|(apply_assumption (exfalso:=false) (symm:=false))))
         (refine bH (Le.refl _) (aQ (aO ab)) (by (repeat refine bq ab ?_);exact aY _) ab ae ⟨rfl,rfl⟩)
     refine aM (fun K hK=>?_)
     refine dG ?_
     refine cp rfl (fun K1 hK1=>?_)
     refine ke (d:=3) 703 ae (.inl rfl) ae ?_
     simp only [go_sem,seval];refine hK1 _ ?_;clear hK1 K1
     refine jQ ?_
     refine hK _ ?_;clear hK K
     refine aM (fun K hK=>?_)
     refine dG ?_
     refine cp rfl (fun K1 hK1=>?_)
     refine mB (d:=4) 704 ae ?_
     simp only [go_sem,seval];refine hK1 _ ?_;clear hK1 K1
     refine jQ ?_
     refine hK _ ?_;clear hK K
     have kb:=uI (args':=[.fS,.bx [ints w],.ptr 703 0,.bx d.cs,.ptr 704 0]) (key w [] (rM d k) (rN d k) ax ax (by rw [hqa];omega) (by rw [hqb];omega)) ⟨iP.nil 1 8,iP.iB _,iP.iB _,iP.iB _,iP.iB _,trivial⟩
     rw [hqa,hqb] at kb
     clear key
     (repeat' (first|(refine aM (fun K hK=>?_))|(refine fH 3 ab ?_;refine aP ?_)|fail))
     refine bn (fun K hK=>?_)
     refine bK cD ?_
     simp only [go_sem,seval]
     refine hK _ ?_;clear hK K
     (repeat' (first|(refine hK _ ?_;clear hK K)|(refine gW ?_;refine bN ?_)))
     refine gR ?_;refine aP ?_
     refine bn (fun K hK=>?_)
     (refine dQ ab (kb) (by (repeat (first|exact bP|refine bA ab ?_))) (fun _ h=>by cases h) ab (fun x hp' hx=>?_);obtain ⟨rfl,rfl⟩:=hx<;>simp only [go_sem,seval,dj,aV])
     refine hK _ ?_;clear hK K
     (repeat' (refine gW ?_;refine bN ?_))
     refine ⟨_,_,.normal,1000000001,_,Le.refl _,gp,rfl,by rfl,?_⟩
     simp only [go_sem,seval,dj,aV]
     refine hK9 _ ?_
     clear hK9 hK
     (repeat' (first|(refine hK _ ?_;clear hK K)|(refine gR ?_;refine aP ?_)|(refine gE ?_;refine cc ?_)))
     refine ⟨k+1,by omega,by omega,?_⟩
     (refine cm ?_)
     (exact bd)
  ·obtain rfl:k=d.cC.length:=by omega
   have hll:=rO d d.cC.length
   have hml:=rP d d.cC.length
   have hall:nO d=rM d d.cC.length++rN d d.cC.length:=rfl
   generalize rM d d.cC.length=X at *
   generalize rN d d.cC.length=Y at *
   (repeat' (first|(refine hK _ ?_;clear hK K)|(refine aM (fun K hK=>?_))|(refine fH 13 ab ?_;refine aP ?_)|(refine gQ ?_;refine aS (fun hc=>?_) (fun hc=>?_)<;>(try (first|contradiction|omega)))|(refine gX ?_;refine bV ?_)|(apply_assumption (exfalso:=false) (symm:=false))))
   (refine cT (eg (f:=cz.av) 504 3 40 Y.length Y ab (gv _) aJ (fun _=>rfl) (fun _=>rfl) aj) ?_;try simp only [go_sem,seval])
   (repeat' (first|(refine hK _ ?_;clear hK K)|(refine gR ?_;refine aP ?_)|(refine bn (fun K hK=>?_);refine cF ?_)|(refine gW ?_;refine bN ?_)|(refine gT ?_;refine aZ ?_)))
   rw [hall]
   refine xG (f:=cz.av) (X++Y) rfl ab (by rw [gv,yp];rfl) ax (fun _=>rfl) (fun _=>rfl) aj rfl
structure Act where
 Mc:Int
 args:List Int
 pre:List cz
 add:List cz
 del:List cz
 cost:Int
abbrev j4 (x:Act):List AV:=[.int x.Mc,ints x.args,dM x.pre,dM x.add,dM x.del,.int x.cost]
abbrev Act.av (x:Act):AV:=.agg (j4 x)
abbrev HL (l:List Act):AV:=.cr 6 112 (l.map Act.av)
@[go_sem] theorem xd (l:List Act):(l.map Act.av).flatMap AV.cells=l.flatMap j4:=by rw [List.flatMap_map];rfl
@[go_sem] theorem N9 (a b:List Act):(a++b).flatMap j4=a.flatMap j4++b.flatMap j4:=List.flatMap_append
@[go_sem] theorem Oa (l:List Act):(l.flatMap j4).length=l.length * 6:=by
 induction l with
 |nil=>rfl
 |cons w l ih=>simp [List.flatMap_cons,ih];omega
theorem rQ (l:List Act):AV.cj (l.flatMap j4)=true:=fK j4 l fun _=>rfl
@[go_sem] theorem Ms (id:Nat) (l:List Act):AV.ct id (l.flatMap j4)=l.flatMap j4:=gY id j4 l fun _=>rfl
@[go_sem] theorem Nc (id:Nat) (l:List Act):AV.bz id (l.flatMap j4)=false:=eU id j4 l fun _=>rfl
@[go_sem] theorem Mt (id sz bw n:Nat) (es:List AV) (l:List Act):AV.du id sz bw n es (l.flatMap j4)=l.flatMap j4:=ew (rQ l)
@[go_sem] theorem Ob (ids pins:List Nat) (l:List Act):AV.iN ids pins (l.flatMap j4)=l.flatMap j4:=kO (rQ l)
@[go_sem] theorem Oc (ids:List Nat) (l:List Act):AV.iZ ids (l.flatMap j4)=true:=mH (rQ l)
@[go_sem] theorem Mu (id:Nat) (c:List AV) (l:List Act):AV.eJ id c (l.flatMap j4)=l.flatMap j4:=gq (rQ l)
theorem BZ (d:dB):bg Tryz.prog 52 [.bx d.gs] (fun r=>r= .fn 111 [.bx [.bx d.gs]]):=by
 (refine bh Tryz.func52 Tryz.ntmps52 ?_)
 (repeat' (first|(refine hK _ ?_;clear hK K)|(refine aM (fun K hK=>?_))|(refine gR ?_;refine aP ?_)|(refine bn (fun K hK=>?_);refine fD (bQ 1 rfl rfl rfl) ?_;simp only [go_sem,seval];refine bK cD ?_)|(refine gW ?_;refine bN ?_)|(refine gT ?_;refine aZ ?_)))
 (refine aT (Le.refl _) (aQ (aO ab)) af ?_)
 rfl
def xe (args:List Int) (p:Int×Int):Bool:=args[p.1.toNat]! == args[p.2.toNat]!
theorem Kb (args:List Int) (l:List (Int×Int)) (h:∀ p∈l,0≤p.1∧p.1 < p.2∧p.2 < args.length):dt 112 [.bx [ints args]] L1 (xe args) l:=by
 intro p hp
 obtain ⟨h1,h2,h3⟩:=h p hp
 obtain ⟨a,b⟩:=p
 obtain ⟨i,rfl⟩:∃ i:Nat,a=i:=⟨a.toNat,(Int.toNat_of_nonneg h1).symm⟩
 obtain ⟨j,rfl⟩:∃ i:Nat,b=i:=⟨b.toNat,(Int.toNat_of_nonneg (by simp only at *;omega)).symm⟩
 simp only at h1 h2 h3
 have hi:i < args.length:=by omega
 have hj:j < args.length:=by omega
 have e:xe args ((i:Int),(j:Int))=(args[i] == args[j]):=by
  simp only [xe,Int.toNat_natCast]
  rw [bY hi,bY hj]
 rw [e]
 (refine bh Tryz.func112 Tryz.ntmps112 ?_)
 (repeat' (first|(refine hK _ ?_;clear hK K)|(refine aM (fun K hK=>?_))|(refine gR ?_;refine aP ?_)|(refine gD 1 ?_;refine fg (.it 0 0 (.it 1 0 (.it 2 0 (.it 3 0 (.it 4 0 (.it 5 0 (.it 6 0 (.it 7 0 (.it 8 0 (.it 9 0 (.it 10 0 (.it 11 0 .nil)))))))))))) [0,1,2,3,4,5,6,7,8,9,10,11] ?_)|(refine gE ?_;(first|(refine cc ?_)|(refine dL (fun _=>?_))))|(refine gT ?_;refine aZ ?_)))
 (refine aT (Le.refl _) (aQ (aO ab)) af ?_)
 rfl
def wh (d:dB) (k:Nat) (s:gJ) (args:List Int):List Act:=
 if s.diff.any (xe args)=true then []
 else match pG (hasB (po d)) d.init args s.pre [] with
  |none=>[]
  |some p=>[⟨(k:Int),args,p,Mo args s,Mp args s,s.cost⟩]
theorem HM (d:dB) (k:Nat) (s:gJ) (args:List Int):(wh d k s args).length≤1:=by
 unfold wh
 split
 ·simp
 ·split<;>simp
def EP (d:dB) (k:Nat) (s:gJ) (pre r:List Int) (A:List Act):List Act:=A++(BT d pre r).flatMap (wh d k s)
def ER (d:dB) (k:Nat) (s:gJ) (pre:List Int) (t:Int) (r:List Int) (A:List Act) (j:Nat):List Act:=A++(C0 d pre t r j).flatMap (wh d k s)
theorem Kc (d:dB) (k:Nat) (s:gJ) (pre:List Int) (A:List Act):EP d k s pre [] A=A++wh d k s pre:=by rw [EP,yn];simp
theorem HN (d:dB) (k:Nat) (s:gJ) (pre:List Int) (t:Int) (r:List Int) (A:List Act):ER d k s pre t r A 0=A:=by rw [ER,vu];simp
theorem Ap {d:dB} {k:Nat} {s:gJ} {pre:List Int} {t:Int} {r:List Int} {A:List Act} {j:Nat} (h:j < (mh d t).length):EP d k s (pre++[(mh d t)[j]]) r (ER d k s pre t r A j)=ER d k s pre t r A (j+1):=by
 rw [EP,ER,ER,List.append_assoc,← List.flatMap_append,← vv h]
theorem Kd (d:dB) (k:Nat) (s:gJ) (pre:List Int) (t:Int) (r:List Int) (A:List Act):ER d k s pre t r A (mh d t).length=EP d k s pre (t::r) A:=by rw [ER,ua,EP]
theorem Ke (d:dB) (k:Nat) (s:gJ) (pre:List Int) (t:Int) (r:List Int) (A:List Act) (j:Nat):(ER d k s pre t r A j).length≤(EP d k s pre (t::r) A).length:=by
 obtain ⟨u,hu⟩:=yo d pre t r j
 rw [ER,EP,← hu,List.flatMap_append,← List.append_assoc,List.length_append (bs:=u.flatMap _)];omega
instance:Inhabited Act:=⟨⟨0,[],[],[],[],0⟩⟩
def pq (d:dB) (k:Nat):List Act:=(List.range k).flatMap fun (p:Nat)=>(Ah d d.eh[p]!.ts).flatMap (wh d p d.eh[p]!)
theorem sK (d:dB) (k:Nat):pq d (k+1)=pq d k++(Ah d d.eh[k]!.ts).flatMap (wh d k d.eh[k]!):=by
 rw [pq,List.range_succ,List.flatMap_append];simp [pq]
theorem xf {α β:Type} (f:α→List β) (h:∀ a,(f a).length≤1):∀ l:List α,(l.flatMap f).length≤l.length
 |[]=>Nat.le_refl _
 |x::l=>by
  have:=xf f h l
  have:=h x
  rw [List.flatMap_cons,List.length_append,List.length_cons];omega
theorem xg {α β:Type} (f:α→List β) (c:Nat) (h:∀ a,(f a).length=c):∀ l:List α,(l.flatMap f).length=l.length * c
 |[]=>by simp
 |x::l=>by rw [List.flatMap_cons,List.length_append,h x,xg f c h l,List.length_cons,Nat.succ_mul];omega
theorem C5 (d:dB) (ho:d.dT.length≤8):∀ r:List Int,(Ah d r).length≤8 ^ r.length
 |[]=>by simp [Ah]
 |t::r=>by
  have h1:=C5 d ho r
  have h2:=pg d.types d.dT t d.dT.length
  rw [Ah,xg _ (Ah d r).length (fun o=>by rw [List.length_map]),List.length_cons,Nat.pow_succ,Nat.mul_comm (8 ^ r.length) 8]
  exact Nat.mul_le_mul (show (mh d t).length≤8 by unfold mh;omega) h1
theorem rR (d:dB) (h:JD d):∀ k,k≤d.eh.length→(pq d k).length≤k * 512
 |0,_=>by simp [pq]
 |k+1,hk=>by
  have h1:=rR d h k aj
  have hs:=h.Mc d.eh[k] (List.getElem_mem aj)
  have h2:=C5 d h.o8 d.eh[k].ts
  have h3:=xf (wh d k d.eh[k]) (HM d k d.eh[k]) (Ah d d.eh[k].ts)
  have h4:8 ^ d.eh[k].ts.length≤8 ^ 3:=Nat.pow_le_pow_right aw hs.PY
  rw [sK,List.length_append,bY (show k < d.eh.length by omega)]
  have:(8:Nat) ^ 3=512:=by decide
  omega
theorem Kf (d:dB) (h:JD d):bg Tryz.prog 110 [.fS,.fn 111 [.bx [.bx d.gs]]] (fun r=>r=HL (pq d d.eh.length)):=by
 have hhi:=h.Mb
 have hob:=h.obj
 have ho8:=h.o8
 have hs8:=h.s8
 (refine bh Tryz.func110 Tryz.ntmps110 ?_)
 (repeat' (first|(refine hK _ ?_;clear hK K)|(refine aM (fun K hK=>?_))|(refine fH 1 ab ?_;refine aP ?_)|fail))
 (refine cT (iD 2 0 502 6 112 112 ab ab al) ?_;simp only [go_sem,seval])
 refine gR ?_;refine aP ?_
 (repeat' (first|(refine hK _ ?_;clear hK K)|(refine aN ?_)))
 have hK9:=hK
 refine jC 1000000001 ab aw ae ae ae Tryz.func111 Tryz.ntmps111 ab ab (fun y1 hyp1 hya1 hyb1=>?_)
 simp only [go_sem,seval,dj,aV,List.length_cons,List.length_nil,List.replicate_succ,List.replicate_zero,Nat.reduceSub]
 refine aM (fun K hK=>?_)
 refine dG ?_
 refine cp rfl (fun K1 hK1=>?_)
 refine ke (d:=2) 711 ae (.inl rfl) ae ?_
 simp only [go_sem,seval];refine hK1 _ ?_;clear hK1 K1
 refine jQ ?_
 refine hK _ ?_;clear hK K
 (repeat' (first|(refine hK _ ?_;clear hK K)|(refine aM (fun K hK=>?_))|(refine fH 2 ab ?_;refine aP ?_)|(refine aN ?_)))
 refine bU (0::10::11::12::13::[3,4,5,6,7,8,9,16,17,18,19,20,21,22,23,24,25,26,27,29,30,31,32,33,34,35,36,37,38,39,40,41,42,43,44,45,46,47,48,49,50,51,52,53,54,55,56,57,58,59,60,61,62,63,64]) (fun k:Nat=>k≤d.eh.length) (fun k=>d.eh.length - k) (fun k=>[(16,.int k)]) (fun k=>[(2,⟨109,[.sl 6 112 502 0 (pq d k).length],true⟩),(502,⟨112,(pq d k).flatMap j4,false⟩)]) 0 (Nat.zero_le _) ?_ ?_
 ·(refine cm ?_)
  (exact bd)
 ·rintro k hk K hK
  (refine cm ?_)
  by_cases hlt:k < d.eh.length
  ·(repeat' (first|(refine hK _ ?_;clear hK K)|(refine aM (fun K hK=>?_))|(refine fH 4 ab ?_;refine aP ?_)|(refine gE ?_;(first|(refine cc ?_)|(refine dL (fun _=>?_))))|(refine gQ ?_;refine aS (fun hc=>?_) (fun hc=>?_)<;>(try (first|contradiction|omega)))|(refine aN ?_)|(refine gS ?_;refine aX ?_)))
   (refine cT (bQ 3 rfl rfl rfl) ?_;simp only [go_sem,seval])
   (refine cT (bQ 4 rfl rfl rfl) ?_;simp only [go_sem,seval])
   (repeat' (first|(refine hK _ ?_;clear hK K)|(refine gD 4 ?_;refine fg (.it 0 0 (.it 1 0 (.it 2 0 (.it 3 0 (.it 4 0 (.it 5 0 (.it 6 1 .nil))))))) [0,1,2,3,4,5] ?_)|(refine kK 109 ?_;refine dw (qv _ _) ?_)|(refine aN ?_)))
   refine mJ [0,5,6,7,8,9,10,11,12,13,17,18,19,20,21,22,23,24,25,26] ?_
   simp only [jw,List.set_cons_succ,List.set_cons_zero]
   have hls:=sK d k
   rw [bY hlt] at hls
   have hal:=rR d h (k+1) aj
   have hsch:=h.Mc d.eh[k] (List.getElem_mem hlt)
   generalize d.eh[k]=s at *
   obtain ⟨nm,w,df,pr,ad,de,co⟩:=s
   simp only at hls
   have hpr8:=hsch.NU
   have hprA:=hsch.pre
   have hdf:=hsch.diff
   have hw3:=hsch.PY
   simp only at hpr8 hprA hdf hw3
   have hK8:=hK
   refine jC 1000000011 ab aw ae ae ae Tryz.func158 Tryz.ntmps158 ab ab (fun y hyp hya hyb=>?_)
   simp only [go_sem,seval,dj,aV,List.length_cons,List.length_nil,List.replicate_succ,List.replicate_zero,Nat.reduceSub]
   have key:∀ (r pre:List Int) (A:List Act),w=w.take pre.length++r→pre.length+r.length=w.length→(EP d k ⟨nm,w,df,pr,ad,de,co⟩ pre r A).length≤5000→
     cO Tryz.prog 159 [ints pre,.bx [ints w],.ptr 703 0,.bx d.cs,.ptr 704 0] [(2,⟨109,[.sl 6 112 502 0 (A).length],true⟩),(502,⟨112,(A).flatMap j4,false⟩),(1000000001,⟨1000000001,[.fS,.fn 111 [.bx [.bx d.gs]],.ptr 2 0,.any,.fS,.any,.fn 111 [.bx [.bx d.gs]],.any,.any,.any,.any,.any,.any],false⟩),(711,⟨189,[.yl 1000000001 y1],true⟩),(1000000011,⟨1000000001,[.any,.bx [.bx d.gs],.ptr 711 0,.bx [.int (k:Int)],.bx [str nm,ints w,vp df,dM pr,cZ ad,cZ de,.int co],.any,.any,.any,.any,.any,.any,.any,.any,.any,jn d.eh,.int (d.eh.length:Int),.int (k:Int),.any,.any,.any,.any,.any,.any,.any,.any,.any,.any,.fn 158 [.bx [ints w],.bx d.cs],.any,.any,.any,.any,.any,.any,.any,.any,.any,.any,.any,.any,.any,.any,.any,.any,.any,.any,.any,.any,.any,.any,.any,.any,.any,.any,.any,.any,.any,.any,.any,.any,.any,.any,.any,.any,.any],false⟩),(703,⟨246,[.yl 1000000011 y],true⟩),(704,⟨246,[.fn 159 [.bx [ints w],.ptr 703 0,.bx d.cs,.ptr 704 0]],true⟩)] [] [703,704]
      (fun x hp=>x= .bool true∧hp=[(2,⟨109,[.sl 6 112 502 0 (EP d k ⟨nm,w,df,pr,ad,de,co⟩ pre r A).length],true⟩),(502,⟨112,(EP d k ⟨nm,w,df,pr,ad,de,co⟩ pre r A).flatMap j4,false⟩),(1000000001,⟨1000000001,[.fS,.fn 111 [.bx [.bx d.gs]],.ptr 2 0,.any,.fS,.any,.fn 111 [.bx [.bx d.gs]],.any,.any,.any,.any,.any,.any],false⟩),(711,⟨189,[.yl 1000000001 y1],true⟩),(1000000011,⟨1000000001,[.any,.bx [.bx d.gs],.ptr 711 0,.bx [.int (k:Int)],.bx [str nm,ints w,vp df,dM pr,cZ ad,cZ de,.int co],.any,.any,.any,.any,.any,.any,.any,.any,.any,jn d.eh,.int (d.eh.length:Int),.int (k:Int),.any,.any,.any,.any,.any,.any,.any,.any,.any,.any,.fn 158 [.bx [ints w],.bx d.cs],.any,.any,.any,.any,.any,.any,.any,.any,.any,.any,.any,.any,.any,.any,.any,.any,.any,.any,.any,.any,.any,.any,.any,.any,.any,.any,.any,.any,.any,.any,.any,.any,.any,.any,.any,.any,.any],false⟩),(703,⟨246,[.yl 1000000011 y],true⟩),(704,⟨246,[.fn 159 [.bx [ints w],.ptr 703 0,.bx d.cs,.ptr 704 0]],true⟩)]):=by
    intro r
    induction r with
    |nil=>
     intro pre A hr hl hA
     rw [Kc] at hA ⊢
     simp only [List.length_nil,Nat.add_zero,List.length_append] at hl hA
     have hsm:=Ae df 112 [.bx [ints pre]] rfl (xe pre) (Kb pre df fun p hp=>by have:=hdf p hp;omega)
     have hnd:=HA d w pr pre hpr8 hprA hl
     have hef:=BY d ⟨nm,w,df,pr,ad,de,co⟩ hsch pre hl
     simp only [List.length_append,wh] at hA ⊢
     cases hb:df.any (xe pre) with
     |true=>
      rw [hb] at hsm
      simp only [hb,if_true,List.append_nil] at hA ⊢
      (refine ck Tryz.func159 Tryz.ntmps159 ?_)
      (repeat' (first|(refine hK _ ?_;clear hK K)|(refine aM (fun K hK=>?_))|(refine fH 2 ab ?_;refine aP ?_)|(refine gQ ?_;refine aS (fun hc=>?_) (fun hc=>?_)<;>(try (first|contradiction|omega)))))
      refine iQ ab ?_
      intro o ho
      have ho2:o∈[[0,1,2,3,4],[1,0,2,3,4],[1,2,0,3,4]]:=by
       refine Eq.mp (congrArg (o∈·) ?_) ho
       kernel_rfl
      simp only [List.mem_cons,List.not_mem_nil,or_false] at ho2
      rcases ho2 with rfl|rfl|rfl
      ·simp only [List.filterMap_cons,List.filterMap_nil,List.getElem?_toArray,List.getElem?_cons_zero,List.getElem?_cons_succ]
       (first|(refine bL _ ai ?_)|(refine bM ai an ?_));(try simp only [go_sem,seval,dj,aV])
       (first|(refine bL _ ai ?_)|(refine bM ai an ?_));(try simp only [go_sem,seval,dj,aV])
       refine bu rfl rfl (fun K1 hK1=>?_)
       refine cH (cP _) ab (fun x hx=>?_)
       obtain rfl:=hx
       simp only [go_sem,seval];refine hK1 _ ?_;clear hK1 K1
       refine bX 1000000012 hyp hya hyb ab ab ab ab ab aw aw aw ab ae ab ab ?_
       simp only [go_sem,seval]
       refine gR ?_;refine aP ?_
       (first|(refine ⟨_,_,Le.refl _,by rfl,by rfl,?_⟩)|(refine Exists.intro (by first|trivial|decide|(simp;done)|omega) ?_;refine ⟨_,_,Le.refl _,by rfl,by rfl,?_⟩))
       simp only [go_sem,seval]
       (repeat' (first|(refine aM (fun K hK=>?_))|(refine aN ?_)))
       (refine cT (bQ 5 rfl rfl rfl) ?_;simp only [go_sem,seval])
       (repeat' (first|(refine hK _ ?_;clear hK K)|(refine aM (fun K hK=>?_))|(refine gR ?_;refine aP ?_)|(refine gC 113 ?_;refine bp (hsm) ?_)|(refine gQ ?_;refine cf ?_)|(refine gX ?_;refine bV ?_)))
       (try simp only [Nat.reduceBEq,Bool.false_or,Bool.or_false,Bool.false_eq_true,reduceIte])
       refine ⟨_,_,_,1000000001,Le.refl _,by rfl,by rfl,by rfl,rfl,?_⟩
       simp only [go_sem,seval]
       refine bu rfl rfl (fun K1 hK1=>?_)
       refine bK cU ?_
       simp only [go_sem,seval];refine hK1 _ ?_;clear hK1 K1
       refine cA ?_
       (repeat' (first|(refine gT ?_;refine aZ ?_)|(apply_assumption (exfalso:=false) (symm:=false))))
       (refine bH (Le.refl _) (aQ (aO ab)) (by (repeat refine bq ab ?_);exact aY _) ab ae ⟨rfl,rfl⟩)
      ·simp only [List.filterMap_cons,List.filterMap_nil,List.getElem?_toArray,List.getElem?_cons_zero,List.getElem?_cons_succ]
       (first|(refine bL _ ai ?_)|(refine bM ai an ?_));(try simp only [go_sem,seval,dj,aV])
       (first|(refine bL _ ai ?_)|(refine bM ai an ?_));(try simp only [go_sem,seval,dj,aV])
       refine bu rfl rfl (fun K1 hK1=>?_)
       refine cH (cP _) ab (fun x hx=>?_)
       obtain rfl:=hx
       simp only [go_sem,seval];refine hK1 _ ?_;clear hK1 K1
       refine bX 1000000012 hyp hya hyb ab ab ab ab ab aw aw aw ab ae ab ab ?_
       simp only [go_sem,seval]
       refine gR ?_;refine aP ?_
       (first|(refine ⟨_,_,Le.refl _,by rfl,by rfl,?_⟩)|(refine Exists.intro (by first|trivial|decide|(simp;done)|omega) ?_;refine ⟨_,_,Le.refl _,by rfl,by rfl,?_⟩))
       simp only [go_sem,seval]
       (repeat' (first|(refine aM (fun K hK=>?_))|(refine aN ?_)))
       (refine cT (bQ 5 rfl rfl rfl) ?_;simp only [go_sem,seval])
       (repeat' (first|(refine hK _ ?_;clear hK K)|(refine aM (fun K hK=>?_))|(refine gR ?_;refine aP ?_)|(refine gC 113 ?_;refine bp (hsm) ?_)|(refine gQ ?_;refine cf ?_)|(refine gX ?_;refine bV ?_)))
       (try simp only [Nat.reduceBEq,Bool.false_or,Bool.or_false,Bool.false_eq_true,reduceIte])
       refine ⟨_,_,_,1000000001,Le.refl _,by rfl,by rfl,by rfl,rfl,?_⟩
       simp only [go_sem,seval]
       refine bu rfl rfl (fun K1 hK1=>?_)
       refine bK cU ?_
       simp only [go_sem,seval];refine hK1 _ ?_;clear hK1 K1
       refine cA ?_
       (repeat' (first|(refine gT ?_;refine aZ ?_)|(apply_assumption (exfalso:=false) (symm:=false))))
       (refine bH (Le.refl _) (aQ (aO ab)) (by (repeat refine bq ab ?_);exact aY _) ab ae ⟨rfl,rfl⟩)
      ·simp only [List.filterMap_cons,List.filterMap_nil,List.getElem?_toArray,List.getElem?_cons_zero,List.getElem?_cons_succ]
       (first|(refine bL _ ai ?_)|(refine bM ai an ?_));(try simp only [go_sem,seval,dj,aV])
       refine bu rfl rfl (fun K1 hK1=>?_)
       refine cH (cP _) ab (fun x hx=>?_)
       obtain rfl:=hx
       simp only [go_sem,seval];refine hK1 _ ?_;clear hK1 K1
       (first|(refine bL _ ai ?_)|(refine bM ai an ?_));(try simp only [go_sem,seval,dj,aV])
       refine bX 1000000012 hyp hya hyb ab ab ab ab ab aw aw aw ab ae ab ab ?_
       simp only [go_sem,seval]
       refine gR ?_;refine aP ?_
       (first|(refine ⟨_,_,Le.refl _,by rfl,by rfl,?_⟩)|(refine Exists.intro (by first|trivial|decide|(simp;done)|omega) ?_;refine ⟨_,_,Le.refl _,by rfl,by rfl,?_⟩))
       simp only [go_sem,seval]
       (repeat' (first|(refine aM (fun K hK=>?_))|(refine aN ?_)))
       (refine cT (bQ 5 rfl rfl rfl) ?_;simp only [go_sem,seval])
       (repeat' (first|(refine hK _ ?_;clear hK K)|(refine aM (fun K hK=>?_))|(refine gR ?_;refine aP ?_)|(refine gC 113 ?_;refine bp (hsm) ?_)|(refine gQ ?_;refine cf ?_)|(refine gX ?_;refine bV ?_)))
       (try simp only [Nat.reduceBEq,Bool.false_or,Bool.or_false,Bool.false_eq_true,reduceIte])
       refine ⟨_,_,_,1000000001,Le.refl _,by rfl,by rfl,by rfl,rfl,?_⟩
       simp only [go_sem,seval]
       refine bu rfl rfl (fun K1 hK1=>?_)
       refine bK cU ?_
       simp only [go_sem,seval];refine hK1 _ ?_;clear hK1 K1
       refine cA ?_
       (repeat' (first|(refine gT ?_;refine aZ ?_)|(apply_assumption (exfalso:=false) (symm:=false))))
       (refine bH (Le.refl _) (aQ (aO ab)) (by (repeat refine bq ab ?_);exact aY _) ab ae ⟨rfl,rfl⟩)
     |false=>
      rw [hb] at hsm
      simp only [hb,Bool.false_eq_true,if_false] at hA ⊢
      cases hq:pG (hasB (po d)) d.init pre pr [] with
      |none=>
       rw [hq] at hnd
       unfold Hz at hnd
       simp only [hq,List.append_nil] at hA hnd ⊢
       (refine ck Tryz.func159 Tryz.ntmps159 ?_)
       (repeat' (first|(refine hK _ ?_;clear hK K)|(refine aM (fun K hK=>?_))|(refine fH 2 ab ?_;refine aP ?_)|(refine gQ ?_;refine aS (fun hc=>?_) (fun hc=>?_)<;>(try (first|contradiction|omega)))))
       refine iQ ab ?_
       intro o ho
       have ho2:o∈[[0,1,2,3,4],[1,0,2,3,4],[1,2,0,3,4]]:=by
        refine Eq.mp (congrArg (o∈·) ?_) ho
        kernel_rfl
       simp only [List.mem_cons,List.not_mem_nil,or_false] at ho2
       rcases ho2 with rfl|rfl|rfl
       ·simp only [List.filterMap_cons,List.filterMap_nil,List.getElem?_toArray,List.getElem?_cons_zero,List.getElem?_cons_succ]
        (first|(refine bL _ ai ?_)|(refine bM ai an ?_));(try simp only [go_sem,seval,dj,aV])
        (first|(refine bL _ ai ?_)|(refine bM ai an ?_));(try simp only [go_sem,seval,dj,aV])
        refine bu rfl rfl (fun K1 hK1=>?_)
        refine cH (cP _) ab (fun x hx=>?_)
        obtain rfl:=hx
        simp only [go_sem,seval];refine hK1 _ ?_;clear hK1 K1
        refine bX 1000000012 hyp hya hyb ab ab ab ab ab aw aw aw ab ae ab ab ?_
        simp only [go_sem,seval]
        refine gR ?_;refine aP ?_
        (first|(refine ⟨_,_,Le.refl _,by rfl,by rfl,?_⟩)|(refine Exists.intro (by first|trivial|decide|(simp;done)|omega) ?_;refine ⟨_,_,Le.refl _,by rfl,by rfl,?_⟩))
        simp only [go_sem,seval]
        (repeat' (first|(refine aM (fun K hK=>?_))|(refine aN ?_)))
        (refine cT (bQ 5 rfl rfl rfl) ?_;simp only [go_sem,seval])
        (repeat' (first|(refine hK _ ?_;clear hK K)|(refine aM (fun K hK=>?_))|(refine gR ?_;refine aP ?_)|(refine gC 113 ?_;refine bp (hsm) ?_)|(refine gC 114 ?_;refine bp (hnd) ?_)|(refine gQ ?_;(first|(refine cf ?_)|(refine bT ?_)))|(refine gX ?_;refine bV ?_)|(refine gS ?_;refine aX ?_)))
        (try simp only [Nat.reduceBEq,Bool.false_or,Bool.or_false,Bool.false_eq_true,reduceIte])
        refine ⟨_,_,_,1000000001,Le.refl _,by rfl,by rfl,by rfl,rfl,?_⟩
        simp only [go_sem,seval]
        refine bu rfl rfl (fun K1 hK1=>?_)
        refine bK cU ?_
        simp only [go_sem,seval];refine hK1 _ ?_;clear hK1 K1
        refine cA ?_
        (repeat' (first|(refine gT ?_;refine aZ ?_)|(apply_assumption (exfalso:=false) (symm:=false))))
        (refine bH (Le.refl _) (aQ (aO ab)) (by (repeat refine bq ab ?_);exact aY _) ab ae ⟨rfl,rfl⟩)
       ·simp only [List.filterMap_cons,List.filterMap_nil,List.getElem?_toArray,List.getElem?_cons_zero,List.getElem?_cons_succ]
        (first|(refine bL _ ai ?_)|(refine bM ai an ?_));(try simp only [go_sem,seval,dj,aV])
        (first|(refine bL _ ai ?_)|(refine bM ai an ?_));(try simp only [go_sem,seval,dj,aV])
        refine bu rfl rfl (fun K1 hK1=>?_)
        refine cH (cP _) ab (fun x hx=>?_)
        obtain rfl:=hx
        simp only [go_sem,seval];refine hK1 _ ?_;clear hK1 K1
        refine bX 1000000012 hyp hya hyb ab ab ab ab ab aw aw aw ab ae ab ab ?_
        simp only [go_sem,seval]
        refine gR ?_;refine aP ?_
        (first|(refine ⟨_,_,Le.refl _,by rfl,by rfl,?_⟩)|(refine Exists.intro (by first|trivial|decide|(simp;done)|omega) ?_;refine ⟨_,_,Le.refl _,by rfl,by rfl,?_⟩))
        simp only [go_sem,seval]
        (repeat' (first|(refine aM (fun K hK=>?_))|(refine aN ?_)))
        (refine cT (bQ 5 rfl rfl rfl) ?_;simp only [go_sem,seval])
        (repeat' (first|(refine hK _ ?_;clear hK K)|(refine aM (fun K hK=>?_))|(refine gR ?_;refine aP ?_)|(refine gC 113 ?_;refine bp (hsm) ?_)|(refine gC 114 ?_;refine bp (hnd) ?_)|(refine gQ ?_;(first|(refine cf ?_)|(refine bT ?_)))|(refine gX ?_;refine bV ?_)|(refine gS ?_;refine aX ?_)))
        (try simp only [Nat.reduceBEq,Bool.false_or,Bool.or_false,Bool.false_eq_true,reduceIte])
        refine ⟨_,_,_,1000000001,Le.refl _,by rfl,by rfl,by rfl,rfl,?_⟩
        simp only [go_sem,seval]
        refine bu rfl rfl (fun K1 hK1=>?_)
        refine bK cU ?_
        simp only [go_sem,seval];refine hK1 _ ?_;clear hK1 K1
        refine cA ?_
        (repeat' (first|(refine gT ?_;refine aZ ?_)|(apply_assumption (exfalso:=false) (symm:=false))))
        (refine bH (Le.refl _) (aQ (aO ab)) (by (repeat refine bq ab ?_);exact aY _) ab ae ⟨rfl,rfl⟩)
       ·simp only [List.filterMap_cons,List.filterMap_nil,List.getElem?_toArray,List.getElem?_cons_zero,List.getElem?_cons_succ]
        (first|(refine bL _ ai ?_)|(refine bM ai an ?_));(try simp only [go_sem,seval,dj,aV])
        refine bu rfl rfl (fun K1 hK1=>?_)
        refine cH (cP _) ab (fun x hx=>?_)
        obtain rfl:=hx
        simp only [go_sem,seval];refine hK1 _ ?_;clear hK1 K1
        (first|(refine bL _ ai ?_)|(refine bM ai an ?_));(try simp only [go_sem,seval,dj,aV])
        refine bX 1000000012 hyp hya hyb ab ab ab ab ab aw aw aw ab ae ab ab ?_
        simp only [go_sem,seval]
        refine gR ?_;refine aP ?_
        (first|(refine ⟨_,_,Le.refl _,by rfl,by rfl,?_⟩)|(refine Exists.intro (by first|trivial|decide|(simp;done)|omega) ?_;refine ⟨_,_,Le.refl _,by rfl,by rfl,?_⟩))
        simp only [go_sem,seval]
        (repeat' (first|(refine aM (fun K hK=>?_))|(refine aN ?_)))
        (refine cT (bQ 5 rfl rfl rfl) ?_;simp only [go_sem,seval])
        (repeat' (first|(refine hK _ ?_;clear hK K)|(refine aM (fun K hK=>?_))|(refine gR ?_;refine aP ?_)|(refine gC 113 ?_;refine bp (hsm) ?_)|(refine gC 114 ?_;refine bp (hnd) ?_)|(refine gQ ?_;(first|(refine cf ?_)|(refine bT ?_)))|(refine gX ?_;refine bV ?_)|(refine gS ?_;refine aX ?_)))
        (try simp only [Nat.reduceBEq,Bool.false_or,Bool.or_false,Bool.false_eq_true,reduceIte])
        refine ⟨_,_,_,1000000001,Le.refl _,by rfl,by rfl,by rfl,rfl,?_⟩
        simp only [go_sem,seval]
        refine bu rfl rfl (fun K1 hK1=>?_)
        refine bK cU ?_
        simp only [go_sem,seval];refine hK1 _ ?_;clear hK1 K1
        refine cA ?_
        (repeat' (first|(refine gT ?_;refine aZ ?_)|(apply_assumption (exfalso:=false) (symm:=false))))
        (refine bH (Le.refl _) (aQ (aO ab)) (by (repeat refine bq ab ?_);exact aY _) ab ae ⟨rfl,rfl⟩)
      |some q=>
       rw [hq] at hnd
       unfold Hz at hnd
       simp only [hq,List.length_append,List.length_singleton] at hA hnd ⊢
       (refine ck Tryz.func159 Tryz.ntmps159 ?_)
       (repeat' (first|(refine hK _ ?_;clear hK K)|(refine aM (fun K hK=>?_))|(refine fH 2 ab ?_;refine aP ?_)|(refine gQ ?_;refine aS (fun hc=>?_) (fun hc=>?_)<;>(try (first|contradiction|omega)))))
       refine iQ ab ?_
       intro o ho
       have ho2:o∈[[0,1,2,3,4],[1,0,2,3,4],[1,2,0,3,4]]:=by
        refine Eq.mp (congrArg (o∈·) ?_) ho
        kernel_rfl
       simp only [List.mem_cons,List.not_mem_nil,or_false] at ho2
       rcases ho2 with rfl|rfl|rfl
       ·simp only [List.filterMap_cons,List.filterMap_nil,List.getElem?_toArray,List.getElem?_cons_zero,List.getElem?_cons_succ]
        (first|(refine bL _ ai ?_)|(refine bM ai an ?_));(try simp only [go_sem,seval,dj,aV])
        (first|(refine bL _ ai ?_)|(refine bM ai an ?_));(try simp only [go_sem,seval,dj,aV])
        refine bu rfl rfl (fun K1 hK1=>?_)
        refine cH (cP _) ab (fun x hx=>?_)
        obtain rfl:=hx
        simp only [go_sem,seval];refine hK1 _ ?_;clear hK1 K1
        refine bX 1000000012 hyp hya hyb ab ab ab ab ab aw aw aw ab ae ab ab ?_
        simp only [go_sem,seval]
        refine gR ?_;refine aP ?_
        (first|(refine ⟨_,_,Le.refl _,by rfl,by rfl,?_⟩)|(refine Exists.intro (by first|trivial|decide|(simp;done)|omega) ?_;refine ⟨_,_,Le.refl _,by rfl,by rfl,?_⟩))
        simp only [go_sem,seval]
        (repeat' (first|(refine aM (fun K hK=>?_))|(refine aN ?_)))
        (refine cT (bQ 5 rfl rfl rfl) ?_;simp only [go_sem,seval])
        (repeat' (first|(refine hK _ ?_;clear hK K)|(refine aM (fun K hK=>?_))|(refine fH 12 ab ?_;refine aP ?_)|(refine gC 113 ?_;refine bp (hsm) ?_)|(refine gC 114 ?_;refine bp (hnd) ?_)|(refine gC 115 ?_;refine bp (hef) ?_)|(refine gE ?_;refine cc ?_)|(refine gQ ?_;refine bT ?_)|(refine gS ?_;refine aX ?_)))
        refine e8 ?_
        (first|(refine bL _ ai ?_)|(refine bM ai an ?_));(try simp only [go_sem,seval,dj,aV])
        (first|(refine bL _ ai ?_)|(refine bM ai an ?_));(try simp only [go_sem,seval,dj,aV])
        refine bX 1000000002 hyp1 hya1 hyb1 ab ab ab ab ab aw aw aw ab ae ab ab ?_
        simp only [go_sem,seval]
        refine gR ?_;refine aP ?_
        (first|(refine ⟨_,_,Le.refl _,by rfl,by rfl,?_⟩)|(refine Exists.intro (by first|trivial|decide|(simp;done)|omega) ?_;refine ⟨_,_,Le.refl _,by rfl,by rfl,?_⟩))
        simp only [go_sem,seval]
        (repeat' (first|(refine hK _ ?_;clear hK K)|(refine gR ?_;refine aP ?_)|(refine bn (fun K hK=>?_);refine cF ?_)|(refine gE ?_;refine cc ?_)|(refine gW ?_;refine bN ?_)|(refine aN ?_)))
        (try simp only [Nat.reduceBEq,Bool.false_or,Bool.or_false,Bool.false_eq_true,reduceIte])
        refine ⟨_,_,_,1000000001,Le.refl _,by rfl,by rfl,by rfl,rfl,?_⟩
        simp only [go_sem,seval]
        (first|(refine bL _ ai ?_)|(refine bM ai an ?_));(try simp only [go_sem,seval,dj,aV])
        refine cA ?_
        (repeat' (first|(refine hK _ ?_;clear hK K)|(refine gQ ?_;refine bT ?_)|(refine gS ?_;refine aX ?_)))
        (try simp only [Nat.reduceBEq,Bool.false_or,Bool.or_false,Bool.false_eq_true,reduceIte])
        refine ⟨_,_,_,1000000001,Le.refl _,by rfl,by rfl,by rfl,rfl,?_⟩
        simp only [go_sem,seval]
        refine bu rfl rfl (fun K1 hK1=>?_)
        refine bK cU ?_
        simp only [go_sem,seval];refine hK1 _ ?_;clear hK1 K1
        refine cA ?_
        (repeat' (first|(refine hK _ ?_;clear hK K)|(refine gT ?_;refine aZ ?_)))
        (refine bH (Le.refl _) (aQ (aO ab)) (by (repeat refine bq ab ?_);exact aY _) ab ae ⟨rfl,rfl⟩)
       ·simp only [List.filterMap_cons,List.filterMap_nil,List.getElem?_toArray,List.getElem?_cons_zero,List.getElem?_cons_succ]
        (first|(refine bL _ ai ?_)|(refine bM ai an ?_));(try simp only [go_sem,seval,dj,aV])
        (first|(refine bL _ ai ?_)|(refine bM ai an ?_));(try simp only [go_sem,seval,dj,aV])
        refine bu rfl rfl (fun K1 hK1=>?_)
        refine cH (cP _) ab (fun x hx=>?_)
        obtain rfl:=hx
        simp only [go_sem,seval];refine hK1 _ ?_;clear hK1 K1
        refine bX 1000000012 hyp hya hyb ab ab ab ab ab aw aw aw ab ae ab ab ?_
        simp only [go_sem,seval]
        refine gR ?_;refine aP ?_
        (first|(refine ⟨_,_,Le.refl _,by rfl,by rfl,?_⟩)|(refine Exists.intro (by first|trivial|decide|(simp;done)|omega) ?_;refine ⟨_,_,Le.refl _,by rfl,by rfl,?_⟩))
        simp only [go_sem,seval]
        (repeat' (first|(refine aM (fun K hK=>?_))|(refine aN ?_)))
        (refine cT (bQ 5 rfl rfl rfl) ?_;simp only [go_sem,seval])
        (repeat' (first|(refine hK _ ?_;clear hK K)|(refine aM (fun K hK=>?_))|(refine fH 12 ab ?_;refine aP ?_)|(refine gC 113 ?_;refine bp (hsm) ?_)|(refine gC 114 ?_;refine bp (hnd) ?_)|(refine gC 115 ?_;refine bp (hef) ?_)|(refine gE ?_;refine cc ?_)|(refine gQ ?_;refine bT ?_)|(refine gS ?_;refine aX ?_)))
        refine e8 ?_
        (first|(refine bL _ ai ?_)|(refine bM ai an ?_));(try simp only [go_sem,seval,dj,aV])
        (first|(refine bL _ ai ?_)|(refine bM ai an ?_));(try simp only [go_sem,seval,dj,aV])
        refine bX 1000000002 hyp1 hya1 hyb1 ab ab ab ab ab aw aw aw ab ae ab ab ?_
        simp only [go_sem,seval]
        refine gR ?_;refine aP ?_
        (first|(refine ⟨_,_,Le.refl _,by rfl,by rfl,?_⟩)|(refine Exists.intro (by first|trivial|decide|(simp;done)|omega) ?_;refine ⟨_,_,Le.refl _,by rfl,by rfl,?_⟩))
        simp only [go_sem,seval]
        (repeat' (first|(refine hK _ ?_;clear hK K)|(refine gR ?_;refine aP ?_)|(refine bn (fun K hK=>?_);refine cF ?_)|(refine gE ?_;refine cc ?_)|(refine gW ?_;refine bN ?_)|(refine aN ?_)))
        (try simp only [Nat.reduceBEq,Bool.false_or,Bool.or_false,Bool.false_eq_true,reduceIte])
        refine ⟨_,_,_,1000000001,Le.refl _,by rfl,by rfl,by rfl,rfl,?_⟩
        simp only [go_sem,seval]
        (first|(refine bL _ ai ?_)|(refine bM ai an ?_));(try simp only [go_sem,seval,dj,aV])
        refine cA ?_
        (repeat' (first|(refine hK _ ?_;clear hK K)|(refine gQ ?_;refine bT ?_)|(refine gS ?_;refine aX ?_)))
        (try simp only [Nat.reduceBEq,Bool.false_or,Bool.or_false,Bool.false_eq_true,reduceIte])
        refine ⟨_,_,_,1000000001,Le.refl _,by rfl,by rfl,by rfl,rfl,?_⟩
        simp only [go_sem,seval]
        refine bu rfl rfl (fun K1 hK1=>?_)
        refine bK cU ?_
        simp only [go_sem,seval];refine hK1 _ ?_;clear hK1 K1
        refine cA ?_
        (repeat' (first|(refine hK _ ?_;clear hK K)|(refine gT ?_;refine aZ ?_)))
        (refine bH (Le.refl _) (aQ (aO ab)) (by (repeat refine bq ab ?_);exact aY _) ab ae ⟨rfl,rfl⟩)
       ·simp only [List.filterMap_cons,List.filterMap_nil,List.getElem?_toArray,List.getElem?_cons_zero,List.getElem?_cons_succ]
        (first|(refine bL _ ai ?_)|(refine bM ai an ?_));(try simp only [go_sem,seval,dj,aV])
        refine bu rfl rfl (fun K1 hK1=>?_)
        refine cH (cP _) ab (fun x hx=>?_)
        obtain rfl:=hx
        simp only [go_sem,seval];refine hK1 _ ?_;clear hK1 K1
        (first|(refine bL _ ai ?_)|(refine bM ai an ?_));(try simp only [go_sem,seval,dj,aV])
        refine bX 1000000012 hyp hya hyb ab ab ab ab ab aw aw aw ab ae ab ab ?_
        simp only [go_sem,seval]
        refine gR ?_;refine aP ?_
        (first|(refine ⟨_,_,Le.refl _,by rfl,by rfl,?_⟩)|(refine Exists.intro (by first|trivial|decide|(simp;done)|omega) ?_;refine ⟨_,_,Le.refl _,by rfl,by rfl,?_⟩))
        simp only [go_sem,seval]
        (repeat' (first|(refine aM (fun K hK=>?_))|(refine aN ?_)))
        (refine cT (bQ 5 rfl rfl rfl) ?_;simp only [go_sem,seval])
        (repeat' (first|(refine hK _ ?_;clear hK K)|(refine aM (fun K hK=>?_))|(refine fH 12 ab ?_;refine aP ?_)|(refine gC 113 ?_;refine bp (hsm) ?_)|(refine gC 114 ?_;refine bp (hnd) ?_)|(refine gC 115 ?_;refine bp (hef) ?_)|(refine gE ?_;refine cc ?_)|(refine gQ ?_;refine bT ?_)|(refine gS ?_;refine aX ?_)))
        refine e8 ?_
        (first|(refine bL _ ai ?_)|(refine bM ai an ?_));(try simp only [go_sem,seval,dj,aV])
        (first|(refine bL _ ai ?_)|(refine bM ai an ?_));(try simp only [go_sem,seval,dj,aV])
        refine bX 1000000002 hyp1 hya1 hyb1 ab ab ab ab ab aw aw aw ab ae ab ab ?_
        simp only [go_sem,seval]
        refine gR ?_;refine aP ?_
        (first|(refine ⟨_,_,Le.refl _,by rfl,by rfl,?_⟩)|(refine Exists.intro (by first|trivial|decide|(simp;done)|omega) ?_;refine ⟨_,_,Le.refl _,by rfl,by rfl,?_⟩))
        simp only [go_sem,seval]
        (repeat' (first|(refine hK _ ?_;clear hK K)|(refine gR ?_;refine aP ?_)|(refine bn (fun K hK=>?_);refine cF ?_)|(refine gE ?_;refine cc ?_)|(refine gW ?_;refine bN ?_)|(refine aN ?_)))
        (try simp only [Nat.reduceBEq,Bool.false_or,Bool.or_false,Bool.false_eq_true,reduceIte])
        refine ⟨_,_,_,1000000001,Le.refl _,by rfl,by rfl,by rfl,rfl,?_⟩
        simp only [go_sem,seval]
        (first|(refine bL _ ai ?_)|(refine bM ai an ?_));(try simp only [go_sem,seval,dj,aV])
        refine cA ?_
        (repeat' (first|(refine hK _ ?_;clear hK K)|(refine gQ ?_;refine bT ?_)|(refine gS ?_;refine aX ?_)))
        (try simp only [Nat.reduceBEq,Bool.false_or,Bool.or_false,Bool.false_eq_true,reduceIte])
        refine ⟨_,_,_,1000000001,Le.refl _,by rfl,by rfl,by rfl,rfl,?_⟩
        simp only [go_sem,seval]
        refine bu rfl rfl (fun K1 hK1=>?_)
        refine bK cU ?_
        simp only [go_sem,seval];refine hK1 _ ?_;clear hK1 K1
        refine cA ?_
        (repeat' (first|(refine hK _ ?_;clear hK K)|(refine gT ?_;refine aZ ?_)))
        (refine bH (Le.refl _) (aQ (aO ab)) (by (repeat refine bq ab ?_);exact aY _) ab ae ⟨rfl,rfl⟩)
    |cons t r ih=>
     intro pre A hr hl hA
     have hlen:(t::r).length=r.length+1:=rfl
     rw [hlen] at hl
     have hne:¬((pre.length:Int)=(w.length:Int)):=by omega
     have hwt:w[pre.length]?=some t:=by
      have h1:(w.take pre.length).length=pre.length:=by rw [List.length_take];omega
      have h2:(w.take pre.length++t::r)[pre.length]?=some t:=by
       rw [List.getElem?_append_right (Nat.le_of_eq h1),h1,Nat.sub_self];rfl
      rwa [← hr] at h2
     have hpw:pre.length < w.length:=by omega
     have hwe:w[pre.length]=t:=by rw [List.getElem?_eq_getElem hpw] at hwt;exact Option.some.inj hwt
     (refine ck Tryz.func159 Tryz.ntmps159 ?_)
     (repeat' (first|(refine hK _ ?_;clear hK K)|(refine aM (fun K hK=>?_))|(refine gR ?_;refine aP ?_)|(refine gD 3 ?_;refine fg (.it 0 0 (.it 1 0 (.it 2 0 (.it 3 0 (.it 4 0 (.it 5 0 (.it 6 0 (.it 7 0 (.it 8 0 (.it 11 0 (.it 9 1 (.it 10 0 .nil)))))))))))) [0,1,2,3,4,5,6,7,8,10,11] ?_)|(refine kK 160 ?_;refine dw (Hn _ _ _ az az az) ?_)|(refine gE ?_;refine dL (fun _=>?_))|(refine gQ ?_;refine aS (fun hc=>?_) (fun hc=>?_)<;>(try (first|contradiction|omega)))|(refine aN ?_)|(refine gS ?_;refine aX ?_)))
     have hoe:CZ d.types d.dT t d.dT.length=mh d t:=rfl
     simp only [hwe,hoe]
     have hof:=pg d.types d.dT t d.dT.length
     rw [hoe] at hof
     refine bU [6,8,29,30,31,32,33,34,35,36,37,38,39,40,41] (fun j:Nat=>j≤(mh d t).length) (fun j=>(mh d t).length - j) (fun j=>[(29,.int j)]) (fun j=>[(2,⟨109,[.sl 6 112 502 0 (ER d k ⟨nm,w,df,pr,ad,de,co⟩ pre t r A j).length],true⟩),(502,⟨112,(ER d k ⟨nm,w,df,pr,ad,de,co⟩ pre t r A j).flatMap j4,false⟩)]) 0 (Nat.zero_le _) ?_ ?_
     ·rw [HN]
      (refine cm ?_)
      (exact bd)
     ·rintro j hj K hK
      (refine cm ?_)
      by_cases hlt:j < (mh d t).length
      ·have ihj:=ih (pre++[(mh d t)[j]]) (ER d k ⟨nm,w,df,pr,ad,de,co⟩ pre t r A j) (by
        rw [List.length_append,List.length_singleton,List.take_add_one,hwt,Option.toList_some,List.append_assoc];exact hr) (by rw [List.length_append,List.length_singleton];omega)
        (by rw [Ap hlt];exact Nat.le_trans (Ke d k ⟨nm,w,df,pr,ad,de,co⟩ pre t r A (j+1)) hA)
       rw [Ap hlt] at ihj
       have hprb:(pre.length+1) * 8≤140737488355328:=by omega
       simp only [ints,List.map_append,List.map_cons,List.map_nil] at ihj
       (repeat' (first|(refine hK _ ?_;clear hK K)|(refine aM (fun K hK=>?_))|(refine fH 6 ab ?_;refine aP ?_)|(refine gE ?_;refine dL (fun _=>?_))|(refine gQ ?_;refine aS (fun hc=>?_) (fun hc=>?_)<;>(try (first|contradiction|omega)))|(refine aN ?_)|(refine gS ?_;refine aX ?_)))
       (repeat' (first|(refine hK _ ?_;clear hK K)|(refine gD 6 ?_;refine wx (s1:=?_) (.it 1 0 (.it 3 0 (.yN 0 2 4 (.fk 2 4 (.it 4 1 (.it 5 3 (.it 6 3 (.it 7 1 .nil)))) (.it 2 1 (.it 5 3 (.it 6 3 (.it 7 1 .nil))))) (.fk 0 4 (.it 4 1 (.it 5 3 (.it 6 3 (.it 7 1 .nil)))) (.oh 0 1 5 3 (.it 5 3 (.it 6 3 (.it 7 1 .nil))) (.it 0 1 (.it 6 3 (.it 7 1 .nil))))) (.fk 0 2 (.it 2 1 (.it 5 3 (.it 6 3 (.it 7 1 .nil)))) (.oh 0 1 5 3 (.it 5 3 (.it 6 3 (.it 7 1 .nil))) (.it 0 1 (.it 6 3 (.it 7 1 .nil)))))))) [1,3] ?_ ?_;rotate_left)|(refine dk (fun K hK=>?_);(first|(refine na (d:=some 35) (pd 35000 _) ab (by first|exact qA al|(intro id hid;simp only [List.mem_cons,List.not_mem_nil,or_false] at hid;rcases hid with rfl|rfl|rfl|rfl<;>first|rfl|(simp only [go_sem,seval];done)|(simp only [St.free,cI,go_sem,seval];done)|(simp only [go_sem,seval];rfl)|(simp [St.free,cI,AV.bz,AV.cv];try exact eU _ _ _ fun _=>rfl))) (fun x hp hx=>?_);obtain ⟨rfl,rfl⟩:=hx)|(refine dq (d:=37) aC ab ab ab ab ?_)))|(refine And.intro ?_ ?_)|(refine tO ?_;refine ko ?_)|(refine gH (fun K hK=>?_);refine cF ?_)|(refine kj ?_;refine eK ?_)|(apply_assumption (exfalso:=false) (symm:=false))))
       all_goals (try (refine gH (fun K hK=>?_);(try simp only [Nat.reduceBEq,Bool.or_false,Bool.false_or,Bool.false_eq_true,reduceIte]);refine fD (fx (f:=AV.int) 35005 1 8 (pre.length+1) (pre++[(mh d t)[j]]) ab (by rw [ky,List.map_append];rfl) ax (fun _=>rfl) (fun _=>rfl) aj) ?_;simp only [AV.eG,sealS_any,sealS_v,sealS_isl,sealS_iptr,er,eW,sealS_agg,sealS_tup,sealS_fn,purge_agg,purge_tup,purge_fn,and_self,AV.bz,AV.cv,Bool.or_self,go_sem,seval,List.map_append,List.map_cons,List.map_nil];(refine dQ ab (ihj) (by (repeat (first|exact bP|refine bA ab ?_))) (fun _ h=>by cases h) ab (fun x hp' hx=>?_);obtain ⟨rfl,rfl⟩:=hx<;>simp only [go_sem,seval,dj,aV]);refine hK _ ?_;clear hK K;(repeat' (first|(refine tO ?_;refine ko ?_)|(refine gL ?_;(first|exact Le.refl _|exact bd))|(refine kj ?_;refine eK ?_)))))
       (repeat' (first|(refine gR ?_;refine aP ?_)|(refine gE ?_;refine cc ?_)|(refine gQ ?_;refine bT ?_)|(refine gS ?_;refine aX ?_)|(apply_assumption (exfalso:=false) (symm:=false))))
       refine ⟨j+1,by omega,by omega,?_⟩
       (refine cm ?_)
       (exact bd)
      ·obtain rfl:j=(mh d t).length:=by omega
       rw [Kd]
       (repeat' (first|(refine hK _ ?_;clear hK K)|(refine aM (fun K hK=>?_))|(refine gR ?_;refine aP ?_)|(refine gQ ?_;refine aS (fun hc=>?_) (fun hc=>?_)<;>(try (first|contradiction|omega)))|(refine gX ?_;refine bV ?_)|(refine gT ?_;refine aZ ?_)|(apply_assumption (exfalso:=false) (symm:=false))))
       (refine bH (Le.refl _) (aQ (aO ab)) (by (repeat refine bq ab ?_);exact aY _) ab ae ⟨rfl,rfl⟩)
   refine aM (fun K hK=>?_)
   refine dG ?_
   refine cp rfl (fun K1 hK1=>?_)
   refine ke (d:=3) 703 ae (.inl rfl) ae ?_
   simp only [go_sem,seval];refine hK1 _ ?_;clear hK1 K1
   refine jQ ?_
   refine hK _ ?_;clear hK K
   refine aM (fun K hK=>?_)
   refine dG ?_
   refine cp rfl (fun K1 hK1=>?_)
   refine mB (d:=4) 704 ae ?_
   simp only [go_sem,seval];refine hK1 _ ?_;clear hK1 K1
   refine jQ ?_
   refine hK _ ?_;clear hK K
   have hqa:EP d k ⟨nm,w,df,pr,ad,de,co⟩ [] w (pq d k)=pq d (k+1):=by
    rw [hls,EP,BT];simp
   have kb:=uI (args':=[.fS,.bx [ints w],.ptr 703 0,.bx d.cs,.ptr 704 0]) (key w [] (pq d k) ax ax (by rw [hqa];omega)) ⟨iP.nil 1 8,iP.iB _,iP.iB _,iP.iB _,iP.iB _,trivial⟩
   rw [hqa] at kb
   clear key
   (repeat' (first|(refine aM (fun K hK=>?_))|(refine fH 3 ab ?_;refine aP ?_)|fail))
   refine bn (fun K hK=>?_)
   refine bK cD ?_
   simp only [go_sem,seval]
   refine hK _ ?_;clear hK K
   (repeat' (first|(refine hK _ ?_;clear hK K)|(refine gW ?_;refine bN ?_)))
   refine gR ?_;refine aP ?_
   refine bn (fun K hK=>?_)
   (refine dQ ab (kb) (by (repeat (first|exact bP|refine bA ab ?_))) (fun _ h=>by cases h) ab (fun x hp' hx=>?_);obtain ⟨rfl,rfl⟩:=hx<;>simp only [go_sem,seval,dj,aV])
   refine hK _ ?_;clear hK K
   (repeat' (refine gW ?_;refine bN ?_))
   refine ⟨_,_,.normal,1000000001,_,Le.refl _,gp,rfl,by rfl,?_⟩
   simp only [go_sem,seval,dj,aV]
   refine hK8 _ ?_
   clear hK8 hK
   (repeat' (first|(refine hK _ ?_;clear hK K)|(refine gR ?_;refine aP ?_)|(refine gE ?_;refine cc ?_)))
   refine ⟨k+1,by omega,by omega,?_⟩
   (refine cm ?_)
   (exact bd)
  ·obtain rfl:k=d.eh.length:=by omega
   have hal:=rR d h d.eh.length (Nat.le_refl _)
   generalize pq d d.eh.length=X at *
   (repeat' (first|(refine hK _ ?_;clear hK K)|(refine aM (fun K hK=>?_))|(refine gR ?_;refine aP ?_)|(refine gQ ?_;refine aS (fun hc=>?_) (fun hc=>?_)<;>(try (first|contradiction|omega)))|(refine gX ?_;refine bV ?_)))
   refine ⟨_,_,.normal,1000000001,_,Le.refl _,gp,rfl,by rfl,?_⟩
   simp only [go_sem,seval,dj,aV]
   refine hK9 _ ?_
   clear hK9 hK
   (repeat' (first|(refine hK _ ?_;clear hK K)|(refine aM (fun K hK=>?_))|(refine gR ?_;refine aP ?_)|(refine gT ?_;refine aZ ?_)))
   refine xG (f:=Act.av) X rfl ab (by rw [xd];rfl) rfl (fun _=>rfl) (fun _=>rfl) aj rfl
def mW (d:dB):List Act:=pq d d.eh.length
theorem B0 (d:dB) (h:JD d):bg Tryz.prog 51 [.fn 111 [.bx [.bx d.gs]]] (fun r=>r=HL (mW d)):=by
 have ha:=Kf d h
 rw [show pq d d.eh.length=mW d from rfl] at ha
 (refine bh Tryz.func51 Tryz.ntmps51 ?_)
 (repeat' (first|(refine hK _ ?_;clear hK K)|(refine aM (fun K hK=>?_))|(refine gR ?_;refine aP ?_)|(refine gC 110 ?_;refine bp (ha) ?_)|(refine gT ?_;refine aZ ?_)))
 (refine aT (Le.refl _) (aQ (aO ab)) af ?_)
 rfl
end Go.Proofs.YtkbiagkbmodgdaaGreat
namespace Go.Proofs.YtkbiagkbmodgdaaGreat
open Go.Ab
open Go
set_option maxRecDepth 10000
attribute [local irreducible] dE fh mC lW db PV eR ef AW bg dn ec dP cO Ab.Fin ft en gI iO RV jX Le eI fM mg gV kf dz dg
set_option maxHeartbeats 8000000
attribute [local go_sem] fp jH iW
structure yr where
 t:Task
 lits:List cz
 ins:List bB
abbrev yr.av (g:yr):AV:=.agg [.int g.t.facts,ints g.t.init,ints g.t.goal,JK g.t.ops,dM g.lits,cZ g.ins]
theorem ES (g:yr) (hn:g.lits.length≤24):bg Tryz.prog 121 [g.av] (fun r=>r=g.av):=by
 obtain ⟨⟨fa,ini,go,ops⟩,l,ins⟩:=g
 simp only at hn ⊢
 (refine bh Tryz.func121 Tryz.ntmps121 ?_)
 (repeat' (first|(refine hK _ ?_;clear hK K)|(refine aM (fun K hK=>?_))|(refine gR ?_;refine aP ?_)|(refine gE ?_;refine cc ?_)|(refine aN ?_)))
 (refine j1 3 100 3 40 68 ?_)
 refine bU [3,5,9,10,11,12,13,14,15,16,17,18,19,20,21,22,23,24,25,26,27] (fun k:Nat=>k≤l.length) (fun k=>l.length - k) (fun k=>[(9,.int k),(3,.sl 3 40 100 0 (l.take k).length)]) (fun k=>[(100,⟨68,(l.take k).flatMap ph,false⟩)]) 0 (Nat.zero_le _) ?_ ?_
 ·(refine cm ?_)
  (exact bd)
 ·rintro k hk K hK
  have hkl:(l.take k).length=k:=by rw [List.length_take];omega
  rw [hkl]
  (refine cm ?_)
  by_cases hlt:k < l.length
  ·have hst:l.take (k+1)=l.take k++[l[k]]:=List.take_succ_eq_append_getElem hlt
   (repeat' (first|(refine hK _ ?_;clear hK K)|(refine aM (fun K hK=>?_))|(refine gR ?_;refine aP ?_)|(refine gD 5 ?_;refine fg (.it 0 0 (.it 1 0 (.it 2 0 (.it 3 0 (.it 4 0 (.it 5 0 (.it 6 0 (.it 7 0 (.it 8 0 (.it 9 1 (.it 10 0 (.it 11 0 (.it 12 1 (.it 13 3 (.it 14 1 .nil))))))))))))))) [0,1,2,3,4,5,6,7,8,10,11] ?_)|(refine kK 147 ?_;refine dw (cP _) ?_)|(refine dk (fun K hK=>?_);refine dq (d:=25) aC ab ab ab ab ?_)|(refine tO ?_;refine ko ?_)|(refine gH (fun K hK=>?_);refine cF ?_)|(refine gE ?_;(first|(refine cc ?_)|(refine dL (fun _=>?_))))|(refine gQ ?_;refine aS (fun hc=>?_) (fun hc=>?_)<;>(try (first|contradiction|omega)))|(refine kj ?_;refine eK ?_)|(refine aN ?_)|(refine gS ?_;refine aX ?_)))
   refine ⟨k+1,by omega,by omega,?_⟩
   rw [hst,List.length_append,hkl]
   (refine cm ?_)
   (exact bd)
  ·obtain rfl:k=l.length:=by omega
   rw [List.take_length]
   (repeat' (first|(refine hK _ ?_;clear hK K)|(refine aM (fun K hK=>?_))|(refine fH 7 ab ?_;refine aP ?_)|(refine gQ ?_;refine aS (fun hc=>?_) (fun hc=>?_)<;>(try (first|contradiction|omega)))|(refine gX ?_;refine bV ?_)|(apply_assumption (exfalso:=false) (symm:=false))))
   (refine cT (eg (f:=cz.av) 100 3 40 l.length l ab (gv _) aJ (fun _=>rfl) (fun _=>rfl) aj) ?_;try simp only [go_sem,seval])
   (repeat' (first|(refine hK _ ?_;clear hK K)|(refine aM (fun K hK=>?_))|(refine gR ?_;refine aP ?_)|(refine gT ?_;refine aZ ?_)))
   (refine aT (Le.refl _) (aQ (bt (by first|exact bF ab ab ab ab|exact br ab ab ab aq))) af ?_)
   rfl
def wi (d:dB) (l:List cz):Nat→List Int
 |0=>[]
 |k+1=>wi d l k++if BU d l[k]! =true then [(k:Int)] else []
theorem vB (d:dB) (l:List cz):∀ k,(wi d l k).length≤k
 |0=>Nat.le_refl _
 |k+1=>by
  have:=vB d l k
  rw [wi,List.length_append]
  split<;>simp<;>omega
abbrev mA (l x:List cz):List Int:=sG l x l.length
def Is (l:List cz) (x:Act):Op:=⟨mA l x.pre,mA l x.add,mA l x.del,x.cost⟩
def rS (x:Act):bB:=⟨x.Mc,x.args⟩
def Mv (d:dB) (l:List cz) (ac:List Act):yr:=⟨⟨l.length,wi d l l.length,mA l d.goal,ac.map (Is l)⟩,l,ac.map rS⟩
def xh:AV:=.agg [.int 0,.fS,.fS,.fS,.fS,.fS]
def kW (d:dB) (l:List cz) (ac:List Act):AV:=if l.length≤24∧ac.length≤40 then .dr [(Mv d l ac).av,fault 0 0] else .dr [xh,fault 10 (-8)]
theorem HO (d:dB) (l:List cz) (ac:List Act):bg Tryz.prog 58 [.bx d.gs,dM l,HL ac] (fun r=>r=kW d l ac):=by
 by_cases h1:l.length≤24
 ·by_cases h2:ac.length≤40
  ·rw [kW,if_pos ⟨h1,h2⟩]
   have hg:=mQ l d.goal
   (refine bh Tryz.func58 Tryz.ntmps58 ?_)
   (repeat' (first|(refine hK _ ?_;clear hK K)|(refine aM (fun K hK=>?_))|(refine fH 4 ab ?_;refine aP ?_)|(refine gC 54 ?_;refine bp (hg) ?_)|(refine gE ?_;refine cc ?_)|(refine gG ?_;refine cB (fun hc=>?_) (fun hc=>?_)<;>(try (first|contradiction|omega)))|(refine gQ ?_;refine aS (fun hc=>?_) (fun hc=>?_)<;>(try (first|contradiction|omega)))|(refine gS ?_;refine aX ?_)))
   (refine cT (iD 8 1 801 1 8 3 ab ab al) ?_;simp only [go_sem,seval])
   (refine cT (iD 8 3 803 4 80 94 ab ab al) ?_;simp only [go_sem,seval])
   (refine cT (iD 8 5 805 2 32 52 ab ab al) ?_;simp only [go_sem,seval])
   (repeat' (first|(refine hK _ ?_;clear hK K)|(refine fH 5 ab ?_;refine aP ?_)|(refine aN ?_)))
   refine bU [12,13,57,58,59,60,61,62,63,64,65,66,67,68,69,70,71,72,73,74,75,76,77,78,79,80,81,82,83,84,85,86,87,88,89,90,91] (fun k:Nat=>k≤l.length) (fun k=>l.length - k) (fun k=>[(38,.int k)]) (fun k=>[(8,⟨40,[.int l.length,.sl 1 8 801 0 (wi d l k).length,ints (mA l d.goal),.sl 4 80 803 0 0,dM l,.sl 2 32 805 0 0],true⟩),(801,⟨3,(wi d l k).map AV.int,false⟩)]) 0 (Nat.zero_le _) ?_ ?_
   ·(refine cm ?_)
    (exact bd)
   ·rintro k hk K hK
    (refine cm ?_)
    have hil:=vB d l k
    by_cases hlt:k < l.length
    ·have hst:wi d l (k+1)=wi d l k++if BU d l[k]=true then [(k:Int)] else []:=by rw [wi,bY hlt]
     have hi:=Hy d l[k]
     cases hb:BU d l[k] with
     |true=>
      rw [hb] at hi hst
      simp only [if_true] at hst
      (repeat' (first|(refine hK _ ?_;clear hK K)|(refine aM (fun K hK=>?_))|(refine gR ?_;refine aP ?_)|(refine gC 53 ?_;refine bp (hi) ?_)|(refine bn (fun K hK=>?_);refine cF ?_)|(refine gE ?_;(first|(refine cc ?_)|(refine dL (fun _=>?_))))|(refine gQ ?_;(first|(refine cf ?_)|(refine aS (fun hc=>?_) (fun hc=>?_)<;>(try (first|contradiction|omega)))))|(refine gW ?_;refine bN ?_)|(refine aN ?_)|(refine gS ?_;refine aX ?_)))
      refine ⟨k+1,by omega,by omega,?_⟩
      rw [hst,List.length_append,List.length_singleton,List.map_append]
      (refine cm ?_)
      (exact bd)
     |false=>
      rw [hb] at hi hst
      simp only [Bool.false_eq_true,if_false,List.append_nil] at hst
      (repeat' (first|(refine hK _ ?_;clear hK K)|(refine aM (fun K hK=>?_))|(refine gR ?_;refine aP ?_)|(refine gC 53 ?_;refine bp (hi) ?_)|(refine gE ?_;(first|(refine cc ?_)|(refine dL (fun _=>?_))))|(refine gQ ?_;(first|(refine bT ?_)|(refine aS (fun hc=>?_) (fun hc=>?_)<;>(try (first|contradiction|omega)))))|(refine aN ?_)|(refine gS ?_;refine aX ?_)))
      refine ⟨k+1,by omega,by omega,?_⟩
      rw [hst]
      (refine cm ?_)
      (exact bd)
    ·obtain rfl:k=l.length:=by omega
     (repeat' (first|(refine hK _ ?_;clear hK K)|(refine aM (fun K hK=>?_))|(refine fH 11 ab ?_;refine aP ?_)|(refine gQ ?_;refine aS (fun hc=>?_) (fun hc=>?_)<;>(try (first|contradiction|omega)))|(refine aN ?_)|(refine gX ?_;refine bV ?_)|(apply_assumption (exfalso:=false) (symm:=false))))
     have hil:=vB d l l.length
     generalize hI:wi d l l.length=I at *
     refine bU [12,13,57,58,59,60,61,62,63,64,65,66,67,68,69,70,71,72,73,74,75,76,77,78,79,80,81,82,83,84,85,86,87,88,89,90,91] (fun k:Nat=>k≤ac.length) (fun k=>ac.length - k) (fun k=>[(57,.int k)]) (fun k=>[(8,⟨40,[.int l.length,.sl 1 8 801 0 I.length,ints (mA l d.goal),.sl 4 80 803 0 ((ac.map (Is l)).take k).length,dM l,.sl 2 32 805 0 ((ac.map rS).take k).length],true⟩),(803,⟨94,((ac.map (Is l)).take k).flatMap tD,false⟩),(805,⟨52,((ac.map rS).take k).flatMap jO,false⟩)]) 0 (Nat.zero_le _) ?_ ?_
     ·(refine cm ?_)
      (exact bd)
     ·rintro k hk K hK
      have l1:((ac.map (Is l)).take k).length=k:=by rw [List.length_take,List.length_map];omega
      have l2:((ac.map rS).take k).length=k:=by rw [List.length_take,List.length_map];omega
      rw [l1,l2]
      (refine cm ?_)
      by_cases hlt:k < ac.length
      ·have s1:(ac.map (Is l)).take (k+1)=(ac.map (Is l)).take k++[Is l ac[k]]:=by rw [List.take_succ_eq_append_getElem (by simpa using hlt),List.getElem_map]
       have s2:(ac.map rS).take (k+1)=(ac.map rS).take k++[rS ac[k]]:=by rw [List.take_succ_eq_append_getElem (by simpa using hlt),List.getElem_map]
       have i1:=mQ l ac[k].pre
       have i2:=mQ l ac[k].add
       have i3:=mQ l ac[k].del
       (repeat' (first|(refine hK _ ?_;clear hK K)|(refine aM (fun K hK=>?_))|(refine gR ?_;refine aP ?_)|(refine gD 13 ?_;refine wx (s1:=?_) (.it 0 0 (.it 1 0 (.it 2 0 (.it 4 0 (.it 5 0 (.it 6 0 (.it 8 0 (.it 9 0 (.it 10 0 (.it 12 0 (.it 13 0 (.fk 3 15 (.fk 7 15 (.fk 11 15 (.it 14 0 (.it 15 1 (.it 16 3 .nil))) (.it 11 1 (.it 14 0 (.it 16 3 .nil)))) (.it 7 1 (.it 11 1 (.it 14 0 (.it 16 3 .nil))))) (.it 3 1 (.it 7 1 (.it 11 1 (.it 14 0 (.it 16 3 .nil))))))))))))))))) [0,1,2,4,5,6,8,9,10,12,13,14] ?_ ?_;rotate_left)|(refine kK 54 ?_;refine dw (i1) ?_)|(refine kK 54 ?_;refine dw (i2) ?_)|(refine kK 54 ?_;refine dw (i3) ?_)|(refine bn (fun K hK=>?_);refine cF ?_)|(refine dk (fun K hK=>?_);refine iM (d:=13) 13 al ?_)|(refine And.intro ?_ ?_)|(refine gO ?_;refine jZ ?_)|(refine gL ?_;(first|exact Le.refl _|exact bd))|(refine gE ?_;(first|(refine cc ?_)|(refine dL (fun _=>?_))))|(refine gQ ?_;refine aS (fun hc=>?_) (fun hc=>?_)<;>(try (first|contradiction|omega)))|(refine kj ?_;refine eK ?_)|(refine gW ?_;refine bN ?_)|(refine aN ?_)|(refine gS ?_;refine aX ?_)))
       refine ⟨k+1,by omega,by omega,?_⟩
       rw [s1,s2,List.length_append,List.length_append,l1,l2]
       (refine cm ?_)
       (exact bd)
      ·obtain rfl:k=ac.length:=by omega
       rw [List.take_of_length_le ax,List.take_of_length_le ax]
       generalize hX:ac.map (Is l)=X at *
       generalize hY:ac.map rS=Y at *
       have hXl:X.length=ac.length:=by rw [← hX,List.length_map]
       have hYl:Y.length=ac.length:=by rw [← hY,List.length_map]
       have hcp:=ES ⟨⟨l.length,I,mA l d.goal,X⟩,l,Y⟩ h1
       have hgr:Mv d l ac=⟨⟨l.length,I,mA l d.goal,X⟩,l,Y⟩:=by rw [← hX,← hY,← hI];rfl
       (repeat' (first|(refine hK _ ?_;clear hK K)|(refine aM (fun K hK=>?_))|(refine fH 17 ab ?_;refine aP ?_)|(refine gQ ?_;refine aS (fun hc=>?_) (fun hc=>?_)<;>(try (first|contradiction|omega)))|(refine gX ?_;refine bV ?_)|(apply_assumption (exfalso:=false) (symm:=false))))
       (refine cT (sq 801 I.length I ab aJ) ?_;simp only [go_sem,seval])
       (refine cT (eg (f:=Op.av) 803 4 80 ac.length X ab (Hb _) (by exact hXl) (fun _=>rfl) (fun _=>rfl) aj) ?_;try simp only [go_sem,seval])
       (refine cT (eg (f:=bB.av) 805 2 32 ac.length Y ab (rI _) (by exact hYl) (fun _=>rfl) (fun _=>rfl) aj) ?_;try simp only [go_sem,seval])
       (repeat' (first|(refine hK _ ?_;clear hK K)|(refine gR ?_;refine aP ?_)|(refine gC 121 ?_;refine bp (hcp) ?_)|(refine gE ?_;refine cc ?_)|(refine gT ?_;refine aZ ?_)))
       (refine aT (Le.refl _) (dx (bt (by first|exact bF ab ab ab ab|exact br ab ab ab aq)) (bt (by first|exact bF ab ab ab ab|exact br ab ab ab aq))) af ?_)
       rw [hgr]
       rfl
  ·rw [kW,if_neg (fun h=>h2 h.2)]
   (refine bh Tryz.func58 Tryz.ntmps58 ?_)
   (repeat' (first|(refine hK _ ?_;clear hK K)|(refine aM (fun K hK=>?_))|(refine gR ?_;refine aP ?_)|(refine gE ?_;refine cc ?_)|(refine gG ?_;refine cB (fun hc=>?_) (fun hc=>?_)<;>(try (first|contradiction|omega)))|(refine gQ ?_;refine aS (fun hc=>?_) (fun hc=>?_)<;>(try (first|contradiction|omega)))|(refine gT ?_;refine aZ ?_)))
   (refine aT (Le.refl _) (dx (bt (by first|exact bF ab ab ab ab|exact br ab ab ab aq)) (bt (by first|exact bF ab ab ab ab|exact br ab ab ab aq))) af ?_)
   rfl
 ·rw [kW,if_neg (fun h=>h1 h.1)]
  (refine bh Tryz.func58 Tryz.ntmps58 ?_)
  (repeat' (first|(refine hK _ ?_;clear hK K)|(refine aM (fun K hK=>?_))|(refine gR ?_;refine aP ?_)|(refine gE ?_;refine cc ?_)|(refine gG ?_;refine cB (fun hc=>?_) (fun hc=>?_)<;>(try (first|contradiction|omega)))|(refine gQ ?_;refine cf ?_)|(refine gT ?_;refine aZ ?_)))
  (refine aT (Le.refl _) (dx (bt (by first|exact bF ab ab ab ab|exact br ab ab ab aq)) (bt (by first|exact bF ab ab ab ab|exact br ab ab ab aq))) af ?_)
  rfl
end Go.Proofs.YtkbiagkbmodgdaaGreat
