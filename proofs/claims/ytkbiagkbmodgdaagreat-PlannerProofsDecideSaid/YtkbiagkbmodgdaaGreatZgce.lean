/- Part of a proof: of two right answers both have a plan, at one cost, or none. No condition. -/
import Derived.Test.YtkbiagkbmodgdaaGreatZdgw
import Derived.Test.YtkbiagkbmodgdaaGreatZdgz
set_option linter.unusedSimpArgs false
set_option linter.unusedVariables false
namespace Go.Ab
theorem sealS_any (id sz bw n:Nat) (es:List AV):AV.wo id sz bw n es .any= .any:=rfl
theorem sealS_v (id sz bw n:Nat) (es:List AV) (x:Value):AV.wo id sz bw n es (.v x)= .v x:=rfl
theorem sealS_isl (id sz bw n:Nat) (es:List AV) (a b:Nat) (l:List AV):AV.wo id sz bw n es (.cr a b l)= .cr a b l:=rfl
theorem sealS_iptr (id sz bw n:Nat) (es:List AV) (l:List AV):AV.wo id sz bw n es (.bx l)= .bx l:=rfl
theorem sealS_agg (id sz bw n:Nat) (es:List AV) (l:List AV):AV.wo id sz bw n es (.agg l)=AV.dJ id (.agg l):=rfl
theorem sealS_tup (id sz bw n:Nat) (es:List AV) (l:List AV):AV.wo id sz bw n es (.dr l)=AV.dJ id (.dr l):=rfl
theorem sealS_fn (id sz bw n:Nat) (es:List AV) (f:FuncId) (l:List AV):AV.wo id sz bw n es (.fn f l)=AV.dJ id (.fn f l):=rfl
theorem purge_agg (id:Nat) (l:List AV):AV.dJ id (.agg l)=if AV.bz id l then .any else .agg l:=rfl
theorem purge_tup (id:Nat) (l:List AV):AV.dJ id (.dr l)=if AV.bz id l then .any else .dr l:=rfl
theorem purge_fn (id:Nat) (f:FuncId) (l:List AV):AV.dJ id (.fn f l)=if AV.bz id l then .any else .fn f l:=rfl
end Go.Ab
namespace Go.Proofs.YtkbiagkbmodgdaaGreat
open Go.Ab
open Go
set_option maxRecDepth 10000
attribute [local irreducible] dE fh mC lW db PV eR ef AW bg dn ec dP cO Ab.Fin ft en gI iO RV jX Le eI fM mg gV kf dz dg
set_option maxHeartbeats 8000000
attribute [local go_sem] fp
@[local go_sem] theorem Ht (i g:Nat) (y:cq):AV.cv i (.yl g y)=(g == i):=rfl
@[local go_sem] theorem EM (i g:Nat) (y:cq):AV.dJ i (.yl g y)=if (g == i)=true then .any else .yl g y:=rfl
def mh (d:dB) (t:Int):List Int:=CZ d.types d.dT t d.dT.length
def Ah (d:dB):List Int→List (List Int)
 |[]=>[[]]
 |t::r=>(mh d t).flatMap fun o=>(Ah d r).map (o::·)
def BT (d:dB) (pre r:List Int):List (List Int):=(Ah d r).map (pre++·)
theorem yn (d:dB) (pre:List Int):BT d pre []=[pre]:=by simp [BT,Ah]
def C0 (d:dB) (pre:List Int) (t:Int) (r:List Int) (k:Nat):List (List Int):=((mh d t).take k).flatMap fun o=>BT d (pre++[o]) r
theorem vu (d:dB) (pre:List Int) (t:Int) (r:List Int):C0 d pre t r 0=[]:=by simp [C0]
theorem vv {d:dB} {pre:List Int} {t:Int} {r:List Int} {k:Nat} (h:k < (mh d t).length):C0 d pre t r (k+1)=C0 d pre t r k++BT d (pre++[(mh d t)[k]]) r:=by
 rw [C0,List.take_succ_eq_append_getElem h,List.flatMap_append];simp [C0]
theorem ua (d:dB) (pre:List Int) (t:Int) (r:List Int):C0 d pre t r (mh d t).length=BT d pre (t::r):=by
 rw [C0,List.take_length,BT,Ah,List.map_flatMap]
 congr 1
 funext o
 simp [BT,List.map_map,Function.comp_def]
theorem qv (d:dB) (w:List Int):bg Tryz.prog 109 [d.av,ints w] (fun r=>r= .fn 158 [.bx [ints w],.bx d.cs]):=by
 (refine bh Tryz.func109 Tryz.ntmps109 ?_)
 (repeat' (first|(refine hK _ ?_;clear hK K)|(refine aM (fun K hK=>?_))|(refine gR ?_;refine aP ?_)|(refine bn (fun K hK=>?_);refine fD (.trans (bQ 3 rfl rfl rfl) (bQ 2 rfl rfl rfl)) ?_;simp only [go_sem,seval];refine bK cD ?_)|(refine gE ?_;refine cc ?_)|(refine gW ?_;refine bN ?_)|(refine gT ?_;refine aZ ?_)))
 (refine aT (Le.refl _) (aQ (aO ab)) af ?_)
 rfl
abbrev Hu (l:List bB):List AV:=l.flatMap jO
@[go_sem] theorem OP (ids pins:List Nat) (l:List bB):AV.iN ids pins (l.flatMap jO)=l.flatMap jO:=kO (rJ l)
@[go_sem] theorem OQ (ids:List Nat) (l:List bB):AV.iZ ids (l.flatMap jO)=true:=mH (rJ l)
@[go_sem] theorem M8 (id:Nat) (c:List AV) (l:List bB):AV.eJ id c (l.flatMap jO)=l.flatMap jO:=gq (rJ l)
def rY (d:dB) (k:Nat):List bB:=(List.range k).flatMap fun (p:Nat)=>(Ah d d.cC[p]!.ts).map fun a=>⟨(p:Int),a⟩
theorem rK (d:dB) (k:Nat):rY d (k+1)=rY d k++(Ah d d.cC[k]!.ts).map fun a=>⟨(k:Int),a⟩:=by
 rw [rY,List.range_succ,List.flatMap_append];simp [rY]
def aF (d:dB) (k:Nat) (pre r:List Int) (A:List bB):List bB:=A++(BT d pre r).map fun a=>⟨(k:Int),a⟩
def aK (d:dB) (k:Nat) (pre:List Int) (t:Int) (r:List Int) (A:List bB) (j:Nat):List bB:=A++(C0 d pre t r j).map fun a=>⟨(k:Int),a⟩
theorem Mk (d:dB) (k:Nat) (pre:List Int) (A:List bB):aF d k pre [] A=A++[⟨(k:Int),pre⟩]:=by rw [aF,yn];rfl
theorem C1 (d:dB) (k:Nat) (pre:List Int) (t:Int) (r:List Int) (A:List bB):aK d k pre t r A 0=A:=by rw [aK,vu,List.map_nil,List.append_nil]
theorem J7 {d:dB} {k:Nat} {pre:List Int} {t:Int} {r:List Int} {A:List bB} {j:Nat} (h:j < (mh d t).length):aF d k (pre++[(mh d t)[j]]) r (aK d k pre t r A j)=aK d k pre t r A (j+1):=by
 rw [aF,aK,aK,List.append_assoc,← List.map_append,← vv h]
theorem Hv (d:dB) (k:Nat) (pre:List Int) (t:Int) (r:List Int) (A:List bB):aK d k pre t r A (mh d t).length=aF d k pre (t::r) A:=by rw [aK,ua,aF]
theorem yo (d:dB) (pre:List Int) (t:Int) (r:List Int) (j:Nat):C0 d pre t r j <+:BT d pre (t::r):=by
 rw [← ua,C0,C0,List.take_length]
 conv=>rhs;rw [← List.take_append_drop j (mh d t),List.flatMap_append]
 exact List.prefix_append _ _
theorem Ml (d:dB) (k:Nat) (pre:List Int) (t:Int) (r:List Int) (A:List bB) (j:Nat):aK d k pre t r A j <+:aF d k pre (t::r) A:=by
 obtain ⟨u,hu⟩:=yo d pre t r j
 exact ⟨u.map fun a=>⟨(k:Int),a⟩,by rw [aK,aF,← hu,List.map_append,List.append_assoc]⟩
@[local go_sem] theorem iW:AV.dA .nilFunc= .v .nilFunc:=rfl
theorem Ai (d:dB) {j n:Nat} (h:j≤n):(rY d j).length≤(rY d n).length:=by
 induction n with
 |zero=>
  obtain rfl:j=0:=by omega
  exact Nat.le_refl _
 |succ n ih=>
  by_cases hj:j=n+1
  ·rw [hj];exact Nat.le_refl _
  ·have:=ih aj
   rw [rK,List.length_append];omega
theorem bL {P:Program} {aU:Nat→Option TI} [hT:Tb P aU] {all:Array Oper} {rest:List Oper} {d:Option Tmp} {op:Go.Op} {ty:TypeId} {pos:String} {bC:Array Edge} {s:St} {K:St→Prop} (x:AV) (h:mZ aU op s= .ok x) (k:db P all rest (s.put d x) K) (hnd:hJ [(⟨d,op,ty,pos,bC,none⟩:Oper)]=true:=by rfl):db P all (⟨d,op,ty,pos,bC,none⟩::rest) s K:=
 bu rfl hnd fun K1 hK1=>bK (by have:=kJ (P:=P) (aU:=aU) op s;rw [h] at this;exact this) (hK1 _ k)
theorem bM {P:Program} {aU:Nat→Option TI} [hT:Tb P aU] {all:Array Oper} {rest:List Oper} {d:Option Tmp} {op:Go.Op} {ty:TypeId} {pos:String} {bC:Array Edge} {s:St} {K:St→Prop} {c:Prop} {dc:Decidable c} {f:c→AV} (h:mZ aU op s=@PR.ex c dc f) (hc:c) (k:db P all rest (s.put d (f hc)) K) (hnd:hJ [(⟨d,op,ty,pos,bC,none⟩:Oper)]=true:=by rfl):db P all (⟨d,op,ty,pos,bC,none⟩::rest) s K:=
 bu rfl hnd fun K1 hK1=>bK (by have:=kJ (P:=P) (aU:=aU) op s;rw [h] at this;exact this hc) (hK1 _ k)
theorem Hw (d:dB) (h:JD d) (hv:lq d=(0,0)):bg Tryz.prog 107 [d.av] (fun r=>r= .dr (if (rY d d.cC.length).length≤400 then [cZ (rY d d.cC.length),fault 0 0] else [.fS,fault 10 (-8)])):=by
 have hdv:=GI d
 rw [hv] at hdv
 have hp8:=h.p8
 have hhi:=h.Mb
 have hob:=h.obj
 have ho8:=h.o8
 (refine bh Tryz.func107 Tryz.ntmps107 ?_)
 (repeat' (first|(refine hK _ ?_;clear hK K)|(refine aM (fun K hK=>?_))|(refine fH 5 ab ?_;refine aP ?_)|(refine gC 157 ?_;refine bp (hdv) ?_)|(refine gE ?_;refine cc ?_)|(refine gQ ?_;refine bT ?_)|(refine gS ?_;refine aX ?_)))
 (refine cT (bQ 1 rfl rfl rfl) ?_;simp only [go_sem,seval])
 (refine cT (iD 5 0 500 2 32 66 ab ab al) ?_;simp only [go_sem,seval])
 refine gR ?_;refine aP ?_
 (repeat' (first|(refine hK _ ?_;clear hK K)|(refine aN ?_)))
 refine bU (0::4::9::10::11::12::13::14::15::[6,7,8,18,19,20,21,22,23,24,25,26,28,29,30,31,32,33,34,35,36,37,38]) (fun k:Nat=>k≤d.cC.length∧(rY d k).length≤400) (fun k=>d.cC.length - k) (fun k=>[(18,.int k)]) (fun k=>[(5,⟨26,[.sl 2 32 500 0 (rY d k).length],true⟩),(500,⟨66,Hu (rY d k),false⟩)]) 0 ⟨Nat.zero_le _,by simp [rY]⟩ ?_ ?_
 ·(refine cm ?_)
  (exact bd)
 ·rintro k ⟨hk,h400⟩ K hK
  (refine cm ?_)
  by_cases hlt:k < d.cC.length
  ·(repeat' (first|(refine hK _ ?_;clear hK K)|(refine aM (fun K hK=>?_))|(refine fH 8 ab ?_;refine aP ?_)|(refine gE ?_;(first|(refine cc ?_)|(refine dL (fun _=>?_))))|(refine gQ ?_;refine aS (fun hc=>?_) (fun hc=>?_)<;>(try (first|contradiction|omega)))|(refine aN ?_)|(refine gS ?_;refine aX ?_)))
   (refine cT (bQ 6 rfl rfl rfl) ?_;simp only [go_sem,seval])
   (refine cT (bQ 7 rfl rfl rfl) ?_;simp only [go_sem,seval])
   refine gR ?_;refine aP ?_
   (repeat' (first|(refine hK _ ?_;clear hK K)|(refine gC 109 ?_;refine bp (qv _ _) ?_)|(refine aN ?_)))
   refine mJ [0,4,7,9,10,11,12,13,14,15,19,20,21,22,23,24,25] ?_
   simp only [jw,List.set_cons_succ,List.set_cons_zero]
   have hp:=h.P0 d.cC[k] (List.getElem_mem hlt)
   generalize hw:d.cC[k].ts=w at *
   have hK9:=hK
   refine jC 1000000001 ab aw ae ae ae Tryz.func158 Tryz.ntmps158 ab ab (fun y hyp hya hyb=>?_)
   simp only [go_sem,seval,dj,aV,List.length_cons,List.length_nil,List.replicate_succ,List.replicate_zero,Nat.reduceSub]
   have key:∀ (r pre:List Int) (A:List bB),w=w.take pre.length++r→pre.length+r.length=w.length→A.length≤400→
     cO Tryz.prog 159 [ints pre,.bx [ints w],.ptr 703 0,.bx d.cs,.ptr 704 0] [(2,⟨26,[.fS],true⟩),(3,⟨42,[.int 0,.int 0],true⟩),(5,⟨26,[.sl 2 32 500 0 A.length],true⟩),(500,⟨66,Hu A,false⟩),(1000000001,⟨1000000001,[.any,.bx d.cs,.ptr 2 0,.ptr 3 0,.any,.ptr 5 0,.bx [.int (k:Int)],.any,.any,.any,.any,.any,.any,.any,.any,.any,fi d.cC,.int (d.cC.length:Int),.int (k:Int),.any,.any,.any,.any,.any,.any,.any,.fn 158 [.bx [ints w],.bx d.cs],.any,.any,.any,.any,.any,.any,.any,.any,.any,.any,.any,.any,.any,.any],false⟩),(703,⟨246,[.yl 1000000001 y],true⟩),(704,⟨246,[.fn 159 [.bx [ints w],.ptr 703 0,.bx d.cs,.ptr 704 0]],true⟩)] [] [703,704]
      (fun x hp=>if (aF d k pre r A).length≤400 then x= .bool true∧hp=[(2,⟨26,[.fS],true⟩),(3,⟨42,[.int 0,.int 0],true⟩),(5,⟨26,[.sl 2 32 500 0 (aF d k pre r A).length],true⟩),(500,⟨66,Hu (aF d k pre r A),false⟩),(1000000001,⟨1000000001,[.any,.bx d.cs,.ptr 2 0,.ptr 3 0,.any,.ptr 5 0,.bx [.int (k:Int)],.any,.any,.any,.any,.any,.any,.any,.any,.any,fi d.cC,.int (d.cC.length:Int),.int (k:Int),.any,.any,.any,.any,.any,.any,.any,.fn 158 [.bx [ints w],.bx d.cs],.any,.any,.any,.any,.any,.any,.any,.any,.any,.any,.any,.any,.any,.any],false⟩),(703,⟨246,[.yl 1000000001 y],true⟩),(704,⟨246,[.fn 159 [.bx [ints w],.ptr 703 0,.bx d.cs,.ptr 704 0]],true⟩)]
       else x= .bool false∧hp=[(2,⟨26,[.fS],true⟩),(3,⟨42,[.int 10,.int (-8)],true⟩),(5,⟨26,[.sl 2 32 500 0 ((aF d k pre r A).take 400).length],true⟩),(500,⟨66,Hu ((aF d k pre r A).take 400),false⟩),(1000000001,⟨1000000003,[.any,.bx d.cs,.ptr 2 0,.ptr 3 0,.any,.ptr 5 0,.bx [.int (k:Int)],.any,.any,.any,.any,.any,.any,.any,.any,.any,fi d.cC,.int (d.cC.length:Int),.int (k:Int),.any,.any,.any,.any,.any,.any,.any,.fn 158 [.bx [ints w],.bx d.cs],.any,.any,.any,.any,.any,.any,.any,.any,.any,.any,.any,.any,.any,.any],false⟩),(703,⟨246,[.yl 1000000001 y],true⟩),(704,⟨246,[.fn 159 [.bx [ints w],.ptr 703 0,.bx d.cs,.ptr 704 0]],true⟩)]):=by
    intro r
    induction r with
    |nil=>
     intro pre A hr hl hA
     rw [Mk]
     simp only [List.length_nil,Nat.add_zero] at hl
     by_cases h4:A.length=400
     ·have hcond:¬(A++[(⟨(k:Int),pre⟩:bB)]).length≤400:=by rw [List.length_append,List.length_singleton];omega
      have htk:(A++[(⟨(k:Int),pre⟩:bB)]).take 400=A:=List.take_left' h4
      simp only [hcond,if_false,htk]
      (refine ck Tryz.func159 Tryz.ntmps159 ?_)
      (repeat' (first|(refine hK _ ?_;clear hK K)|(refine aM (fun K hK=>?_))|(refine fH 2 ab ?_;refine aP ?_)|(refine gQ ?_;refine aS (fun hc=>?_) (fun hc=>?_)<;>(try (first|contradiction|omega)))))
      refine iQ ab ?_
      intro o ho
      have ho2:o∈[[0,1,2,3,4],[1,0,2,3,4],[1,2,0,3,4]]:=by
       refine Eq.mp (congrArg (o∈·) ?_) ho
       kernel_rfl
      simp only [List.mem_cons,List.not_mem_nil,or_false] at ho2
      rcases ho2 with rfl|rfl|rfl
      ·simp only [List.filterMap_cons,List.filterMap_nil,List.getElem?_toArray,List.getElem?_cons_zero,List.getElem?_cons_succ]
       (first|(refine bL _ ao ?_)|(refine bM ao ay ?_));simp only [go_sem,seval,dj,aV]
       (first|(refine bL _ ao ?_)|(refine bM ao ay ?_));simp only [go_sem,seval,dj,aV]
       refine bu rfl rfl (fun K1 hK1=>?_)
       refine cH (cP _) ab (fun x hx=>?_)
       obtain rfl:=hx
       simp only [go_sem,seval];refine hK1 _ ?_;clear hK1 K1
       refine bX 1000000002 hyp hya hyb ab ab ab ab ab aw aw aw ab ae ab ab ?_
       simp only [go_sem,seval]
       refine gR ?_;refine aP ?_
       refine ⟨_,_,Le.refl _,by rfl,by rfl,?_⟩
       simp only [go_sem,seval]
       (repeat' (first|(refine hK _ ?_;clear hK K)|(refine aM (fun K hK=>?_))|(refine gR ?_;refine aP ?_)|(refine gE ?_;refine cc ?_)|(refine gQ ?_;refine aS (fun hc=>?_) (fun hc=>?_)<;>(try (first|contradiction|omega)))|(refine aN ?_)|(refine gT ?_;refine aZ ?_)))
       refine ⟨_,_,_,1000000003,Le.refl _,by rfl,by rfl,by rfl,rfl,?_⟩
       simp only [go_sem,seval]
       refine bu rfl rfl (fun K1 hK1=>?_)
       refine bK cU ?_
       simp only [go_sem,seval];refine hK1 _ ?_;clear hK1 K1
       refine cA ?_
       (repeat' (first|(refine gT ?_;refine aZ ?_)|(apply_assumption (exfalso:=false) (symm:=false))))
       (refine bH (Le.refl _) (aQ (aO ab)) (by (repeat refine bq ab ?_);exact aY _) ab ae ⟨rfl,rfl⟩)
      ·simp only [List.filterMap_cons,List.filterMap_nil,List.getElem?_toArray,List.getElem?_cons_zero,List.getElem?_cons_succ]
       (first|(refine bL _ ao ?_)|(refine bM ao ay ?_));simp only [go_sem,seval,dj,aV]
       (first|(refine bL _ ao ?_)|(refine bM ao ay ?_));simp only [go_sem,seval,dj,aV]
       refine bu rfl rfl (fun K1 hK1=>?_)
       refine cH (cP _) ab (fun x hx=>?_)
       obtain rfl:=hx
       simp only [go_sem,seval];refine hK1 _ ?_;clear hK1 K1
       refine bX 1000000002 hyp hya hyb ab ab ab ab ab aw aw aw ab ae ab ab ?_
       simp only [go_sem,seval]
       refine gR ?_;refine aP ?_
       refine ⟨_,_,Le.refl _,by rfl,by rfl,?_⟩
       simp only [go_sem,seval]
       (repeat' (first|(refine hK _ ?_;clear hK K)|(refine aM (fun K hK=>?_))|(refine gR ?_;refine aP ?_)|(refine gE ?_;refine cc ?_)|(refine gQ ?_;refine aS (fun hc=>?_) (fun hc=>?_)<;>(try (first|contradiction|omega)))|(refine aN ?_)|(refine gT ?_;refine aZ ?_)))
       refine ⟨_,_,_,1000000003,Le.refl _,by rfl,by rfl,by rfl,rfl,?_⟩
       simp only [go_sem,seval]
       refine bu rfl rfl (fun K1 hK1=>?_)
       refine bK cU ?_
       simp only [go_sem,seval];refine hK1 _ ?_;clear hK1 K1
       refine cA ?_
       (repeat' (first|(refine gT ?_;refine aZ ?_)|(apply_assumption (exfalso:=false) (symm:=false))))
       (refine bH (Le.refl _) (aQ (aO ab)) (by (repeat refine bq ab ?_);exact aY _) ab ae ⟨rfl,rfl⟩)
      ·simp only [List.filterMap_cons,List.filterMap_nil,List.getElem?_toArray,List.getElem?_cons_zero,List.getElem?_cons_succ]
       (first|(refine bL _ ao ?_)|(refine bM ao ay ?_));simp only [go_sem,seval,dj,aV]
       refine bu rfl rfl (fun K1 hK1=>?_)
       refine cH (cP _) ab (fun x hx=>?_)
       obtain rfl:=hx
       simp only [go_sem,seval];refine hK1 _ ?_;clear hK1 K1
       (first|(refine bL _ ao ?_)|(refine bM ao ay ?_));simp only [go_sem,seval,dj,aV]
       refine bX 1000000002 hyp hya hyb ab ab ab ab ab aw aw aw ab ae ab ab ?_
       simp only [go_sem,seval]
       refine gR ?_;refine aP ?_
       refine ⟨_,_,Le.refl _,by rfl,by rfl,?_⟩
       simp only [go_sem,seval]
       (repeat' (first|(refine hK _ ?_;clear hK K)|(refine aM (fun K hK=>?_))|(refine gR ?_;refine aP ?_)|(refine gE ?_;refine cc ?_)|(refine gQ ?_;refine aS (fun hc=>?_) (fun hc=>?_)<;>(try (first|contradiction|omega)))|(refine aN ?_)|(refine gT ?_;refine aZ ?_)))
       refine ⟨_,_,_,1000000003,Le.refl _,by rfl,by rfl,by rfl,rfl,?_⟩
       simp only [go_sem,seval]
       refine bu rfl rfl (fun K1 hK1=>?_)
       refine bK cU ?_
       simp only [go_sem,seval];refine hK1 _ ?_;clear hK1 K1
       refine cA ?_
       (repeat' (first|(refine gT ?_;refine aZ ?_)|(apply_assumption (exfalso:=false) (symm:=false))))
       (refine bH (Le.refl _) (aQ (aO ab)) (by (repeat refine bq ab ?_);exact aY _) ab ae ⟨rfl,rfl⟩)
     ·have hcond:(A++[(⟨(k:Int),pre⟩:bB)]).length≤400:=by rw [List.length_append,List.length_singleton];omega
      simp only [hcond,if_true]
      (refine ck Tryz.func159 Tryz.ntmps159 ?_)
      (repeat' (first|(refine hK _ ?_;clear hK K)|(refine aM (fun K hK=>?_))|(refine fH 2 ab ?_;refine aP ?_)|(refine gQ ?_;refine aS (fun hc=>?_) (fun hc=>?_)<;>(try (first|contradiction|omega)))))
      refine iQ ab ?_
      intro o ho
      have ho2:o∈[[0,1,2,3,4],[1,0,2,3,4],[1,2,0,3,4]]:=by
       refine Eq.mp (congrArg (o∈·) ?_) ho
       kernel_rfl
      simp only [List.mem_cons,List.not_mem_nil,or_false] at ho2
      rcases ho2 with rfl|rfl|rfl
      ·simp only [List.filterMap_cons,List.filterMap_nil,List.getElem?_toArray,List.getElem?_cons_zero,List.getElem?_cons_succ]
       (first|(refine bL _ ao ?_)|(refine bM ao ay ?_));simp only [go_sem,seval,dj,aV]
       (first|(refine bL _ ao ?_)|(refine bM ao ay ?_));simp only [go_sem,seval,dj,aV]
       refine bu rfl rfl (fun K1 hK1=>?_)
       refine cH (cP _) ab (fun x hx=>?_)
       obtain rfl:=hx
       simp only [go_sem,seval];refine hK1 _ ?_;clear hK1 K1
       refine bX 1000000002 hyp hya hyb ab ab ab ab ab aw aw aw ab ae ab ab ?_
       simp only [go_sem,seval]
       refine gR ?_;refine aP ?_
       refine ⟨_,_,Le.refl _,by rfl,by rfl,?_⟩
       simp only [go_sem,seval]
       (repeat' (first|(refine hK _ ?_;clear hK K)|(refine aM (fun K hK=>?_))|(refine gR ?_;refine aP ?_)|(refine bn (fun K hK=>?_);refine cF ?_)|(refine gE ?_;refine cc ?_)|(refine gQ ?_;refine aS (fun hc=>?_) (fun hc=>?_)<;>(try (first|contradiction|omega)))|(refine gW ?_;refine bN ?_)|(refine aN ?_)|(refine gS ?_;refine aX ?_)))
       (try simp only [Nat.reduceBEq,Bool.false_or,Bool.or_false,Bool.false_eq_true,reduceIte])
       refine ⟨_,_,_,1000000001,Le.refl _,by rfl,by rfl,by rfl,rfl,?_⟩
       simp only [go_sem,seval]
       refine bu rfl rfl (fun K1 hK1=>?_)
       refine bK cU ?_
       simp only [go_sem,seval];refine hK1 _ ?_;clear hK1 K1
       refine cA ?_
       (repeat' (first|(refine hK _ ?_;clear hK K)|(refine gT ?_;refine aZ ?_)))
       (refine bH (Le.refl _) (aQ (aO ab)) (by (repeat refine bq ab ?_);exact aY _) ab ae ⟨rfl,rfl⟩)
      ·simp only [List.filterMap_cons,List.filterMap_nil,List.getElem?_toArray,List.getElem?_cons_zero,List.getElem?_cons_succ]
       (first|(refine bL _ ao ?_)|(refine bM ao ay ?_));simp only [go_sem,seval,dj,aV]
       (first|(refine bL _ ao ?_)|(refine bM ao ay ?_));simp only [go_sem,seval,dj,aV]
       refine bu rfl rfl (fun K1 hK1=>?_)
       refine cH (cP _) ab (fun x hx=>?_)
       obtain rfl:=hx
       simp only [go_sem,seval];refine hK1 _ ?_;clear hK1 K1
       refine bX 1000000002 hyp hya hyb ab ab ab ab ab aw aw aw ab ae ab ab ?_
       simp only [go_sem,seval]
       refine gR ?_;refine aP ?_
       refine ⟨_,_,Le.refl _,by rfl,by rfl,?_⟩
       simp only [go_sem,seval]
       (repeat' (first|(refine hK _ ?_;clear hK K)|(refine aM (fun K hK=>?_))|(refine gR ?_;refine aP ?_)|(refine bn (fun K hK=>?_);refine cF ?_)|(refine gE ?_;refine cc ?_)|(refine gQ ?_;refine aS (fun hc=>?_) (fun hc=>?_)<;>(try (first|contradiction|omega)))|(refine gW ?_;refine bN ?_)|(refine aN ?_)|(refine gS ?_;refine aX ?_)))
       (try simp only [Nat.reduceBEq,Bool.false_or,Bool.or_false,Bool.false_eq_true,reduceIte])
       refine ⟨_,_,_,1000000001,Le.refl _,by rfl,by rfl,by rfl,rfl,?_⟩
       simp only [go_sem,seval]
       refine bu rfl rfl (fun K1 hK1=>?_)
       refine bK cU ?_
       simp only [go_sem,seval];refine hK1 _ ?_;clear hK1 K1
       refine cA ?_
       (repeat' (first|(refine hK _ ?_;clear hK K)|(refine gT ?_;refine aZ ?_)))
       (refine bH (Le.refl _) (aQ (aO ab)) (by (repeat refine bq ab ?_);exact aY _) ab ae ⟨rfl,rfl⟩)
      ·simp only [List.filterMap_cons,List.filterMap_nil,List.getElem?_toArray,List.getElem?_cons_zero,List.getElem?_cons_succ]
       (first|(refine bL _ ao ?_)|(refine bM ao ay ?_));simp only [go_sem,seval,dj,aV]
       refine bu rfl rfl (fun K1 hK1=>?_)
       refine cH (cP _) ab (fun x hx=>?_)
       obtain rfl:=hx
       simp only [go_sem,seval];refine hK1 _ ?_;clear hK1 K1
       (first|(refine bL _ ao ?_)|(refine bM ao ay ?_));simp only [go_sem,seval,dj,aV]
       refine bX 1000000002 hyp hya hyb ab ab ab ab ab aw aw aw ab ae ab ab ?_
       simp only [go_sem,seval]
       refine gR ?_;refine aP ?_
       refine ⟨_,_,Le.refl _,by rfl,by rfl,?_⟩
       simp only [go_sem,seval]
       (repeat' (first|(refine hK _ ?_;clear hK K)|(refine aM (fun K hK=>?_))|(refine gR ?_;refine aP ?_)|(refine bn (fun K hK=>?_);refine cF ?_)|(refine gE ?_;refine cc ?_)|(refine gQ ?_;refine aS (fun hc=>?_) (fun hc=>?_)<;>(try (first|contradiction|omega)))|(refine gW ?_;refine bN ?_)|(refine aN ?_)|(refine gS ?_;refine aX ?_)))
       (try simp only [Nat.reduceBEq,Bool.false_or,Bool.or_false,Bool.false_eq_true,reduceIte])
       refine ⟨_,_,_,1000000001,Le.refl _,by rfl,by rfl,by rfl,rfl,?_⟩
       simp only [go_sem,seval]
       refine bu rfl rfl (fun K1 hK1=>?_)
       refine bK cU ?_
       simp only [go_sem,seval];refine hK1 _ ?_;clear hK1 K1
       refine cA ?_
       (repeat' (first|(refine hK _ ?_;clear hK K)|(refine gT ?_;refine aZ ?_)))
       (refine bH (Le.refl _) (aQ (aO ab)) (by (repeat refine bq ab ?_);exact aY _) ab ae ⟨rfl,rfl⟩)
    |cons t r ih=>
     intro pre A hr hl hA
     have hlen:(t::r).length=r.length+1:=rfl
     rw [hlen] at hl
     have hne:¬((pre.length:Int)=(w.length:Int)):=by omega
     have hwt:w[pre.length]?=some t:=by
      have h1:(w.take pre.length).length=pre.length:=by rw [List.length_take];omega
      have h2:(w.take pre.length++t::r)[pre.length]?=some t:=by
       rw [List.getElem?_append_right (Nat.le_of_eq h1),h1,Nat.sub_self];rfl
      rwa [← hr] at h2
     have hpw:pre.length < w.length:=by omega
     have hwe:w[pre.length]=t:=by rw [List.getElem?_eq_getElem hpw] at hwt;exact Option.some.inj hwt
     (refine ck Tryz.func159 Tryz.ntmps159 ?_)
     (repeat' (first|(refine hK _ ?_;clear hK K)|(refine aM (fun K hK=>?_))|(refine gR ?_;refine aP ?_)|(refine gD 3 ?_;refine fg (.it 0 0 (.it 1 0 (.it 2 0 (.it 3 0 (.it 4 0 (.it 5 0 (.it 6 0 (.it 7 0 (.it 8 0 (.it 11 0 (.it 9 1 (.it 10 0 .nil)))))))))))) [0,1,2,3,4,5,6,7,8,10,11] ?_)|(refine kK 160 ?_;refine dw (Hn _ _ _ az az az) ?_)|(refine gE ?_;refine dL (fun _=>?_))|(refine gQ ?_;refine aS (fun hc=>?_) (fun hc=>?_)<;>(try (first|contradiction|omega)))|(refine aN ?_)|(refine gS ?_;refine aX ?_)))
     have hoe:CZ d.types d.dT t d.dT.length=mh d t:=rfl
     simp only [hwe,hoe]
     have hof:=pg d.types d.dT t d.dT.length
     rw [hoe] at hof
     refine bU [6,8,29,30,31,32,33,34,35,36,37,38,39,40,41] (fun j:Nat=>j≤(mh d t).length∧(aK d k pre t r A j).length≤400) (fun j=>(mh d t).length - j) (fun j=>[(29,.int j)]) (fun j=>[(5,⟨26,[.sl 2 32 500 0 (aK d k pre t r A j).length],true⟩),(500,⟨66,Hu (aK d k pre t r A j),false⟩)]) 0 ⟨Nat.zero_le _,by rw [C1];exact hA⟩ ?_ ?_
     ·rw [C1]
      (refine cm ?_)
      (exact bd)
     ·rintro j ⟨hj,hj4⟩ K hK
      (refine cm ?_)
      by_cases hlt:j < (mh d t).length
      ·have ihj:=ih (pre++[(mh d t)[j]]) (aK d k pre t r A j) (by
        rw [List.length_append,List.length_singleton,List.take_add_one,hwt,Option.toList_some,List.append_assoc];exact hr) (by rw [List.length_append,List.length_singleton];omega) hj4
       rw [J7 hlt] at ihj
       by_cases hle:(aK d k pre t r A (j+1)).length≤400
       ·simp only [hle,if_true] at ihj
        have hprb:(pre.length+1) * 8≤140737488355328:=by omega
        simp only [ints,List.map_append,List.map_cons,List.map_nil] at ihj
        (repeat' (first|(refine hK _ ?_;clear hK K)|(refine aM (fun K hK=>?_))|(refine fH 6 ab ?_;refine aP ?_)|(refine gE ?_;refine dL (fun _=>?_))|(refine gQ ?_;refine aS (fun hc=>?_) (fun hc=>?_)<;>(try (first|contradiction|omega)))|(refine aN ?_)|(refine gS ?_;refine aX ?_)))
        (repeat' (first|(refine hK _ ?_;clear hK K)|(refine gD 6 ?_;refine wx (s1:=?_) (.it 1 0 (.it 3 0 (.yN 0 2 4 (.fk 2 4 (.it 4 1 (.it 5 3 (.it 6 3 (.it 7 1 .nil)))) (.it 2 1 (.it 5 3 (.it 6 3 (.it 7 1 .nil))))) (.fk 0 4 (.it 4 1 (.it 5 3 (.it 6 3 (.it 7 1 .nil)))) (.oh 0 1 5 3 (.it 5 3 (.it 6 3 (.it 7 1 .nil))) (.it 0 1 (.it 6 3 (.it 7 1 .nil))))) (.fk 0 2 (.it 2 1 (.it 5 3 (.it 6 3 (.it 7 1 .nil)))) (.oh 0 1 5 3 (.it 5 3 (.it 6 3 (.it 7 1 .nil))) (.it 0 1 (.it 6 3 (.it 7 1 .nil)))))))) [1,3] ?_ ?_;rotate_left)|(refine dk (fun K hK=>?_);(first|(refine na (d:=some 35) (pd 35000 _) ab (by first|exact qA al|(intro id hid;simp only [List.mem_cons,List.not_mem_nil,or_false] at hid;rcases hid with rfl|rfl|rfl|rfl<;>first|rfl|(simp only [go_sem,seval];done)|(simp only [St.free,cI,go_sem,seval];done)|(simp only [go_sem,seval];rfl)|(simp [St.free,cI,AV.bz,AV.cv];try exact eU _ _ _ fun _=>rfl))) (fun x hp hx=>?_);obtain ⟨rfl,rfl⟩:=hx)|(refine dq (d:=37) aC ab ab ab ab ?_)))|(refine And.intro ?_ ?_)|(refine tO ?_;refine ko ?_)|(refine gH (fun K hK=>?_);refine cF ?_)|(refine kj ?_;refine eK ?_)|(apply_assumption (exfalso:=false) (symm:=false))))
        all_goals (try (refine gH (fun K hK=>?_);(try simp only [Nat.reduceBEq,Bool.or_false,Bool.false_or,Bool.false_eq_true,reduceIte]);refine fD (fx (f:=AV.int) 35005 1 8 (pre.length+1) (pre++[(mh d t)[j]]) ab (by rw [ky,List.map_append];rfl) ax (fun _=>rfl) (fun _=>rfl) aj) ?_;simp only [AV.eG,sealS_any,sealS_v,sealS_isl,sealS_iptr,er,eW,sealS_agg,sealS_tup,sealS_fn,purge_agg,purge_tup,purge_fn,and_self,AV.bz,AV.cv,Bool.or_self,go_sem,seval,List.map_append,List.map_cons,List.map_nil];(refine dQ ab (ihj) (by (repeat (first|exact bP|refine bA ab ?_))) (fun _ h=>by cases h) ab (fun x hp' hx=>?_);obtain ⟨rfl,rfl⟩:=hx<;>simp only [go_sem,seval,dj,aV]);refine hK _ ?_;clear hK K;(repeat' (first|(refine tO ?_;refine ko ?_)|(refine gL ?_;(first|exact Le.refl _|exact bd))|(refine kj ?_;refine eK ?_)))))
        (repeat' (first|(refine gR ?_;refine aP ?_)|(refine gE ?_;refine cc ?_)|(refine gQ ?_;refine bT ?_)|(refine gS ?_;refine aX ?_)|(apply_assumption (exfalso:=false) (symm:=false))))
        refine ⟨j+1,⟨by omega,hle⟩,by omega,?_⟩
        (refine cm ?_)
        (exact bd)
       ·simp only [hle,if_false] at ihj
        obtain ⟨u,hu⟩:=Ml d k pre t r A (j+1)
        have hgt:¬(aF d k pre (t::r) A).length≤400:=by rw [← hu,List.length_append];omega
        have htk:(aK d k pre t r A (j+1)).take 400=(aF d k pre (t::r) A).take 400:=by rw [← hu,List.take_append_of_le_length aj]
        rw [htk] at ihj
        have hprb:(pre.length+1) * 8≤140737488355328:=by omega
        simp only [ints,List.map_append,List.map_cons,List.map_nil] at ihj
        (repeat' (first|(refine hK _ ?_;clear hK K)|(refine aM (fun K hK=>?_))|(refine fH 6 ab ?_;refine aP ?_)|(refine gE ?_;refine dL (fun _=>?_))|(refine gQ ?_;refine aS (fun hc=>?_) (fun hc=>?_)<;>(try (first|contradiction|omega)))|(refine aN ?_)|(refine gS ?_;refine aX ?_)))
        (repeat' (first|(refine hK _ ?_;clear hK K)|(refine gD 6 ?_;refine wx (s1:=?_) (.it 1 0 (.it 3 0 (.yN 0 2 4 (.fk 2 4 (.it 4 1 (.it 5 3 (.it 6 3 (.it 7 1 .nil)))) (.it 2 1 (.it 5 3 (.it 6 3 (.it 7 1 .nil))))) (.fk 0 4 (.it 4 1 (.it 5 3 (.it 6 3 (.it 7 1 .nil)))) (.oh 0 1 5 3 (.it 5 3 (.it 6 3 (.it 7 1 .nil))) (.it 0 1 (.it 6 3 (.it 7 1 .nil))))) (.fk 0 2 (.it 2 1 (.it 5 3 (.it 6 3 (.it 7 1 .nil)))) (.oh 0 1 5 3 (.it 5 3 (.it 6 3 (.it 7 1 .nil))) (.it 0 1 (.it 6 3 (.it 7 1 .nil)))))))) [1,3] ?_ ?_;rotate_left)|(refine dk (fun K hK=>?_);(first|(refine na (d:=some 35) (pd 35000 _) ab (by first|exact qA al|(intro id hid;simp only [List.mem_cons,List.not_mem_nil,or_false] at hid;rcases hid with rfl|rfl|rfl|rfl<;>first|rfl|(simp only [go_sem,seval];done)|(simp only [St.free,cI,go_sem,seval];done)|(simp only [go_sem,seval];rfl)|(simp [St.free,cI,AV.bz,AV.cv];try exact eU _ _ _ fun _=>rfl))) (fun x hp hx=>?_);obtain ⟨rfl,rfl⟩:=hx)|(refine dq (d:=37) aC ab ab ab ab ?_)))|(refine And.intro ?_ ?_)|(refine tO ?_;refine ko ?_)|(refine gH (fun K hK=>?_);refine cF ?_)|(refine kj ?_;refine eK ?_)|(apply_assumption (exfalso:=false) (symm:=false))))
        all_goals (try (refine gH (fun K hK=>?_);(try simp only [Nat.reduceBEq,Bool.or_false,Bool.false_or,Bool.false_eq_true,reduceIte]);refine fD (fx (f:=AV.int) 35005 1 8 (pre.length+1) (pre++[(mh d t)[j]]) ab (by rw [ky,List.map_append];rfl) ax (fun _=>rfl) (fun _=>rfl) aj) ?_;simp only [AV.eG,sealS_any,sealS_v,sealS_isl,sealS_iptr,er,eW,sealS_agg,sealS_tup,sealS_fn,purge_agg,purge_tup,purge_fn,and_self,AV.bz,AV.cv,Bool.or_self,go_sem,seval,List.map_append,List.map_cons,List.map_nil];(refine dQ ab (ihj) (by (repeat (first|exact bP|refine bA ab ?_))) (fun _ h=>by cases h) ab (fun x hp' hx=>?_);obtain ⟨rfl,rfl⟩:=hx<;>simp only [go_sem,seval,dj,aV]);refine hK _ ?_;clear hK K;(repeat' (first|(refine tO ?_;refine ko ?_)|(refine gL ?_;(first|exact Le.refl _|exact bd))|(refine kj ?_;refine eK ?_)))))
        (repeat' (first|(refine hK _ ?_;clear hK K)|(refine aM (fun K hK=>?_))|(refine gR ?_;refine aP ?_)|(refine gQ ?_;refine cf ?_)|(refine gT ?_;refine aZ ?_)))
        simp only [hgt,if_false]
        (refine bH (Le.refl _) (aQ (aO ab)) (by (repeat refine bq ab ?_);exact aY _) ab ae ⟨rfl,rfl⟩)
      ·obtain rfl:j=(mh d t).length:=by omega
       rw [Hv] at hj4
       simp only [Hv]
       (repeat' (first|(refine hK _ ?_;clear hK K)|(refine aM (fun K hK=>?_))|(refine gR ?_;refine aP ?_)|(refine gQ ?_;refine aS (fun hc=>?_) (fun hc=>?_)<;>(try (first|contradiction|omega)))|(refine gX ?_;refine bV ?_)|(refine gT ?_;refine aZ ?_)|(apply_assumption (exfalso:=false) (symm:=false))))
       simp only [hj4,if_true]
       (refine bH (Le.refl _) (aQ (aO ab)) (by (repeat refine bq ab ?_);exact aY _) ab ae ⟨rfl,rfl⟩)
   refine aM (fun K hK=>?_)
   refine dG ?_
   refine cp rfl (fun K1 hK1=>?_)
   refine ke (d:=3) 703 ae (.inl rfl) ae ?_
   simp only [go_sem,seval];refine hK1 _ ?_;clear hK1 K1
   refine jQ ?_
   refine hK _ ?_;clear hK K
   refine aM (fun K hK=>?_)
   refine dG ?_
   refine cp rfl (fun K1 hK1=>?_)
   refine mB (d:=4) 704 ae ?_
   simp only [go_sem,seval];refine hK1 _ ?_;clear hK1 K1
   refine jQ ?_
   refine hK _ ?_;clear hK K
   have kb:=uI (args':=[.fS,.bx [ints w],.ptr 703 0,.bx d.cs,.ptr 704 0]) (key w [] (rY d k) ax ax h400) ⟨iP.nil 1 8,iP.iB _,iP.iB _,iP.iB _,iP.iB _,trivial⟩
   have hatk:aF d k [] w (rY d k)=rY d (k+1):=by
    rw [rK,aF,BT,show (d.cC[k]!).ts=w by rw [← hw,getElem!_pos d.cC k hlt]]
    simp
   rw [hatk] at kb
   clear key
   (repeat' (first|(refine aM (fun K hK=>?_))|(refine fH 3 ab ?_;refine aP ?_)|fail))
   refine bn (fun K hK=>?_)
   refine bK cD ?_
   simp only [go_sem,seval]
   refine hK _ ?_;clear hK K
   (repeat' (first|(refine hK _ ?_;clear hK K)|(refine gW ?_;refine bN ?_)))
   by_cases hle:(rY d (k+1)).length≤400
   ·simp only [hle,if_true] at kb
    refine gR ?_;refine aP ?_
    refine bn (fun K hK=>?_)
    (refine dQ ab (kb) (by (repeat (first|exact bP|refine bA ab ?_))) (fun _ h=>by cases h) ab (fun x hp' hx=>?_);obtain ⟨rfl,rfl⟩:=hx<;>simp only [go_sem,seval,dj,aV])
    refine hK _ ?_;clear hK K
    (repeat' (refine gW ?_;refine bN ?_))
    refine ⟨_,_,.normal,1000000001,_,Le.refl _,gp,rfl,by rfl,?_⟩
    simp only [go_sem,seval,dj,aV]
    refine hK9 _ ?_
    clear hK9 hK
    (repeat' (first|(refine hK _ ?_;clear hK K)|(refine gR ?_;refine aP ?_)|(refine gE ?_;refine cc ?_)))
    refine ⟨k+1,⟨by omega,hle⟩,by omega,?_⟩
    (refine cm ?_)
    (exact bd)
   ·simp only [hle,if_false] at kb
    refine gR ?_;refine aP ?_
    refine bn (fun K hK=>?_)
    (refine dQ ab (kb) (by (repeat (first|exact bP|refine bA ab ?_))) (fun _ h=>by cases h) ab (fun x hp' hx=>?_);obtain ⟨rfl,rfl⟩:=hx<;>simp only [go_sem,seval,dj,aV])
    refine hK _ ?_;clear hK K
    (repeat' (refine gW ?_;refine bN ?_))
    refine ⟨_,_,.ret,1000000003,_,Le.refl _,gp,rfl,by rfl,?_⟩
    simp only [go_sem,seval,dj,aV]
    (repeat' fail)
    have hgt:¬(rY d d.cC.length).length≤400:=fun hc=>hle (Nat.le_trans (Ai d aj) hc)
    simp only [hgt,if_false]
    (refine aT (Le.refl _) (dx (bt (by first|exact bF ab ab ab ab|exact br ab ab ab aq)) (bt (by first|exact bF ab ab ab ab|exact br ab ab ab aq))) af ?_)
    rfl
  ·obtain rfl:k=d.cC.length:=by omega
   (repeat' (first|(refine hK _ ?_;clear hK K)|(refine aM (fun K hK=>?_))|(refine fH 14 ab ?_;refine aP ?_)|(refine gQ ?_;refine aS (fun hc=>?_) (fun hc=>?_)<;>(try (first|contradiction|omega)))|(refine gX ?_;refine bV ?_)|(apply_assumption (exfalso:=false) (symm:=false))))
   (refine cT (eg (f:=bB.av) 500 2 32 (rY d d.cC.length).length (rY d d.cC.length) ab (rI _) aJ (fun _=>rfl) (fun _=>rfl) aj) ?_;try simp only [go_sem,seval])
   (repeat' (first|(refine hK _ ?_;clear hK K)|(refine gR ?_;refine aP ?_)|(refine gE ?_;refine cc ?_)|(refine gT ?_;refine aZ ?_)))
   (refine aT (Le.refl _) (dx (bt (by first|exact bF ab ab ab ab|exact br ab ab ab aq)) (bt (by first|exact bF ab ab ab ab|exact br ab ab ab aq))) af ?_)
   rw [if_pos h400]
   rfl
end Go.Proofs.YtkbiagkbmodgdaaGreat
namespace Go.Proofs.YtkbiagkbmodgdaaGreat
open Go.Ab
open Go
set_option maxRecDepth 10000
attribute [local irreducible] dE fh mC lW db PV eR ef AW bg dn ec dP cO Ab.Fin ft en gI iO RV jX Le eI fM mg gV kf dz dg
set_option maxHeartbeats 8000000
abbrev P1 (d:dB):List Bool:=dX d.cC.length (po d)
abbrev P2 (d:dB):List Bool:=dX d.cC.length (EG d)
abbrev dB.gs (d:dB):List AV:=[fT d.types,fT d.dT,fi d.cC,jn d.eh,cZ d.init,dM d.goal,CW (P1 d),CW (P2 d)]
theorem Hx (d:dB) (h:JD d) (hv:lq d=(0,0)):bg Tryz.prog 49 [d.av] (fun r=>if (rY d d.cC.length).length≤400 then r= .dr [.bx d.gs,fault 0 0] else r= .dr [.v (.pointer none),fault 10 (-8)]):=by
 have hat:=Hw d h hv
 have hfl:=BP d h
 by_cases h4:(rY d d.cC.length).length≤400
 ·simp only [h4,if_true] at hat ⊢
  (refine bh Tryz.func49 Tryz.ntmps49 ?_)
  (repeat' (first|(refine hK _ ?_;clear hK K)|(refine aM (fun K hK=>?_))|(refine fH 6 ab ?_;refine aP ?_)|(refine gC 107 ?_;refine bp (hat) ?_)|(refine gC 108 ?_;refine bp (hfl) ?_)|(refine gE ?_;refine cc ?_)|(refine gQ ?_;refine bT ?_)|(refine gS ?_;refine aX ?_)))
  (refine cT (bQ 18 rfl rfl rfl) ?_;simp only [go_sem,seval])
  (repeat' (first|(refine hK _ ?_;clear hK K)|(refine gR ?_;refine aP ?_)|(refine gE ?_;refine cc ?_)|(refine gT ?_;refine aZ ?_)))
  (refine aT (Le.refl _) (dx (aO ab) (bt (by first|exact bF ab ab ab ab|exact br ab ab ab aq))) af ?_)
  rfl
 ·simp only [h4,if_false] at hat ⊢
  (refine bh Tryz.func49 Tryz.ntmps49 ?_)
  (repeat' (first|(refine hK _ ?_;clear hK K)|(refine aM (fun K hK=>?_))|(refine gR ?_;refine aP ?_)|(refine gD 3 ?_;refine fg (.it 0 0 (.it 1 0 (.it 2 3 .nil))) [0,1] ?_)|(refine gC 107 ?_;refine bp (hat) ?_)|(refine gO ?_;refine jZ ?_)|(refine gE ?_;refine cc ?_)|(refine gQ ?_;refine cf ?_)|(refine gT ?_;refine aZ ?_)))
  (refine aT (Le.refl _) (dx (aO ab) (bt (by first|exact bF ab ab ab ab|exact br ab ab ab aq))) af ?_)
  rfl
def BU (d:dB) (x:cz):Bool:=yd d.init x.x != x.neg
theorem Hy (d:dB) (x:cz):bg Tryz.prog 53 [.bx d.gs,x.av] (fun r=>r= .bool (BU d x)):=by
 have hh:=ye d.init x.x
 obtain ⟨neg,a⟩:=x
 unfold BU
 simp only at hh ⊢
 generalize yd d.init a=b at *
 (refine bh Tryz.func53 Tryz.ntmps53 ?_)
 (repeat' (first|(refine hK _ ?_;clear hK K)|(refine aM (fun K hK=>?_))|(refine gR ?_;refine aP ?_)|(refine gD 1 ?_;refine fg (.it 0 0 (.it 1 0 (.it 2 0 (.it 3 0 (.it 4 0 (.it 5 0 (.it 6 0 (.it 8 0 (.it 9 0 (.it 7 1 (.it 10 0 (.it 11 0 .nil)))))))))))) [0,1,2,3,4,5,6,8,9,10,11] ?_)|(refine kK 116 ?_;refine dw (hh) ?_)|(refine gT ?_;refine aZ ?_)))
 (refine aT (Le.refl _) (aQ (aO ab)) af ?_)
 rfl
abbrev ph (x:cz):List AV:=[.bool x.neg,.int x.x.p,ints x.x.a]
@[go_sem] theorem gv (l:List cz):(l.map cz.av).flatMap AV.cells=l.flatMap ph:=by rw [List.flatMap_map];rfl
@[go_sem] theorem yp (a b:List cz):(a++b).flatMap ph=a.flatMap ph++b.flatMap ph:=List.flatMap_append
@[go_sem] theorem OR (l:List cz):(l.flatMap ph).length=l.length * 3:=by
 induction l with
 |nil=>rfl
 |cons w l ih=>simp [List.flatMap_cons,ih];omega
@[go_sem] theorem M9 (id:Nat) (l:List cz):AV.ct id (l.flatMap ph)=l.flatMap ph:=gY id ph l fun _=>rfl
@[go_sem] theorem N8 (id:Nat) (l:List cz):AV.bz id (l.flatMap ph)=false:=eU id ph l fun _=>rfl
theorem ub (l:List cz):AV.cj (l.flatMap ph)=true:=fK ph l fun _=>rfl
@[go_sem] theorem Na (id sz bw n:Nat) (es:List AV) (l:List cz):AV.du id sz bw n es (l.flatMap ph)=l.flatMap ph:=ew (ub l)
@[go_sem] theorem OS (ids pins:List Nat) (l:List cz):AV.iN ids pins (l.flatMap ph)=l.flatMap ph:=kO (ub l)
@[go_sem] theorem OT (ids:List Nat) (l:List cz):AV.iZ ids (l.flatMap ph)=true:=mH (ub l)
@[go_sem] theorem Nb (id:Nat) (c:List AV) (l:List cz):AV.eJ id c (l.flatMap ph)=l.flatMap ph:=gq (ub l)
abbrev rL (args:List Int) (x:cz):cz:=⟨x.neg,lO args x.x⟩
abbrev Mm (x:cz):cz:=⟨!x.neg,x.x⟩
def pG (fl:Int→Bool) (ini:List bB) (args:List Int):List cz→List cz→Option (List cz)
 |[],out=>some out
 |x::l,out=>
  if fl x.x.p=true then
   if tE out (Mm (rL args x))=true then none
   else if tE out (rL args x)=true then pG fl ini args l out
   else pG fl ini args l (out++[rL args x])
  else if yd ini (lO args x.x)=x.neg then none else pG fl ini args l out
def Hz:Option (List cz)→AV
 |some l=>.dr [dM l,.bool true]
 |none=>.dr [.fS,.bool false]
theorem HA (d:dB) (ts:List Int) (l:List cz) (args:List Int) (h8:l.length≤8) (hl:∀ x∈l,zZ d ts x.x) (ha:args.length=ts.length) :
  bg Tryz.prog 114 [.bx d.gs,dM l,ints args] (fun r=>r=Hz (pG (hasB (po d)) d.init args l [])):=by
 obtain ⟨R,hR⟩:∃ r,pG (hasB (po d)) d.init args l []=r:=⟨_,rfl⟩
 rw [hR]
 (refine bh Tryz.func114 Tryz.ntmps114 ?_)
 (repeat' (first|(refine hK _ ?_;clear hK K)|(refine aM (fun K hK=>?_))|(refine gR ?_;refine aP ?_)|(refine aN ?_)))
 (refine j1 8 100 3 40 68 ?_)
 refine bO [6,7,8,10,11,14,15,16,17,18,19,20,21,22,23,24,25,26,27,28,29,30,31,32,33,34,35,36,37,38,39,40,41,42,43,44,45,46,47,48,49,50,51,52,53,54,55,56,57,58,59,60,61] (fun q:Nat×List cz=>q.1≤l.length∧q.2.length≤q.1∧pG (hasB (po d)) d.init args (l.drop q.1) q.2=R) (fun q=>l.length - q.1) (fun q=>[(14,.int q.1),(8,.sl 3 40 100 0 q.2.length)]) (fun q=>[(100,⟨68,q.2.flatMap ph,false⟩)]) (0,[]) ⟨Nat.zero_le _,Nat.le_refl _,hR⟩ ?_ ?_
 ·(refine cm ?_)
  (exact bd)
 ·rintro ⟨k,out⟩ ⟨hk,hol,he⟩ K hK
  simp only at hk hol he ⊢
  (refine cm ?_)
  by_cases hlt:k < l.length
  ·have hx:=hl l[k] (List.getElem_mem hlt)
   have hdr:l.drop k=l[k]::l.drop (k+1):=List.drop_eq_getElem_cons hlt
   rw [hdr] at he
   unfold pG at he
   (repeat' (first|(refine hK _ ?_;clear hK K)|(refine aM (fun K hK=>?_))|(refine fH 5 ab ?_;refine aP ?_)|(refine gE ?_;(first|(refine cc ?_)|(refine dL (fun _=>?_))))|(refine gQ ?_;refine aS (fun hc=>?_) (fun hc=>?_)<;>(try (first|contradiction|omega)))|(refine aN ?_)|(refine gS ?_;refine aX ?_)))
   generalize l[k]=x at *
   obtain ⟨neg,at1⟩:=x
   obtain ⟨p,hpe⟩:∃ p:Nat,at1.p=p:=⟨at1.p.toNat,(Int.toNat_of_nonneg hx.p0).symm⟩
   have hpn:p < d.cC.length:=by have:=hx.p1;simp only at this;omega
   have hai:BN args.length at1:=fun i hi=>by have:=(hx.args i hi).1;rw [ha];exact this
   have hmk:p < (dX d.cC.length (po d)).length:=by rw [iH];exact hpn
   have hb:=CV at1 args hai
   have hA:=ye d.init (lO args at1)
   simp only at he hb hA
   obtain ⟨pp,aa⟩:=at1
   simp only at hpe
   subst hpe
   have hmg:=rD hmk
   simp only at he
   cases hf:hasB (po d) (p:Int) with
   |false=>
    rw [hf] at hmg he
    simp only [Bool.false_eq_true,if_false] at he
    by_cases hai2:yd d.init (lO args ⟨(p:Int),aa⟩)=neg
    ·rw [if_pos hai2] at he
     subst he
     (repeat' (first|(refine hK _ ?_;clear hK K)|(refine aM (fun K hK=>?_))|(refine gR ?_;refine aP ?_)|(refine gD 5 ?_;refine wx (s1:=?_) (.it 0 0 (.it 1 0 (.it 2 0 (.it 3 0 (.it 4 0 (.fk 5 7 (.it 6 0 (.it 7 1 (.it 8 3 .nil))) (.it 5 1 (.it 6 0 (.it 8 3 .nil))))))))) [0,1,2,3,4,6] ?_ ?_;rotate_left)|(refine gD 6 ?_;refine fg (.it 0 0 (.it 1 0 (.it 2 0 (.it 3 0 (.it 4 0 (.it 5 0 (.it 6 0 (.it 7 0 (.it 8 0 (.it 9 0 (.it 10 0 .nil))))))))))) [0,1,2,3,4,5,6,7,8,9,10] ?_)|(refine gD 7 ?_;refine fg (.it 0 0 (.it 1 0 (.it 2 0 (.it 3 0 (.it 4 0 (.it 5 0 (.it 6 0 (.it 8 0 (.it 9 0 (.it 7 1 (.it 10 0 .nil))))))))))) [0,1,2,3,4,5,6,8,9,10] ?_)|(refine kK 162 ?_;refine dw (hb) ?_)|(refine kK 116 ?_;refine dw (hA) ?_)|(refine dk (fun K hK=>?_);refine iM (d:=11) 11 al ?_)|(refine And.intro ?_ ?_)|(refine gO ?_;refine jZ ?_)|(refine gL ?_;(first|exact Le.refl _|exact bd))|(refine gE ?_;(first|(refine cc ?_)|(refine dL (fun _=>?_))))|(refine gQ ?_;refine aS (fun hc=>?_) (fun hc=>?_)<;>(try (first|contradiction|omega)))|(refine kj ?_;refine eK ?_)|(refine aN ?_)|(refine gT ?_;refine aZ ?_)))
     all_goals first
      |(exfalso;simp_all;done)
      |((refine aT (Le.refl _) (dx (aO ab) (aO ab)) af ?_);rfl)
    ·rw [if_neg hai2] at he
     (repeat' (first|(refine hK _ ?_;clear hK K)|(refine aM (fun K hK=>?_))|(refine gR ?_;refine aP ?_)|(refine gD 5 ?_;refine wx (s1:=?_) (.it 0 0 (.it 1 0 (.it 2 0 (.it 3 0 (.it 4 0 (.fk 5 7 (.it 6 0 (.it 7 1 (.it 8 3 .nil))) (.it 5 1 (.it 6 0 (.it 8 3 .nil))))))))) [0,1,2,3,4,6] ?_ ?_;rotate_left)|(refine gD 6 ?_;refine fg (.it 0 0 (.it 1 0 (.it 2 0 (.it 3 0 (.it 4 0 (.it 5 0 (.it 6 0 (.it 7 0 (.it 8 0 (.it 9 0 (.it 10 0 .nil))))))))))) [0,1,2,3,4,5,6,7,8,9,10] ?_)|(refine gD 7 ?_;refine fg (.it 0 0 (.it 1 0 (.it 2 0 (.it 3 0 (.it 4 0 (.it 5 0 (.it 6 0 (.it 8 0 (.it 9 0 (.it 7 1 (.it 10 0 .nil))))))))))) [0,1,2,3,4,5,6,8,9,10] ?_)|(refine kK 162 ?_;refine dw (hb) ?_)|(refine kK 116 ?_;refine dw (hA) ?_)|(refine dk (fun K hK=>?_);refine iM (d:=11) 11 al ?_)|(refine And.intro ?_ ?_)|(refine gO ?_;refine jZ ?_)|(refine gL ?_;(first|exact Le.refl _|exact bd))|(refine gE ?_;(first|(refine cc ?_)|(refine dL (fun _=>?_))))|(refine gQ ?_;refine aS (fun hc=>?_) (fun hc=>?_)<;>(try (first|contradiction|omega)))|(refine kj ?_;refine eK ?_)|(refine aN ?_)|(refine gS ?_;refine aX ?_)))
     all_goals first
      |(exfalso;simp_all;done)
      |skip
     refine ⟨(k+1,out),⟨by simp only;omega,by simp only;omega,he⟩,by simp only;omega,?_⟩
     (refine cm ?_)
     (exact bd)
   |true=>
    rw [hf] at hmg he
    simp only [if_true] at he
    have hn:=L8 (rL args ⟨neg,⟨(p:Int),aa⟩⟩)
    have h1:=tY out (Mm (rL args ⟨neg,⟨(p:Int),aa⟩⟩))
    have h2:=tY out (rL args ⟨neg,⟨(p:Int),aa⟩⟩)
    generalize tE out (Mm (rL args ⟨neg,⟨(p:Int),aa⟩⟩))=b1 at *
    generalize tE out (rL args ⟨neg,⟨(p:Int),aa⟩⟩)=b2 at *
    cases b1 with
    |true=>
     simp only [if_true] at he
     subst he
     (repeat' (first|(refine hK _ ?_;clear hK K)|(refine aM (fun K hK=>?_))|(refine gR ?_;refine aP ?_)|(refine gD 5 ?_;refine wx (s1:=?_) (.it 0 0 (.it 1 0 (.it 2 0 (.it 3 0 (.it 4 0 (.fk 5 7 (.it 6 0 (.it 7 1 (.it 8 3 .nil))) (.it 5 1 (.it 6 0 (.it 8 3 .nil))))))))) [0,1,2,3,4,6] ?_ ?_;rotate_left)|(refine gD 6 ?_;refine fg (.it 0 0 (.it 1 0 (.it 2 0 (.it 3 0 (.it 4 0 (.it 5 0 (.it 6 0 (.it 7 0 (.it 8 0 (.it 9 0 (.it 10 0 .nil))))))))))) [0,1,2,3,4,5,6,7,8,9,10] ?_)|(refine gD 7 ?_;refine fg (.it 0 0 (.it 1 0 (.it 2 0 (.it 3 0 (.it 4 0 (.it 5 0 (.it 6 0 (.it 8 0 (.it 9 0 (.it 7 1 (.it 10 0 .nil))))))))))) [0,1,2,3,4,5,6,8,9,10] ?_)|(refine kK 162 ?_;refine dw (hb) ?_)|(refine kK 116 ?_;refine dw (hA) ?_)|(refine gC 163 ?_;refine bp (hn) ?_)|(refine bn (fun K hK=>?_);(refine mv (fx (f:=cz.av) 100 3 40 out.length out ab (gv _) aL (fun _=>rfl) (fun _=>rfl) aj) (by first|(simp only [go_sem,seval,AV.eG,sealS_any,sealS_v,sealS_isl,sealS_iptr,er,eW,sealS_agg,sealS_tup,sealS_fn,purge_agg,purge_tup,purge_fn,and_self,AV.bz,AV.cv,Bool.or_self];done)|(simp only [go_sem,seval,AV.eG,sealS_any,sealS_v,sealS_isl,sealS_iptr,er,eW,sealS_agg,sealS_tup,sealS_fn,purge_agg,purge_tup,purge_fn,and_self,AV.bz,AV.cv,Bool.or_self];rfl)) h1 ab (fun x hx=>?_);obtain rfl:=hx;refine ⟨rfl,?_⟩))|(refine dk (fun K hK=>?_);refine iM (d:=11) 11 al ?_)|(refine And.intro ?_ ?_)|(refine gO ?_;refine jZ ?_)|(refine gL ?_;(first|exact Le.refl _|exact bd))|(refine gE ?_;(first|(refine cc ?_)|(refine dL (fun _=>?_))))|(refine gQ ?_;(first|(refine cf ?_)|(refine aS (fun hc=>?_) (fun hc=>?_)<;>(try (first|contradiction|omega)))))|(refine kj ?_;refine eK ?_)|(refine gW ?_;refine bN ?_)|(refine aN ?_)|(refine gT ?_;refine aZ ?_)|(refine gS ?_;refine aX ?_)))
     all_goals first
      |(exfalso;simp_all;done)
      |((refine aT (Le.refl _) (dx (aO ab) (aO ab)) af ?_);rfl)
    |false=>
     simp only [Bool.false_eq_true,if_false] at he
     cases b2 with
     |true=>
      simp only [if_true] at he
      (repeat' (first|(refine hK _ ?_;clear hK K)|(refine aM (fun K hK=>?_))|(refine gR ?_;refine aP ?_)|(refine gD 5 ?_;refine wx (s1:=?_) (.it 0 0 (.it 1 0 (.it 2 0 (.it 3 0 (.it 4 0 (.fk 5 7 (.it 6 0 (.it 7 1 (.it 8 3 .nil))) (.it 5 1 (.it 6 0 (.it 8 3 .nil))))))))) [0,1,2,3,4,6] ?_ ?_;rotate_left)|(refine gD 6 ?_;refine fg (.it 0 0 (.it 1 0 (.it 2 0 (.it 3 0 (.it 4 0 (.it 5 0 (.it 6 0 (.it 7 0 (.it 8 0 (.it 9 0 (.it 10 0 .nil))))))))))) [0,1,2,3,4,5,6,7,8,9,10] ?_)|(refine gD 7 ?_;refine fg (.it 0 0 (.it 1 0 (.it 2 0 (.it 3 0 (.it 4 0 (.it 5 0 (.it 6 0 (.it 8 0 (.it 9 0 (.it 7 1 (.it 10 0 .nil))))))))))) [0,1,2,3,4,5,6,8,9,10] ?_)|(refine kK 162 ?_;refine dw (hb) ?_)|(refine kK 116 ?_;refine dw (hA) ?_)|(refine gC 163 ?_;refine bp (hn) ?_)|(refine bn (fun K hK=>?_);(first|((refine mv (fx (f:=cz.av) 100 3 40 out.length out ab (gv _) aL (fun _=>rfl) (fun _=>rfl) aj) (by first|(simp only [go_sem,seval,AV.eG,sealS_any,sealS_v,sealS_isl,sealS_iptr,er,eW,sealS_agg,sealS_tup,sealS_fn,purge_agg,purge_tup,purge_fn,and_self,AV.bz,AV.cv,Bool.or_self];done)|(simp only [go_sem,seval,AV.eG,sealS_any,sealS_v,sealS_isl,sealS_iptr,er,eW,sealS_agg,sealS_tup,sealS_fn,purge_agg,purge_tup,purge_fn,and_self,AV.bz,AV.cv,Bool.or_self];rfl)) h1 ab (fun x hx=>?_);obtain rfl:=hx;refine ⟨rfl,?_⟩))|((refine mv (fx (f:=cz.av) 100 3 40 out.length out ab (gv _) aL (fun _=>rfl) (fun _=>rfl) aj) (by first|(simp only [go_sem,seval,AV.eG,sealS_any,sealS_v,sealS_isl,sealS_iptr,er,eW,sealS_agg,sealS_tup,sealS_fn,purge_agg,purge_tup,purge_fn,and_self,AV.bz,AV.cv,Bool.or_self];done)|(simp only [go_sem,seval,AV.eG,sealS_any,sealS_v,sealS_isl,sealS_iptr,er,eW,sealS_agg,sealS_tup,sealS_fn,purge_agg,purge_tup,purge_fn,and_self,AV.bz,AV.cv,Bool.or_self];rfl)) h2 ab (fun x hx=>?_);obtain rfl:=hx;refine ⟨rfl,?_⟩))))|(refine dk (fun K hK=>?_);refine iM (d:=11) 11 al ?_)|(refine And.intro ?_ ?_)|(refine gO ?_;refine jZ ?_)|(refine gL ?_;(first|exact Le.refl _|exact bd))|(refine gE ?_;(first|(refine cc ?_)|(refine dL (fun _=>?_))))|(refine gQ ?_;(first|(refine bT ?_)|(refine aS (fun hc=>?_) (fun hc=>?_)<;>(try (first|contradiction|omega)))))|(refine kj ?_;refine eK ?_)|(refine gW ?_;refine bN ?_)|(refine aN ?_)|(refine gT ?_;refine aZ ?_)|(refine gS ?_;refine aX ?_)))
      all_goals first
       |(exfalso;simp_all;done)
       |skip
      refine ⟨(k+1,out),⟨by simp only;omega,by simp only;omega,he⟩,by simp only;omega,?_⟩
      (refine cm ?_)
      (exact bd)
     |false=>
      simp only [Bool.false_eq_true,if_false] at he
      (repeat' (first|(refine hK _ ?_;clear hK K)|(refine aM (fun K hK=>?_))|(refine gR ?_;refine aP ?_)|(refine gD 5 ?_;refine wx (s1:=?_) (.it 0 0 (.it 1 0 (.it 2 0 (.it 3 0 (.it 4 0 (.fk 5 7 (.it 6 0 (.it 7 1 (.it 8 3 .nil))) (.it 5 1 (.it 6 0 (.it 8 3 .nil))))))))) [0,1,2,3,4,6] ?_ ?_;rotate_left)|(refine gD 6 ?_;refine fg (.it 0 0 (.it 1 0 (.it 2 0 (.it 3 0 (.it 4 0 (.it 5 0 (.it 6 0 (.it 7 0 (.it 8 0 (.it 9 0 (.it 10 0 .nil))))))))))) [0,1,2,3,4,5,6,7,8,9,10] ?_)|(refine gD 7 ?_;refine fg (.it 0 0 (.it 1 0 (.it 2 0 (.it 3 0 (.it 4 0 (.it 5 0 (.it 6 0 (.it 8 0 (.it 9 0 (.it 7 1 (.it 10 0 .nil))))))))))) [0,1,2,3,4,5,6,8,9,10] ?_)|(refine kK 162 ?_;refine dw (hb) ?_)|(refine kK 116 ?_;refine dw (hA) ?_)|(refine gC 163 ?_;refine bp (hn) ?_)|(refine bn (fun K hK=>?_);(first|((refine mv (fx (f:=cz.av) 100 3 40 out.length out ab (gv _) aL (fun _=>rfl) (fun _=>rfl) aj) (by first|(simp only [go_sem,seval,AV.eG,sealS_any,sealS_v,sealS_isl,sealS_iptr,er,eW,sealS_agg,sealS_tup,sealS_fn,purge_agg,purge_tup,purge_fn,and_self,AV.bz,AV.cv,Bool.or_self];done)|(simp only [go_sem,seval,AV.eG,sealS_any,sealS_v,sealS_isl,sealS_iptr,er,eW,sealS_agg,sealS_tup,sealS_fn,purge_agg,purge_tup,purge_fn,and_self,AV.bz,AV.cv,Bool.or_self];rfl)) h1 ab (fun x hx=>?_);obtain rfl:=hx;refine ⟨rfl,?_⟩))|((refine mv (fx (f:=cz.av) 100 3 40 out.length out ab (gv _) aL (fun _=>rfl) (fun _=>rfl) aj) (by first|(simp only [go_sem,seval,AV.eG,sealS_any,sealS_v,sealS_isl,sealS_iptr,er,eW,sealS_agg,sealS_tup,sealS_fn,purge_agg,purge_tup,purge_fn,and_self,AV.bz,AV.cv,Bool.or_self];done)|(simp only [go_sem,seval,AV.eG,sealS_any,sealS_v,sealS_isl,sealS_iptr,er,eW,sealS_agg,sealS_tup,sealS_fn,purge_agg,purge_tup,purge_fn,and_self,AV.bz,AV.cv,Bool.or_self];rfl)) h2 ab (fun x hx=>?_);obtain rfl:=hx;refine ⟨rfl,?_⟩))|(refine cF ?_)))|(refine dk (fun K hK=>?_);refine iM (d:=11) 11 al ?_)|(refine And.intro ?_ ?_)|(refine gO ?_;refine jZ ?_)|(refine gL ?_;(first|exact Le.refl _|exact bd))|(refine gE ?_;(first|(refine cc ?_)|(refine dL (fun _=>?_))))|(refine gQ ?_;(first|(refine cf ?_)|(refine bT ?_)|(refine aS (fun hc=>?_) (fun hc=>?_)<;>(try (first|contradiction|omega)))))|(refine kj ?_;refine eK ?_)|(refine gW ?_;refine bN ?_)|(refine aN ?_)|(refine gT ?_;refine aZ ?_)|(refine gS ?_;refine aX ?_)))
      all_goals first
       |(exfalso;simp_all;done)
       |skip
      refine ⟨(k+1,out++[rL args ⟨neg,⟨(p:Int),aa⟩⟩]),⟨by simp only;omega,by simp only [List.length_append,List.length_singleton];omega,he⟩,by simp only;omega,?_⟩
      (refine cm ?_)
      (refine dW (by (repeat (first|exact .nil|refine .drop ?_|refine dI ?_ (by first|rfl|(first|rfl|simp))))) (by (repeat refine dH ab (by first|rfl|(first|rfl|simp)) ?_);exact aY _))
  ·obtain rfl:k=l.length:=by omega
   rw [List.drop_length] at he
   unfold pG at he
   subst he
   (repeat' (first|(refine hK _ ?_;clear hK K)|(refine aM (fun K hK=>?_))|(refine fH 14 ab ?_;refine aP ?_)|(refine gQ ?_;refine aS (fun hc=>?_) (fun hc=>?_)<;>(try (first|contradiction|omega)))|(refine gX ?_;refine bV ?_)|(apply_assumption (exfalso:=false) (symm:=false))))
   (refine cT (eg (f:=cz.av) 100 3 40 out.length out ab (gv _) aJ (fun _=>rfl) (fun _=>rfl) aj) ?_;try simp only [go_sem,seval])
   (repeat' (first|(refine hK _ ?_;clear hK K)|(refine gR ?_;refine aP ?_)|(refine gT ?_;refine aZ ?_)))
   (refine aT (Le.refl _) (dx (aO ab) (aO ab)) af ?_)
   rfl
class HB (i n:Nat):Prop where h:i < n
theorem Aj:∀ (l:List bB) (i:Nat),(l.flatMap jO).drop (i * 2)=(l.drop i).flatMap jO
 |[],i=>by simp
 |x::l,0=>rfl
 |x::l,i+1=>by
  have:=Aj l i
  rw [show (i+1) * 2=i * 2+1+1 by omega]
  simpa [jO] using this
@[local go_sem] theorem J8 {l:List bB} {i:Nat} [h:HB i l.length]:((l.flatMap jO).drop (i * 2)).take 2=jO (l[i]'h.h):=by
 rw [Aj,List.drop_eq_getElem_cons h.h];rfl
theorem Ak:∀ (l:List bB) (i:Nat) (x:bB),i < l.length→((l.flatMap jO).set (i * 2) (.int x.p)).set (i * 2+1) (ints x.a)=(l.set i x).flatMap jO
 |[],i,x,h=>by simp at h
 |y::l,0,x,_=>rfl
 |y::l,i+1,x,h=>by
  have:=Ak l i x (by simpa using h)
  rw [show (i+1) * 2=i * 2+1+1 by omega]
  simpa [jO] using this
@[local go_sem] theorem J9 {l:List bB} {i:Nat} {x:bB} [h:HB i l.length]:((l.flatMap jO).set (i * 2) (.int x.p)).set (i * 2+1) (ints x.a)=(l.set i x).flatMap jO:=Ak l i x h.h
instance OU {l:List bB} {i k:Nat} {x:bB} [h:HB i l.length]:HB i (l.set k x).length:=⟨by rw [List.length_set];exact h.h⟩
@[local go_sem] theorem HC (j:Nat):((j:Int)+1 - 1)=(j:Int):=by omega
@[local go_sem] theorem BV (j:Nat):((j:Int)+1).toNat=j+1:=by omega
@[local go_sem] theorem HD (l:List bB):AV.cj (l.flatMap jO)=true:=rJ l
def w6 (l:List bB) (j:Nat):List bB:=(l.set (j+1) l[j]!).set j l[j+1]!
def tl:Nat→List bB→List bB
 |0,l=>l
 |j+1,l=>if yb l[j+1]! l[j]! < 0 then tl j (w6 l j) else l
def sI (l:List bB):Nat→List bB
 |0=>l
 |k+1=>tl (k+1) (sI l k)
theorem w7 (l:List bB) (j:Nat):(w6 l j).length=l.length:=by simp [w6]
theorem w8:∀ (j:Nat) (l:List bB),(tl j l).length=l.length
 |0,_=>rfl
 |j+1,l=>by
  unfold tl
  split
  ·rw [w8 j,w7]
  ·rfl
theorem oK (l:List bB):∀ k,(sI l k).length=l.length
 |0=>rfl
 |k+1=>by rw [sI,w8,oK]
theorem EN (l:List bB) (fl:Bool) (hn:l.length≤8):dP Tryz.prog 269 [.sl 2 32 100 0 l.length,.int 0,.int l.length,.fn 167 []] 100 ⟨66,l.flatMap jO,fl⟩ (fun r bk=>r= .dr []∧bk=⟨66,(sI l (l.length - 1)).flatMap jO,fl⟩):=by
 (refine uJ Tryz.func269 Tryz.ntmps269 ?_)
 (repeat' (first|(refine hK _ ?_;clear hK K)|(refine aM (fun K hK=>?_))|(refine gR ?_;refine aP ?_)|(refine gE ?_;refine cc ?_)|(refine aN ?_)))
 refine bU [9,18,19,20,21,22,23,24,25,26,27,28,29,30,31,32,33,34,35,36,37,38,39,40,41,42,43,44,45,46,47,48,49,50,51,52] (fun i:Nat=>i≤l.length - 1) (fun i=>l.length - i) (fun i=>[(8,.int ((i:Int)+1))]) (fun i=>[(100,⟨66,(sI l i).flatMap jO,fl⟩)]) 0 aj ?_ ?_
 ·(refine cm ?_)
  (refine dW (by (repeat (first|exact .nil|refine .drop ?_|refine dI ?_ aD))) (by (repeat refine dH ab aD ?_);exact aY _))
 ·rintro i hi K hK
  (refine cm ?_)
  have hl:=oK l i
  by_cases hlt:i+1 < l.length
  ·(repeat' (first|(refine hK _ ?_;clear hK K)|(refine aM (fun K hK=>?_))|(refine fH 4 ab ?_;refine aP ?_)|(refine gQ ?_;refine aS (fun hc=>?_) (fun hc=>?_)<;>(try (first|contradiction|omega)))|(refine aN ?_)|(refine gS ?_;refine aX ?_)))
   obtain ⟨R,hR⟩:∃ r,tl (i+1) (sI l i)=r:=⟨_,rfl⟩
   refine bU [9,18,19,20,21,22,23,24,25,26,27,28,29,30,31,32,33,34,35,36,37,38,39,40,41,42,43,44,45,46,47,48,49,50,51,52] (fun q:Nat×List bB=>q.1≤i+1∧q.2.length=l.length∧tl q.1 q.2=R) (fun q=>q.1) (fun q=>[(9,.int q.1)]) (fun q=>[(100,⟨66,q.2.flatMap jO,fl⟩)]) (i+1,sI l i) ⟨Nat.le_refl _,hl,hR⟩ ?_ ?_
   ·(refine cm ?_)
    (exact bd)
   ·rintro ⟨j,m⟩ ⟨hj,hm,he⟩ K hK
    simp only at hj hm he ⊢
    (refine cm ?_)
    cases j with
    |zero=>
     unfold tl at he
     subst he
     simp only [show ((0:Nat):Int)=0 from rfl]
     (repeat' (first|(refine hK _ ?_;clear hK K)|(refine aM (fun K hK=>?_))|(refine gR ?_;refine aP ?_)|(refine gD 4 ?_;refine fg (.it 0 0 (.it 1 0 (.it 2 0 (.it 3 0 (.it 4 0 (.it 5 0 (.it 6 0 (.it 7 0 (.it 8 0 (.it 9 0 (.it 10 0 (.it 11 0 (.it 12 0 (.it 13 0 (.it 14 2 (.it 15 0 (.it 16 0 .nil))))))))))))))))) [0,1,2,3,4,5,6,7,8,9,10,11,12,13,14,15,16] ?_)|(refine gE ?_;refine cc ?_)|(refine gQ ?_;refine bT ?_)|(refine gX ?_;refine bV ?_)|(apply_assumption (exfalso:=false) (symm:=false))))
     refine ⟨i+1,by omega,by omega,?_⟩
     rw [← hR]
     (refine cm ?_)
     (exact bd)
    |succ j=>
     unfold tl at he
     simp only [show ((j+1:Nat):Int)=(j:Int)+1 from rfl]
     have h1:HB j m.length:=⟨by omega⟩
     have h2:HB (j+1) m.length:=⟨by omega⟩
     have hcm:=rC (m[j+1]'h2.h) (m[j]'h1.h)
     rw [bY h2.h,bY h1.h] at he
     generalize hz:yb (m[j+1]'h2.h) (m[j]'h1.h)=z at *
     by_cases hz0:z < 0
     ·rw [if_pos hz0] at he
      (repeat' (first|(refine hK _ ?_;clear hK K)|(refine aM (fun K hK=>?_))|(refine gD 4 ?_;refine fg (.it 0 0 (.it 1 0 (.it 2 0 (.it 3 0 (.it 4 0 (.it 5 0 (.it 6 0 (.it 7 0 (.it 8 0 (.it 9 0 (.it 10 0 (.it 11 0 (.it 12 0 (.it 13 0 (.it 14 2 (.it 15 0 (.it 16 0 .nil))))))))))))))))) [0,1,2,3,4,5,6,7,8,9,10,11,12,13,14,15,16] ?_)|(refine dk (fun K hK=>?_);refine ev ab hcm ab (fun x hx=>?_);obtain rfl:=hx)|(refine gE ?_;refine cc ?_)|(refine Lo ?_;refine pQ (fun hc=>?_) (fun hc=>?_)<;>(try (first|contradiction|omega)))|(refine gQ ?_;refine aS (fun hc=>?_) (fun hc=>?_)<;>(try (first|contradiction|omega)))|(refine kj ?_;refine eK ?_)|(refine aN ?_)|(refine gS ?_;refine aX ?_)))
      (repeat' (first|(refine hK _ ?_;clear hK K)|(refine gR ?_;refine aP ?_)|(refine gD 6 ?_;refine wx (s1:=?_) (.it 0 0 (.it 1 0 (.it 5 0 (.it 6 0 (.it 7 0 (.it 8 0 (.it 9 0 (.it 10 0 (.it 11 0 (.it 12 0 (.it 13 0 (.it 14 0 (.Ck 2 1 3 1 15 3 (.oh 3 1 15 3 (.oh 4 1 15 3 (.it 15 3 (.it 16 1 (.it 17 3 .nil))) (.it 4 1 (.it 16 1 (.it 17 3 .nil)))) (.it 3 1 (.it 4 1 (.it 16 1 (.it 17 3 .nil))))) (.Ck 2 1 4 1 15 3 (.oh 4 1 15 3 (.it 15 3 (.it 16 1 (.it 17 3 .nil))) (.it 4 1 (.it 16 1 (.it 17 3 .nil)))) (.oh 2 1 15 3 (.it 15 3 (.it 16 1 (.it 17 3 .nil))) (.it 2 1 (.it 16 1 (.it 17 3 .nil)))) (.fk 2 4 (.it 4 1 (.it 16 1 (.it 17 3 .nil))) (.it 2 1 (.it 16 1 (.it 17 3 .nil))))) (.fk 2 3 (.it 3 1 (.it 4 1 (.it 16 1 (.it 17 3 .nil)))) (.fk 2 4 (.it 4 1 (.it 16 1 (.it 17 3 .nil))) (.it 2 1 (.it 16 1 (.it 17 3 .nil)))))))))))))))))) [0,1,5,6,7,8,9,10,11,12,13,14] ?_ ?_;rotate_left)|(refine And.intro ?_ ?_)|(refine tO ?_;refine ko ?_)|(refine gO ?_;refine jZ ?_)|(refine gL ?_;(first|exact Le.refl _|exact bd))|(refine gE ?_;refine cc ?_)))
      refine ⟨(j,w6 m j),⟨by simp only;omega,by simp only [w7];exact hm,he⟩,by simp only;omega,?_⟩
      have hsw:w6 m j=(m.set (j+1) (m[j]'h1.h)).set j (m[j+1]'h2.h):=by unfold w6;rw [bY h2.h,bY h1.h]
      rw [hsw]
      (refine cm ?_)
      (exact bd)
     ·rw [if_neg hz0] at he
      (repeat' (first|(refine hK _ ?_;clear hK K)|(refine aM (fun K hK=>?_))|(refine gR ?_;refine aP ?_)|(refine gD 4 ?_;refine fg (.it 0 0 (.it 1 0 (.it 2 0 (.it 3 0 (.it 4 0 (.it 5 0 (.it 6 0 (.it 7 0 (.it 8 0 (.it 9 0 (.it 10 0 (.it 11 0 (.it 12 0 (.it 13 0 (.it 14 2 (.it 15 0 (.it 16 0 .nil))))))))))))))))) [0,1,2,3,4,5,6,7,8,9,10,11,12,13,14,15,16] ?_)|(refine dk (fun K hK=>?_);refine ev ab hcm ab (fun x hx=>?_);obtain rfl:=hx)|(refine gE ?_;refine cc ?_)|(refine Lo ?_;refine pQ (fun hc=>?_) (fun hc=>?_)<;>(try (first|contradiction|omega)))|(refine gQ ?_;refine aS (fun hc=>?_) (fun hc=>?_)<;>(try (first|contradiction|omega)))|(refine kj ?_;refine eK ?_)|(refine gX ?_;refine bV ?_)|(apply_assumption (exfalso:=false) (symm:=false))))
      refine ⟨i+1,by omega,by omega,?_⟩
      rw [show sI l (i+1)=m by rw [← he] at hR;exact hR]
      (refine cm ?_)
      (exact bd)
  ·obtain rfl:i=l.length - 1:=by omega
   (repeat' (first|(refine hK _ ?_;clear hK K)|(refine aM (fun K hK=>?_))|(refine gR ?_;refine aP ?_)|(refine gQ ?_;refine aS (fun hc=>?_) (fun hc=>?_)<;>(try (first|contradiction|omega)))|(refine gX ?_;refine bV ?_)))
   (refine oV (Le.refl _) gp ab ae (fun j hj=>rfl) (by first|rfl|exact dK _ _ (fun _=>rfl)|(simp only [go_sem,seval,dj,aV];done)) ⟨rfl,rfl⟩)
theorem Mn (l:List bB) (fl:Bool) (x:Int) (hn:l.length≤8):dP Tryz.prog 240 [.sl 2 32 100 0 l.length,.int 0,.int l.length,.int x,.fn 167 []] 100 ⟨66,l.flatMap jO,fl⟩ (fun r bk=>r= .dr []∧bk=⟨66,(sI l (l.length - 1)).flatMap jO,fl⟩):=by
 (refine uJ Tryz.func240 Tryz.ntmps240 ?_)
 (repeat' (first|(refine hK _ ?_;clear hK K)|(refine aM (fun K hK=>?_))|(refine fH 2 ab ?_;refine aP ?_)|(refine aN ?_)))
 refine bU [] (fun _:Unit=>True) (fun _=>0) (fun _=>[]) (fun _=>[]) () trivial ?_ ?_
 ·(refine cm ?_)
  (exact bd)
 ·rintro _ _ K hK
  (refine cm ?_)
  (repeat' (first|(refine hK _ ?_;clear hK K)|(refine aM (fun K hK=>?_))|(refine gR ?_;refine aP ?_)|(refine bn (fun K hK=>?_);refine kz (hT:=by exact of_decide_eq_true rfl) (d:=some 30) (EN l _ hn) ab (fun x bk hx=>?_);obtain ⟨rfl,rfl⟩:=hx;simp only [Nat.reduceBEq,Bool.or_true,Bool.or_false,Bool.false_or,Bool.true_or,go_sem,seval])|(refine gE ?_;refine cc ?_)|(refine gQ ?_;refine aS (fun hc=>?_) (fun hc=>?_)<;>(try (first|contradiction|omega)))|(refine gW ?_;refine bN ?_)|(refine aN ?_)|(refine gT ?_;refine aZ ?_)))
  (refine oV (Le.refl _) gp ab ae (fun j hj=>rfl) (by first|rfl|exact dK _ _ (fun _=>rfl)|(simp only [go_sem,seval,dj,aV];done)) ⟨rfl,rfl⟩)
theorem nC {s:St} {x y:Operand} {t:TypeId} {n:Int} {b:ByteArray} [hu:cJ Tryz.prog t .string] (hx:s.eval x= .v (.string b)) (hy:s.eval y= .v (.int .u8 n)) (h0:0≤n) (h1:n.toNat < b.size):PV Tryz.prog (.index t x y) s (.v (.int .u8 (b[n.toNat]'h1).toNat)):=
 dv fun _ _ _ a _ h=>by
  have e1:=h.eval x;rw [hx] at e1
  have e2:=h.eval y;rw [hy] at e2
  have hg:b[n.toNat]?=some (b[n.toNat]'h1):=getElem?_pos b n.toNat h1
  exact ⟨_,.v,fun w' _ _ _ _ _=>by simp [execOp,eF e1,eF e2,Instr.index,run_underlying hu.ok,asIntOf,h0,hg]⟩
theorem HE {d:Option Tmp} {ty:TypeId} {pos:String} {bC:Array Edge} {g:Option (Nat×Bool)} {s:St} {K:St→Prop} {x y:Operand} {t:TypeId} {n:Int} {b:ByteArray} [hu:cJ Tryz.prog t .string] (hx:s.eval x= .v (.string b)) (hy:s.eval y= .v (.int .u8 n)) (h0:0≤n) (h1:n.toNat < b.size)
  (hk:∀ v:Int,0≤v→v < 256→K (s.put d (.v (.int .u8 v)))):eR Tryz.prog ⟨d,.index t x y,ty,pos,bC,g⟩ s K:=
 bK (nC hx hy h0 h1) (hk _ aj (by have:=UInt8.toNat_lt (b[n.toNat]'h1);omega))
theorem HF (n:Int) (h:0≤n∧n≤8):bg Tryz.prog 250 [.v (.int .u64 n)] (fun r=>∃ k:Int,r= .int k):=by
 have:n=0∨n=1∨n=2∨n=3∨n=4∨n=5∨n=6∨n=7∨n=8:=by omega
 rcases this with rfl|rfl|rfl|rfl|rfl|rfl|rfl|rfl|rfl
 all_goals
  (refine bh Tryz.func250 Tryz.ntmps250 ?_)
  (repeat' (first|(refine hK _ ?_;clear hK K)|(refine aM (fun K hK=>?_))|(refine fH 10 ab ?_;refine aP ?_)|(refine gQ ?_;refine bT ?_)|(refine gS ?_;refine aX ?_)))
  refine e8 ?_
  (first|(refine bL _ ai ?_)|(refine bM ai an ?_));(try simp only [go_sem,seval,dj,aV])
  (first|(refine bL _ ai ?_)|(refine bM ai an ?_));(try simp only [go_sem,seval,dj,aV])
  (first|(refine bL _ ai ?_)|(refine bM ai an ?_));(try simp only [go_sem,seval,dj,aV])
  refine bu rfl rfl (fun K1 hK1=>?_)
  refine HE ab ab aw (by decide +kernel) (fun v hv0 hv1=>?_)
  (try simp only [go_sem,seval]);refine hK1 _ ?_;clear hK1 K1
  (first|(refine bL _ ai ?_)|(refine bM ai an ?_));(try simp only [go_sem,seval,dj,aV])
  (first|(refine bL _ ai ?_)|(refine bM ai an ?_));(try simp only [go_sem,seval,dj,aV])
  (first|(refine bL _ ai ?_)|(refine bM ai an ?_));(try simp only [go_sem,seval,dj,aV])
  refine cA ?_
  (repeat' (first|(refine hK _ ?_;clear hK K)|(refine gT ?_;refine aZ ?_)))
  (refine aT (Le.refl _) (aQ (aO ab)) af ?_)
  exact ⟨_,rfl⟩
theorem HG (l:List bB) (fl:Bool) (hn:l.length≤8):dP Tryz.prog 210 [.sl 2 32 100 0 l.length,.fn 167 []] 100 ⟨66,l.flatMap jO,fl⟩ (fun r bk=>r= .dr []∧bk=⟨66,(sI l (l.length - 1)).flatMap jO,fl⟩):=by
 have hlen:bg Tryz.prog 218 [.v (.int .u64 (l.length:Int))] (fun r=>∃ k:Int,r= .int k):=by
  have h6:=HF l.length aj
  (refine bh Tryz.func218 Tryz.ntmps218 ?_)
  (repeat' (first|(refine hK _ ?_;clear hK K)|(refine aM (fun K hK=>?_))|(refine gR ?_;refine aP ?_)|(refine bn (fun K hK=>?_);refine cH (h6) ab (fun x hx=>?_);obtain ⟨k,rfl⟩:=hx)|(refine gQ ?_;refine bT ?_)|(refine gW ?_;refine bN ?_)|(refine gT ?_;refine aZ ?_)|(refine gS ?_;refine aX ?_)))
  (refine aT (Le.refl _) (aQ (aO ab)) af ?_)
  exact ⟨_,rfl⟩
 (refine uJ Tryz.func210 Tryz.ntmps210 ?_)
 (repeat' (first|(refine hK _ ?_;clear hK K)|(refine aM (fun K hK=>?_))|(refine gR ?_;refine aP ?_)|(refine bn (fun K hK=>?_);(first|(refine cH (hlen) ab (fun x hx=>?_);obtain ⟨k,rfl⟩:=hx)|(refine kz (hT:=by exact of_decide_eq_true rfl) (d:=some 13) (Mn l _ _ hn) ab (fun x bk hx=>?_);obtain ⟨rfl,rfl⟩:=hx;simp only [Nat.reduceBEq,Bool.or_true,Bool.or_false,Bool.false_or,Bool.true_or,go_sem,seval])))|(refine gE ?_;refine cc ?_)|(refine gW ?_;refine bN ?_)))
 (refine oV (Le.refl _) gp ab ae (fun j hj=>rfl) (by first|rfl|exact dK _ _ (fun _=>rfl)|(simp only [go_sem,seval,dj,aV];done)) ⟨rfl,rfl⟩)
end Go.Proofs.YtkbiagkbmodgdaaGreat
namespace Go.Proofs.YtkbiagkbmodgdaaGreat
open Go.Ab
open Go
set_option maxRecDepth 10000
attribute [local irreducible] dE fh mC lW db PV eR ef AW bg dn ec dP cO Ab.Fin ft en gI iO RV jX Le eI fM mg gV kf dz dg
set_option maxHeartbeats 8000000
attribute [local go_sem] J8 J9 HC BV HD
instance:DecidableEq bB:=fun a b=>by
 cases a;cases b;simp only [bB.mk.injEq];infer_instance
def fj:List bB→List bB
 |[]=>[]
 |[x]=>[x]
 |x::y::r=>if y=x then fj (y::r) else x::fj (y::r)
theorem oL (x y:bB):∀ a:List bB,fj (a++[x,y])=fj (a++[x])++if y=x then [] else [y]
 |[]=>by
  by_cases h:y=x
  ·subst h;simp [fj]
  ·simp [fj,h]
 |[z]=>by
  have:=oL x y []
  simp only [List.nil_append] at this
  by_cases h:x=z
  ·subst h;simp [fj] at *;split<;>simp_all
  ·simp only [List.cons_append,List.nil_append,fj,h,if_false] at *
   by_cases h2:y=x
   ·simp [h2]
   ·simp [h2]
 |z::w::a=>by
  have:=oL x y (w::a)
  simp only [List.cons_append] at this ⊢
  unfold fj
  by_cases h:w=z
  ·simp only [h,if_true] at this ⊢;exact this
  ·simp only [h,if_false,this,List.cons_append]
theorem tn {l:List bB} {p:Nat} (h:p+1 < l.length):fj (l.take (p+2))=fj (l.take (p+1))++if l[p+1]=l[p] then [] else [l[p+1]]:=by
 have e1:l.take (p+1)=l.take p++[l[p]]:=List.take_succ_eq_append_getElem aj
 have e3:l.take (p+1+1)=l.take (p+1)++[l[p+1]]:=List.take_succ_eq_append_getElem h
 have e2:l.take (p+2)=l.take p++[l[p],l[p+1]]:=by rw [show p+2=p+1+1 from rfl,e3,e1,List.append_assoc];rfl
 rw [e2,oL,e1]
theorem vw:∀ l:List bB,(fj l).length≤l.length
 |[]=>Nat.le_refl _
 |[_]=>Nat.le_refl _
 |x::y::r=>by
  have:=vw (y::r)
  unfold fj
  split
  ·simp only [List.length_cons] at *;omega
  ·simp only [List.length_cons] at *;omega
theorem HH (x y:bB):bg Tryz.prog 212 [x.av,y.av] (fun r=>r= .bool (decide (x=y))):=by
 have e:(yb x y == 0)=decide (x=y):=by
  rw [Bool.eq_iff_iff,beq_iff_eq,decide_eq_true_eq]
  exact Mj x y
 (refine bh Tryz.func212 Tryz.ntmps212 ?_)
 (repeat' (first|(refine hK _ ?_;clear hK K)|(refine aM (fun K hK=>?_))|(refine gR ?_;refine aP ?_)|(refine gC 167 ?_;refine bp (rC _ _) ?_)|(refine bn (fun K hK=>?_);(first|(refine bK (A8 ab ab) ?_)|(refine bK (tH ab ab) ?_)|(refine bK (tJ ab ab ah) ?_)))|(refine gE ?_;(first|(refine cc ?_)|(refine dL (fun _=>?_))))|(refine gQ ?_;(first|(refine cf ?_)|(refine bT ?_)|(refine aS (fun hc=>?_) (fun hc=>?_)<;>(try (first|contradiction|omega)))))|(refine gW ?_;refine bN ?_)|(refine aN ?_)|(refine gX ?_;refine bV ?_)|(refine gT ?_;refine aZ ?_)|(refine gS ?_;refine aX ?_)|(apply_assumption (exfalso:=false) (symm:=false))))
 (refine aT (Le.refl _) (aQ (aO ab)) af ?_)
 rw [e]
theorem vA {l:List bB} (h:l.length < 2):fj l=l:=by
 match l,h with
 |[],_=>rfl
 |[_],_=>rfl
@[local go_sem] theorem OV (a b:Nat):a * 2+b * 2=(a+b) * 2:=by omega
theorem Al {s l:List bB} {p:Nat} (hl:s.length=l.length) (h:s.drop p=l.drop p) {i:Nat} (hi:p≤i) (h1:i < s.length) (h2:i < l.length):s[i]=l[i]:=by
 have a1:s[i]?=l[i]?:=by
  have:=congrArg (fun x=>x[i - p]?) h
  simp only [List.getElem?_drop,show p+(i - p)=i by omega] at this
  exact this
 rw [List.getElem?_eq_getElem h1,List.getElem?_eq_getElem h2] at a1
 exact Option.some.inj a1
theorem w9:∀ (l:List bB) (i:Nat),(l.flatMap jO).take (i * 2)=(l.take i).flatMap jO
 |[],i=>by simp
 |x::l,0=>rfl
 |x::l,i+1=>by
  have:=w9 l i
  rw [show (i+1) * 2=i * 2+1+1 by omega]
  simpa [jO] using this
theorem Am (l:List bB) (hn:l.length≤8):dP Tryz.prog 211 [.sl 2 32 100 0 l.length,.fn 212 []] 100 ⟨66,l.flatMap jO,false⟩ (fun r bk=>r= .sl 2 32 100 0 (fj l).length∧bk=⟨66,(fj l).flatMap jO,false⟩):=by
 by_cases h2:l.length < 2
 ·rw [vA h2]
  (refine uJ Tryz.func211 Tryz.ntmps211 ?_)
  (repeat' (first|(refine hK _ ?_;clear hK K)|(refine aM (fun K hK=>?_))|(refine gR ?_;refine aP ?_)|(refine gD 6 ?_;refine fg (.it 0 0 (.it 1 0 (.it 2 0 (.it 3 0 (.it 4 0 (.it 5 0 (.it 6 0 (.it 7 0 (.it 8 0 (.it 9 0 (.it 10 1 .nil))))))))))) [0,1,2,3,4,5,6,7,8,9] ?_)|(refine gD 11 ?_;refine fg (.it 0 0 (.it 1 0 (.it 2 0 (.it 3 0 (.it 4 0 (.it 5 0 (.it 6 0 (.it 7 0 (.it 8 0 (.it 9 0 (.it 10 1 (.it 11 0 .nil)))))))))))) [0,1,2,3,4,5,6,7,8,9,11] ?_)|(refine And.intro ?_ ?_)|(refine tO ?_;refine ko ?_)|(refine gE ?_;(first|(refine cc ?_)|(refine dL (fun _=>?_))))|(refine gQ ?_;(first|(refine cf ?_)|(refine bT ?_)|(refine aS (fun hc=>?_) (fun hc=>?_)<;>(try (first|contradiction|omega)))))|(refine kj ?_;refine eK ?_)|(refine gW ?_;refine bN ?_)|(refine aN ?_)|(refine gX ?_;refine bV ?_)|(refine gT ?_;refine aZ ?_)|(refine gS ?_;refine aX ?_)|(apply_assumption (exfalso:=false) (symm:=false))))
  (refine oV (Le.refl _) (aQ (aO ab)) ab ae (fun j hj=>by simp only [AV.cv,beq_eq_false_iff_ne,ne_eq];exact fun h=>hj h.symm) (by first|rfl|exact dK _ _ (fun _=>rfl)|(simp only [go_sem,seval,dj,aV];done)) ⟨rfl,rfl⟩)
 ·(refine uJ Tryz.func211 Tryz.ntmps211 ?_)
  (repeat' (first|(refine hK _ ?_;clear hK K)|(refine aM (fun K hK=>?_))|(refine gR ?_;refine aP ?_)|(refine gD 6 ?_;refine fg (.it 0 0 (.it 1 0 (.it 2 0 (.it 3 0 (.it 4 0 (.it 5 0 (.it 6 0 (.it 7 0 (.it 8 0 (.it 9 0 (.it 10 1 .nil))))))))))) [0,1,2,3,4,5,6,7,8,9] ?_)|(refine gD 11 ?_;refine fg (.it 0 0 (.it 1 0 (.it 2 0 (.it 3 0 (.it 4 0 (.it 5 0 (.it 6 0 (.it 7 0 (.it 8 0 (.it 9 0 (.it 10 1 (.it 11 0 .nil)))))))))))) [0,1,2,3,4,5,6,7,8,9,11] ?_)|(refine And.intro ?_ ?_)|(refine tO ?_;refine ko ?_)|(refine gE ?_;(first|(refine cc ?_)|(refine dL (fun _=>?_))))|(refine gQ ?_;(first|(refine cf ?_)|(refine bT ?_)|(refine aS (fun hc=>?_) (fun hc=>?_)<;>(try (first|contradiction|omega)))))|(refine kj ?_;refine eK ?_)|(refine gW ?_;refine bN ?_)|(refine aN ?_)|(refine gX ?_;refine bV ?_)|(refine gT ?_;refine aZ ?_)|(refine gS ?_;refine aX ?_)|(apply_assumption (exfalso:=false) (symm:=false))))
  refine bU [5,7,32,33,34,35,36,37,38,39,40,41,42,43,44,45,46,47,48,49,50,51,52,53,54,55,56,57,58] (fun j:Nat=>j+1≤l.length∧fj (l.take (j+1))=l.take (j+1)) (fun j=>l.length - j) (fun j=>[(5,.int ((j:Int)+1))]) (fun j=>[]) 0 ⟨by omega,vA (by rw [List.length_take];omega)⟩ ?_ ?_
  ·(refine cm ?_)
   (refine dW (by (repeat (first|exact .nil|refine .drop ?_|refine dI ?_ aD))) (by (repeat refine dH ab aD ?_);exact aY _))
  ·rintro j ⟨hj,hjc⟩ K hK
   (refine cm ?_)
   by_cases hlt:j+1 < l.length
   ·have h1:HB j l.length:=⟨by omega⟩
    have h3:HB (j+1) l.length:=⟨hlt⟩
    have hef:=HH l[j+1] l[j]
    have hct:=tn hlt
    by_cases heq:l[j+1]=l[j]
    ·rw [if_pos heq,List.append_nil,hjc] at hct
     rw [decide_eq_true heq] at hef
     (repeat' (first|(refine hK _ ?_;clear hK K)|(refine aM (fun K hK=>?_))|(refine fH 8 ab ?_;refine aP ?_)|(refine gD 6 ?_;refine fg (.it 0 0 (.it 1 0 (.it 2 0 (.it 3 0 (.it 4 0 (.it 5 0 (.it 6 0 (.it 7 0 (.it 8 0 (.it 9 0 (.it 10 1 .nil))))))))))) [0,1,2,3,4,5,6,7,8,9] ?_)|(refine gD 11 ?_;refine fg (.it 0 0 (.it 1 0 (.it 2 0 (.it 3 0 (.it 4 0 (.it 5 0 (.it 6 0 (.it 7 0 (.it 8 0 (.it 9 0 (.it 10 1 (.it 11 0 .nil)))))))))))) [0,1,2,3,4,5,6,7,8,9,11] ?_)|(refine bn (fun K hK=>?_);refine ev ab hef ab (fun x hx=>?_);obtain rfl:=hx)|(refine dk (fun K hK=>?_);refine ev ab hef ab (fun x hx=>?_);obtain rfl:=hx)|(refine And.intro ?_ ?_)|(refine gE ?_;(first|(refine cc ?_)|(refine dL (fun _=>?_))))|(refine gQ ?_;(first|(refine cf ?_)|(refine bT ?_)|(refine aS (fun hc=>?_) (fun hc=>?_)<;>(try (first|contradiction|omega)))))|(refine kj ?_;refine eK ?_)|(refine gW ?_;refine bN ?_)|(refine aN ?_)|(refine gX ?_;refine bV ?_)|(refine gT ?_;refine aZ ?_)|(refine gS ?_;refine aX ?_)|(apply_assumption (exfalso:=false) (symm:=false))))
     have hsw:Ch 2 32 100 ((j+1) * 2) (l.length - (j+1))= .sl 2 32 100 ((j+1) * 2) (l.length - (j+1)):=by unfold Ch;rw [if_neg aj]
     simp only [hsw]
     refine gR ?_;refine aP ?_
     refine hK _ ?_;clear hK K
     refine aN ?_
     refine bU (5::[5,7,32,33,34,35,36,37,38,39,40,41,42,43,44,45,46,47,48,49,50,51,52,53,54,55,56,57,58]) (fun x:Nat×Nat×List bB=>j+x.1+2≤l.length∧x.2.1≤j+x.1+1∧1≤x.2.1∧x.2.2.length=l.length∧x.2.2.take x.2.1=fj (l.take (j+x.1+2))∧x.2.2.drop (j+x.1+1)=l.drop (j+x.1+1)) (fun x=>l.length - x.1) (fun x=>[(5,.int (x.2.1:Int)),(7,.int ((x.1:Int)+1))]) (fun x=>[(100,⟨66,x.2.2.flatMap jO,false⟩)]) (0,j+1,l) ⟨by simp only;omega,by simp only;omega,by simp only;omega,rfl,by simp only;rw [hct],rfl⟩ ?_ ?_
     ·(refine cm ?_)
      (refine dW (by (repeat (first|exact .nil|refine .drop ?_|refine dI ?_ aD))) (by (repeat refine dH ab aD ?_);exact aY _))
     ·rintro ⟨q,i,s⟩ ⟨hq,hi,hi1,hs,htk,hdr⟩ K hK
      simp only at hq hi hi1 hs htk hdr ⊢
      (refine cm ?_)
      by_cases hlt2:j+q+2 < l.length
      ·have h4:HB (j+1+(q+1)) s.length:=⟨by omega⟩
       have h5:HB (j+1+q) s.length:=⟨by omega⟩
       have h6:HB i s.length:=⟨by omega⟩
       have e1:s[j+1+(q+1)]'h4.h=l[j+q+2]:=by
        rw [Al (i:=j+1+(q+1)) hs hdr aj h4.h aj]
        exact getElem_congr_idx aj
       have e2:s[j+1+q]'h5.h=l[j+q+1]:=by
        rw [Al (i:=j+1+q) hs hdr aj h5.h aj]
        exact getElem_congr_idx aj
       have hct2:=tn (l:=l) (p:=j+q+1) aj
       simp only [show j+q+1+1=j+q+2 from rfl,show j+q+1+2=j+q+3 from rfl] at hct2
       have hef2:=HH (s[j+1+(q+1)]'h4.h) (s[j+1+q]'h5.h)
       have hdr2:s.drop (j+q+2)=l.drop (j+q+2):=by
        have:=congrArg (List.drop 1) hdr
        simpa only [List.drop_drop,show j+q+1+1=j+q+2 from rfl] using this
       (repeat' (first|(refine hK _ ?_;clear hK K)|(refine aM (fun K hK=>?_))|(refine fH 11 ab ?_;refine aP ?_)|(refine gD 6 ?_;refine fg (.it 0 0 (.it 1 0 (.it 2 0 (.it 3 0 (.it 4 0 (.it 5 0 (.it 6 0 (.it 7 0 (.it 8 0 (.it 9 0 (.it 10 1 .nil))))))))))) [0,1,2,3,4,5,6,7,8,9] ?_)|(refine And.intro ?_ ?_)|(refine tO ?_;refine ko ?_)|(refine gE ?_;(first|(refine cc ?_)|(refine dL (fun _=>?_))))|(refine gQ ?_;(first|(refine cf ?_)|(refine bT ?_)|(refine aS (fun hc=>?_) (fun hc=>?_)<;>(try (first|contradiction|omega)))))|(refine kj ?_;refine eK ?_)|(refine gW ?_;refine bN ?_)|(refine aN ?_)|(refine gX ?_;refine bV ?_)|(refine gT ?_;refine aZ ?_)|(refine gS ?_;refine aX ?_)|(apply_assumption (exfalso:=false) (symm:=false))))
       by_cases heq2:s[j+1+(q+1)]'h4.h=s[j+1+q]'h5.h
       ·rw [decide_eq_true heq2] at hef2
        rw [← e1,← e2,if_pos heq2,List.append_nil] at hct2
        (repeat' (first|(refine hK _ ?_;clear hK K)|(refine aM (fun K hK=>?_))|(refine gR ?_;refine aP ?_)|(refine gD 6 ?_;refine fg (.it 0 0 (.it 1 0 (.it 2 0 (.it 3 0 (.it 4 0 (.it 5 0 (.it 6 0 (.it 7 0 (.it 8 0 (.it 9 0 (.it 10 1 .nil))))))))))) [0,1,2,3,4,5,6,7,8,9] ?_)|(refine gD 11 ?_;refine fg (.it 0 0 (.it 1 0 (.it 2 0 (.it 3 0 (.it 4 0 (.it 5 0 (.it 6 0 (.it 7 0 (.it 8 0 (.it 9 0 (.it 10 1 (.it 11 0 .nil)))))))))))) [0,1,2,3,4,5,6,7,8,9,11] ?_)|(refine bn (fun K hK=>?_);refine ev ab hef2 ab (fun x hx=>?_);obtain rfl:=hx)|(refine dk (fun K hK=>?_);refine ev ab hef2 ab (fun x hx=>?_);obtain rfl:=hx)|(refine And.intro ?_ ?_)|(refine gE ?_;(first|(refine cc ?_)|(refine dL (fun _=>?_))))|(refine gQ ?_;(first|(refine cf ?_)|(refine bT ?_)|(refine aS (fun hc=>?_) (fun hc=>?_)<;>(try (first|contradiction|omega)))))|(refine kj ?_;refine eK ?_)|(refine gW ?_;refine bN ?_)|(refine aN ?_)|(refine gX ?_;refine bV ?_)|(refine gT ?_;refine aZ ?_)|(refine gS ?_;refine aX ?_)|(apply_assumption (exfalso:=false) (symm:=false))))
        refine ⟨(q+1,i,s),⟨by simp only;omega,by simp only;omega,hi1,hs,by simp only [show j+(q+1)+2=j+q+3 by omega];rw [htk,hct2],by simp only [show j+(q+1)+1=j+q+2 by omega];exact hdr2⟩,by simp only;omega,?_⟩
        (refine cm ?_)
        (exact bd)
       ·rw [decide_eq_false heq2] at hef2
        rw [← e1,← e2,if_neg heq2] at hct2
        (repeat' (first|(refine hK _ ?_;clear hK K)|(refine aM (fun K hK=>?_))|(refine fH 12 ab ?_;refine aP ?_)|(refine gD 6 ?_;refine fg (.it 0 0 (.it 1 0 (.it 2 0 (.it 3 0 (.it 4 0 (.it 5 0 (.it 6 0 (.it 7 0 (.it 8 0 (.it 9 0 (.it 10 1 .nil))))))))))) [0,1,2,3,4,5,6,7,8,9] ?_)|(refine gD 11 ?_;refine fg (.it 0 0 (.it 1 0 (.it 2 0 (.it 3 0 (.it 4 0 (.it 5 0 (.it 6 0 (.it 7 0 (.it 8 0 (.it 9 0 (.it 10 1 (.it 11 0 .nil)))))))))))) [0,1,2,3,4,5,6,7,8,9,11] ?_)|(refine bn (fun K hK=>?_);refine ev ab hef2 ab (fun x hx=>?_);obtain rfl:=hx)|(refine dk (fun K hK=>?_);refine ev ab hef2 ab (fun x hx=>?_);obtain rfl:=hx)|(refine And.intro ?_ ?_)|(refine gE ?_;(first|(refine cc ?_)|(refine dL (fun _=>?_))))|(refine gQ ?_;(first|(refine cf ?_)|(refine bT ?_)|(refine aS (fun hc=>?_) (fun hc=>?_)<;>(try (first|contradiction|omega)))))|(refine kj ?_;refine eK ?_)|(refine gW ?_;refine bN ?_)|(refine aN ?_)|(refine gX ?_;refine bV ?_)|(refine gT ?_;refine aZ ?_)|(refine gS ?_;refine aX ?_)|(apply_assumption (exfalso:=false) (symm:=false))))
        (repeat' (first|(refine hK _ ?_;clear hK K)|(refine aM (fun K hK=>?_))|(refine gR ?_;refine aP ?_)|(refine gD 6 ?_;refine fg (.it 0 0 (.it 1 0 (.it 2 0 (.it 3 0 (.it 4 0 (.it 5 0 (.it 6 0 (.it 7 0 (.it 8 0 (.it 9 0 (.it 10 1 .nil))))))))))) [0,1,2,3,4,5,6,7,8,9] ?_)|(refine gD 11 ?_;refine fg (.it 0 0 (.it 1 0 (.it 2 0 (.it 3 0 (.it 4 0 (.it 5 0 (.it 6 0 (.it 7 0 (.it 8 0 (.it 9 0 (.it 10 1 (.it 11 0 .nil)))))))))))) [0,1,2,3,4,5,6,7,8,9,11] ?_)|(refine And.intro ?_ ?_)|(refine tO ?_;refine ko ?_)|(refine gE ?_;(first|(refine cc ?_)|(refine dL (fun _=>?_))))|(refine gQ ?_;(first|(refine cf ?_)|(refine bT ?_)|(refine aS (fun hc=>?_) (fun hc=>?_)<;>(try (first|contradiction|omega)))))|(refine kj ?_;refine eK ?_)|(refine gW ?_;refine bN ?_)|(refine aN ?_)|(refine gX ?_;refine bV ?_)|(refine gT ?_;refine aZ ?_)|(refine gS ?_;refine aX ?_)|(apply_assumption (exfalso:=false) (symm:=false))))
        refine ⟨(q+1,i+1,s.set i (s[j+1+(q+1)]'h4.h)),⟨by simp only;omega,by simp only;omega,by simp only;omega,by simp only [List.length_set];exact hs,?_,?_⟩,by simp only;omega,?_⟩
        ·simp only [show j+(q+1)+2=j+q+3 by omega]
         rw [hct2,← htk,List.take_succ_eq_append_getElem (by rw [List.length_set];exact h6.h),List.getElem_set_self,List.take_set_of_le (Nat.le_refl _)]
        ·simp only [show j+(q+1)+1=j+q+2 by omega]
         rw [List.drop_set_of_lt aj,hdr2]
        ·(refine cm ?_)
         (exact bd)
      ·have hp:j+q+2=l.length:=by omega
       rw [hp,List.take_length] at htk
       have hil:i≤l.length:=by omega
       have hcs:(s.flatMap jO).take (i * 2)=(fj l).flatMap jO:=by
        rw [← htk]
        exact w9 s i
       have hci:(fj l).length=i:=by rw [← htk,List.length_take];omega
       (repeat' (first|(refine hK _ ?_;clear hK K)|(refine aM (fun K hK=>?_))|(refine gR ?_;refine aP ?_)|(refine gD 6 ?_;refine fg (.it 0 0 (.it 1 0 (.it 2 0 (.it 3 0 (.it 4 0 (.it 5 0 (.it 6 0 (.it 7 0 (.it 8 0 (.it 9 0 (.it 10 1 .nil))))))))))) [0,1,2,3,4,5,6,7,8,9] ?_)|(refine gD 11 ?_;refine fg (.it 0 0 (.it 1 0 (.it 2 0 (.it 3 0 (.it 4 0 (.it 5 0 (.it 6 0 (.it 7 0 (.it 8 0 (.it 9 0 (.it 10 1 (.it 11 0 .nil)))))))))))) [0,1,2,3,4,5,6,7,8,9,11] ?_)|(refine bn (fun K hK=>?_);refine lY (id:=100) (sz:=2) (l:=i) (k:=l.length - i) ab ab ab ab ab (by simp only [go_sem];omega) ?_)|(refine dk (fun K hK=>?_);refine lY (id:=100) (sz:=2) (l:=i) (k:=l.length - i) ab ab ab ab ab (by simp only [go_sem];omega) ?_)|(refine And.intro ?_ ?_)|(refine tO ?_;refine ko ?_)|(refine gE ?_;(first|(refine cc ?_)|(refine dL (fun _=>?_))))|(refine gQ ?_;(first|(refine cf ?_)|(refine bT ?_)|(refine aS (fun hc=>?_) (fun hc=>?_)<;>(try (first|contradiction|omega)))))|(refine kj ?_;refine eK ?_)|(refine gW ?_;refine bN ?_)|(refine aN ?_)|(refine gX ?_;refine bV ?_)|(refine gT ?_;refine aZ ?_)|(refine gS ?_;refine aX ?_)|(apply_assumption (exfalso:=false) (symm:=false))))
       simp only [hcs,hci]
       (refine oV (Le.refl _) (aQ (aO ab)) ab ae (fun j hj=>by simp only [AV.cv,beq_eq_false_iff_ne,ne_eq];exact fun h=>hj h.symm) (by first|rfl|exact dK _ _ (fun _=>rfl)|(simp only [go_sem,seval,dj,aV];done)) ⟨rfl,rfl⟩)
    ·rw [if_neg heq,hjc] at hct
     rw [decide_eq_false heq] at hef
     (repeat' (first|(refine hK _ ?_;clear hK K)|(refine aM (fun K hK=>?_))|(refine gR ?_;refine aP ?_)|(refine gD 6 ?_;refine fg (.it 0 0 (.it 1 0 (.it 2 0 (.it 3 0 (.it 4 0 (.it 5 0 (.it 6 0 (.it 7 0 (.it 8 0 (.it 9 0 (.it 10 1 .nil))))))))))) [0,1,2,3,4,5,6,7,8,9] ?_)|(refine gD 11 ?_;refine fg (.it 0 0 (.it 1 0 (.it 2 0 (.it 3 0 (.it 4 0 (.it 5 0 (.it 6 0 (.it 7 0 (.it 8 0 (.it 9 0 (.it 10 1 (.it 11 0 .nil)))))))))))) [0,1,2,3,4,5,6,7,8,9,11] ?_)|(refine bn (fun K hK=>?_);refine ev ab hef ab (fun x hx=>?_);obtain rfl:=hx)|(refine dk (fun K hK=>?_);refine ev ab hef ab (fun x hx=>?_);obtain rfl:=hx)|(refine And.intro ?_ ?_)|(refine tO ?_;refine ko ?_)|(refine gE ?_;(first|(refine cc ?_)|(refine dL (fun _=>?_))))|(refine gQ ?_;(first|(refine cf ?_)|(refine bT ?_)|(refine aS (fun hc=>?_) (fun hc=>?_)<;>(try (first|contradiction|omega)))))|(refine kj ?_;refine eK ?_)|(refine gW ?_;refine bN ?_)|(refine aN ?_)|(refine gX ?_;refine bV ?_)|(refine gT ?_;refine aZ ?_)|(refine gS ?_;refine aX ?_)|(apply_assumption (exfalso:=false) (symm:=false))))
     refine ⟨j+1,⟨by omega,by rw [hct];exact (List.take_succ_eq_append_getElem hlt).symm⟩,by omega,?_⟩
     (refine cm ?_)
     (exact bd)
   ·obtain hl:l.length=j+1:=by omega
    rw [← hl,List.take_length] at hjc
    (repeat' (first|(refine hK _ ?_;clear hK K)|(refine aM (fun K hK=>?_))|(refine gR ?_;refine aP ?_)|(refine gD 6 ?_;refine fg (.it 0 0 (.it 1 0 (.it 2 0 (.it 3 0 (.it 4 0 (.it 5 0 (.it 6 0 (.it 7 0 (.it 8 0 (.it 9 0 (.it 10 1 .nil))))))))))) [0,1,2,3,4,5,6,7,8,9] ?_)|(refine gD 11 ?_;refine fg (.it 0 0 (.it 1 0 (.it 2 0 (.it 3 0 (.it 4 0 (.it 5 0 (.it 6 0 (.it 7 0 (.it 8 0 (.it 9 0 (.it 10 1 (.it 11 0 .nil)))))))))))) [0,1,2,3,4,5,6,7,8,9,11] ?_)|(refine And.intro ?_ ?_)|(refine tO ?_;refine ko ?_)|(refine gE ?_;(first|(refine cc ?_)|(refine dL (fun _=>?_))))|(refine gQ ?_;(first|(refine cf ?_)|(refine bT ?_)|(refine aS (fun hc=>?_) (fun hc=>?_)<;>(try (first|contradiction|omega)))))|(refine kj ?_;refine eK ?_)|(refine gW ?_;refine bN ?_)|(refine aN ?_)|(refine gX ?_;refine bV ?_)|(refine gT ?_;refine aZ ?_)|(refine gS ?_;refine aX ?_)|(apply_assumption (exfalso:=false) (symm:=false))))
    rw [hjc]
    (refine oV (Le.refl _) (aQ (aO ab)) ab ae (fun j hj=>by simp only [AV.cv,beq_eq_false_iff_ne,ne_eq];exact fun h=>hj h.symm) (by first|rfl|exact dK _ _ (fun _=>rfl)|(simp only [go_sem,seval,dj,aV];done)) ⟨rfl,rfl⟩)
def mV (args:List Int) (l:List bB):List bB:=fj (sI (l.map (lO args)) ((l.map (lO args)).length - 1))
theorem sJ (args:List Int) (l:List bB):(mV args l).length≤l.length:=by
 unfold mV
 refine Nat.le_trans (vw _) ?_
 rw [oK,List.length_map];exact Nat.le_refl _
theorem C2 (l:List bB) (args:List Int) (hn:l.length≤8) (ha:∀ x∈l,BN args.length x):bg Tryz.prog 164 [cZ l,ints args] (fun r=>r=cZ (mV args l)):=by
 have hl:=sJ args l
 obtain ⟨R,hR⟩:∃ r,mV args l=r:=⟨_,rfl⟩
 rw [hR] at hl ⊢
 (refine bh Tryz.func164 Tryz.ntmps164 ?_)
 (repeat' (first|(refine hK _ ?_;clear hK K)|(refine aM (fun K hK=>?_))|(refine gR ?_;refine aP ?_)|(refine bn (fun K hK=>?_);(first|(refine cF ?_)|(refine virtS 14 19 2 32 66 ?_;refine cF ?_)))|(refine gE ?_;(first|(refine cc ?_)|(refine dL (fun _=>?_))))|(refine gQ ?_;(first|(refine cf ?_)|(refine bT ?_)|(refine aS (fun hc=>?_) (fun hc=>?_)<;>(try (first|contradiction|omega)))))|(refine gW ?_;refine bN ?_)|(refine aN ?_)|(refine gX ?_;refine bV ?_)|(refine gT ?_;refine aZ ?_)|(refine gS ?_;refine aX ?_)|(apply_assumption (exfalso:=false) (symm:=false))))
 (refine j1 5 100 2 32 66 ?_)
 refine bO [5,7,10,11,12,13,14,15,16,17,18,19,20] (fun k:Nat=>k≤l.length) (fun k=>l.length - k) (fun k=>[(10,.int k),(5,.sl 2 32 100 0 ((l.map (lO args)).take k).length)]) (fun k=>[(100,⟨66,((l.map (lO args)).take k).flatMap jO,false⟩)]) 0 (Nat.zero_le _) ?_ ?_
 ·(refine cm ?_)
  (refine dW (by (repeat (first|exact .nil|refine .drop ?_|refine dI ?_ aD))) (by (repeat refine dH ab aD ?_);exact aY _))
 ·rintro k hk K hK
  have hkl:((l.map (lO args)).take k).length=k:=by rw [List.length_take,List.length_map];omega
  rw [hkl]
  (refine cm ?_)
  by_cases hlt:k < l.length
  ·have hb:=CV l[k] args (ha _ (List.getElem_mem hlt))
   have hst:(l.map (lO args)).take (k+1)=(l.map (lO args)).take k++[lO args l[k]]:=by rw [List.take_succ_eq_append_getElem (by simpa using hlt),List.getElem_map]
   (repeat' (first|(refine hK _ ?_;clear hK K)|(refine aM (fun K hK=>?_))|(refine gR ?_;refine aP ?_)|(refine gC 162 ?_;refine bp (hb) ?_)|(refine bn (fun K hK=>?_);(first|(refine cF ?_)|(refine virtS 14 19 2 32 66 ?_;refine cF ?_)))|(refine gE ?_;(first|(refine cc ?_)|(refine dL (fun _=>?_))))|(refine gQ ?_;(first|(refine cf ?_)|(refine bT ?_)|(refine aS (fun hc=>?_) (fun hc=>?_)<;>(try (first|contradiction|omega)))))|(refine gW ?_;refine bN ?_)|(refine aN ?_)|(refine gX ?_;refine bV ?_)|(refine gT ?_;refine aZ ?_)|(refine gS ?_;refine aX ?_)|(apply_assumption (exfalso:=false) (symm:=false))))
   refine ⟨k+1,by omega,by omega,?_⟩
   rw [hst,List.length_append,hkl]
   (refine cm ?_)
   (exact bd)
  ·obtain rfl:k=l.length:=by omega
   rw [List.take_of_length_le ax]
   generalize hm:l.map (lO args)=m at *
   have hml:m.length=l.length:=by rw [← hm,List.length_map]
   have hw:=HG m false aj
   have hil:=oK m (m.length - 1)
   have hw2:=Am (sI m (m.length - 1)) (by rw [oK];omega)
   rw [hil] at hw2
   rw [show fj (sI m (m.length - 1))=R by rw [← hR];unfold mV;rw [hm]] at hw2
   rw [hml] at hw hw2
   (repeat' (first|(refine hK _ ?_;clear hK K)|(refine aM (fun K hK=>?_))|(refine gR ?_;refine aP ?_)|(refine gC 162 ?_;refine bp (hb) ?_)|(refine bn (fun K hK=>?_);(first|(refine cF ?_)|(refine virtS 14 19 2 32 66 ?_;refine cF ?_)|(refine kz (hT:=by exact of_decide_eq_true rfl) (d:=some 22) (hw) ab (fun x bk hx=>?_);obtain ⟨rfl,rfl⟩:=hx;simp only [Nat.reduceBEq,Bool.or_true,Bool.or_false,Bool.false_or,Bool.true_or,go_sem,seval])|(refine kz (hT:=by exact of_decide_eq_true rfl) (d:=some 24) (hw2) ab (fun x bk hx=>?_);obtain ⟨rfl,rfl⟩:=hx;simp only [Nat.reduceBEq,Bool.or_true,Bool.or_false,Bool.false_or,Bool.true_or,go_sem,seval])))|(refine gE ?_;(first|(refine cc ?_)|(refine dL (fun _=>?_))))|(refine gQ ?_;(first|(refine cf ?_)|(refine bT ?_)|(refine aS (fun hc=>?_) (fun hc=>?_)<;>(try (first|contradiction|omega)))))|(refine gW ?_;refine bN ?_)|(refine aN ?_)|(refine gX ?_;refine bV ?_)|(refine gT ?_;refine aZ ?_)|(refine gS ?_;refine aX ?_)|(apply_assumption (exfalso:=false) (symm:=false))))
   refine xG (f:=bB.av) R rfl ab (by rw [rI];rfl) rfl (fun _=>rfl) (fun _=>rfl) aj rfl
end Go.Proofs.YtkbiagkbmodgdaaGreat
namespace Go.Proofs.YtkbiagkbmodgdaaGreat
open Go.Ab
open Go
set_option maxRecDepth 10000
attribute [local irreducible] dE fh mC lW db PV eR ef AW bg dn ec dP cO Ab.Fin ft en gI iO RV jX Le eI fM mg gV kf dz dg
set_option maxHeartbeats 8000000
@[local go_sem] theorem jH (id:Nat) (a b:List AV):AV.ct id (a++b)=AV.ct id a++AV.ct id b:=pA id a b
abbrev tG (a:bB):cz:=⟨false,a⟩
abbrev j3 (a:bB):cz:=⟨true,a⟩
def eC (plus minus:List bB):List bB:=minus.filter fun a=>!yd plus a
theorem BW (p m:List bB):(eC p m).length≤m.length:=List.length_filter_le _ _
theorem EO {p m:List bB} {k:Nat} (h:k < m.length) (hh:yd p m[k]=true):eC p (m.take (k+1))=eC p (m.take k):=by
 rw [List.take_succ_eq_append_getElem h,eC,List.filter_append]
 simp [hh,eC]
theorem BX {p m:List bB} {k:Nat} (h:k < m.length) (hh:yd p m[k]=false):eC p (m.take (k+1))=eC p (m.take k)++[m[k]]:=by
 rw [List.take_succ_eq_append_getElem h,eC,List.filter_append]
 simp [hh,eC]
def Mo (args:List Int) (s:gJ):List cz:=(mV args s.add).map tG++(eC (mV args s.add) (mV args s.del)).map j3
def Mp (args:List Int) (s:gJ):List cz:=(mV args s.add).map j3++(eC (mV args s.add) (mV args s.del)).map tG
theorem An {α:Type} (f:bB→α) {l:List bB} {k:Nat} (h:k < l.length):(l.map f).take (k+1)=(l.map f).take k++[f l[k]]:=by rw [List.take_succ_eq_append_getElem (by simpa using h),List.getElem_map]
theorem BY (d:dB) (s:gJ) (hs:GR d s) (args:List Int) (ha:args.length=s.ts.length) :
  bg Tryz.prog 115 [.bx d.gs,s.av,ints args] (fun r=>r= .dr [dM (Mo args s),dM (Mp args s)]):=by
 have b1:=C2 s.add args hs.L9 (fun x hx i hi=>by have:=((hs.add x hx).args i hi).1;rw [ha];exact this)
 have b2:=C2 s.del args hs.Ma (fun x hx i hi=>by have:=((hs.del x hx).args i hi).1;rw [ha];exact this)
 have n1:=sJ args s.add
 have n2:=sJ args s.del
 have n3:=hs.L9
 have n4:=hs.Ma
 unfold Mo Mp
 generalize mV args s.add=P at *
 generalize mV args s.del=M at *
 obtain ⟨nm,ts,df,pre,ad,de,co⟩:=s
 simp only at b1 b2 n1 n2 n3 n4
 (refine bh Tryz.func115 Tryz.ntmps115 ?_)
 (repeat' (first|(refine hK _ ?_;clear hK K)|(refine aM (fun K hK=>?_))|(refine gR ?_;refine aP ?_)|(refine gD 1 ?_;refine fg (.it 0 0 (.it 1 0 (.it 2 0 (.it 4 0 (.it 5 0 (.it 6 0 (.it 3 1 (.it 7 1 (.it 8 0 (.it 9 0 .nil)))))))))) [0,1,2,4,5,6,8,9] ?_)|(refine kK 164 ?_;refine dw (b1) ?_)|(refine kK 164 ?_;refine dw (b2) ?_)|(refine gE ?_;refine cc ?_)|(refine aN ?_)))
 (refine j1 6 600 3 40 68 ?_)
 (refine j1 7 700 3 40 68 ?_)
 refine bU [6,7,13,41,42,43,44,45,46,47,48,49,50,51,52,53,54,55,56,57,58,59] (fun k:Nat=>k≤P.length) (fun k=>P.length - k) (fun k=>[(24,.int k),(6,.sl 3 40 600 0 ((P.map tG).take k).length),(7,.sl 3 40 700 0 ((P.map j3).take k).length)]) (fun k=>[(600,⟨68,((P.map tG).take k).flatMap ph,false⟩),(700,⟨68,((P.map j3).take k).flatMap ph,false⟩)]) 0 (Nat.zero_le _) ?_ ?_
 ·(refine cm ?_)
  (exact bd)
 ·rintro k hk K hK
  have l1:((P.map tG).take k).length=k:=by rw [List.length_take,List.length_map];omega
  have l2:((P.map j3).take k).length=k:=by rw [List.length_take,List.length_map];omega
  rw [l1,l2]
  (refine cm ?_)
  by_cases hlt:k < P.length
  ·have s1:=An tG hlt
   have s2:=An j3 hlt
   (repeat' (first|(refine hK _ ?_;clear hK K)|(refine aM (fun K hK=>?_))|(refine gR ?_;refine aP ?_)|(refine bn (fun K hK=>?_);refine cF ?_)|(refine gE ?_;(first|(refine cc ?_)|(refine dL (fun _=>?_))))|(refine gQ ?_;refine aS (fun hc=>?_) (fun hc=>?_)<;>(try (first|contradiction|omega)))|(refine gW ?_;refine bN ?_)|(refine aN ?_)|(refine gS ?_;refine aX ?_)))
   refine ⟨k+1,by omega,by omega,?_⟩
   rw [s1,s2,List.length_append,List.length_append,l1,l2]
   (refine cm ?_)
   (exact bd)
  ·obtain rfl:k=P.length:=by omega
   rw [List.take_of_length_le ax,List.take_of_length_le ax]
   (repeat' (first|(refine hK _ ?_;clear hK K)|(refine aM (fun K hK=>?_))|(refine fH 9 ab ?_;refine aP ?_)|(refine gQ ?_;refine aS (fun hc=>?_) (fun hc=>?_)<;>(try (first|contradiction|omega)))|(refine aN ?_)|(refine gX ?_;refine bV ?_)|(apply_assumption (exfalso:=false) (symm:=false))))
   refine bU [6,7,13,41,42,43,44,45,46,47,48,49,50,51,52,53,54,55,56,57,58,59] (fun k:Nat=>k≤M.length) (fun k=>M.length - k) (fun k=>[(41,.int k),(6,.sl 3 40 600 0 (P.length+(eC P (M.take k)).length)),(7,.sl 3 40 700 0 (P.length+(eC P (M.take k)).length))]) (fun k=>[(600,⟨68,(P.map tG++(eC P (M.take k)).map j3).flatMap ph,false⟩),(700,⟨68,(P.map j3++(eC P (M.take k)).map tG).flatMap ph,false⟩)]) 0 (Nat.zero_le _) ?_ ?_
   ·(refine cm ?_)
    (refine dW (by (repeat (first|exact .nil|refine .drop ?_|refine dI ?_ (by first|rfl|(simp [eC]))))) (by (repeat refine dH ab (by first|rfl|(simp [eC])) ?_);exact aY _))
   ·rintro k hk K hK
    (refine cm ?_)
    have hml:=BW P (M.take k)
    rw [List.length_take] at hml
    by_cases hlt:k < M.length
    ·have hh:=ye P M[k]
     cases hb:yd P M[k] with
     |true=>
      rw [hb] at hh
      have s1:=EO hlt hb
      (repeat' (first|(refine hK _ ?_;clear hK K)|(refine aM (fun K hK=>?_))|(refine gR ?_;refine aP ?_)|(refine gC 116 ?_;refine bp (hh) ?_)|(refine gE ?_;(first|(refine cc ?_)|(refine dL (fun _=>?_))))|(refine gQ ?_;(first|(refine bT ?_)|(refine aS (fun hc=>?_) (fun hc=>?_)<;>(try (first|contradiction|omega)))))|(refine aN ?_)|(refine gS ?_;refine aX ?_)))
      refine ⟨k+1,by omega,by omega,?_⟩
      rw [s1]
      (refine cm ?_)
      (exact bd)
     |false=>
      rw [hb] at hh
      have s1:=BX hlt hb
      (repeat' (first|(refine hK _ ?_;clear hK K)|(refine aM (fun K hK=>?_))|(refine gR ?_;refine aP ?_)|(refine gC 116 ?_;refine bp (hh) ?_)|(refine bn (fun K hK=>?_);refine cF ?_)|(refine gE ?_;(first|(refine cc ?_)|(refine dL (fun _=>?_))))|(refine gQ ?_;(first|(refine cf ?_)|(refine aS (fun hc=>?_) (fun hc=>?_)<;>(try (first|contradiction|omega)))))|(refine gW ?_;refine bN ?_)|(refine aN ?_)|(refine gS ?_;refine aX ?_)))
      refine ⟨k+1,by omega,by omega,?_⟩
      rw [s1,List.length_append,List.map_append,List.map_append]
      (refine cm ?_)
      (refine dW (by (repeat (first|exact .nil|refine .drop ?_|refine dI ?_ aD))) (by (repeat refine dH ab aD ?_);exact aY _))
    ·obtain rfl:k=M.length:=by omega
     rw [List.take_length] at *
     have hlx:(P.map tG++(eC P M).map j3).length=P.length+(eC P M).length:=by simp
     have hly:(P.map j3++(eC P M).map tG).length=P.length+(eC P M).length:=by simp
     rw [← yp,← yp]
     generalize P.map tG++(eC P M).map j3=X at *
     generalize P.map j3++(eC P M).map tG=Y at *
     (repeat' (first|(refine hK _ ?_;clear hK K)|(refine aM (fun K hK=>?_))|(refine fH 15 ab ?_;refine aP ?_)|(refine gQ ?_;refine aS (fun hc=>?_) (fun hc=>?_)<;>(try (first|contradiction|omega)))|(refine gX ?_;refine bV ?_)|(apply_assumption (exfalso:=false) (symm:=false))))
     (refine cT (eg (f:=cz.av) 600 3 40 (P.length+(eC P M).length) X ab (gv _) (by exact hlx) (fun _=>rfl) (fun _=>rfl) aj) ?_;try simp only [go_sem,seval])
     (refine cT (eg (f:=cz.av) 700 3 40 (P.length+(eC P M).length) Y ab (gv _) (by exact hly) (fun _=>rfl) (fun _=>rfl) aj) ?_;try simp only [go_sem,seval])
     (repeat' (first|(refine hK _ ?_;clear hK K)|(refine gR ?_;refine aP ?_)|(refine gT ?_;refine aZ ?_)))
     (refine aT (Le.refl _) (dx (aO ab) (aO ab)) af ?_)
     rfl
end Go.Proofs.YtkbiagkbmodgdaaGreat
