/- Part of a proof. No condition. -/
import Derived.ChangeKeysEq
import Derived.CheckFast
import Derived.KernelRfl
import Derived.Test.YtkbiagkbmodgdaaGreatZaba
set_option linter.unusedSimpArgs false
set_option linter.unusedVariables false
namespace Go.Ab
open Go.RowKit
variable {P:Program}
def iA (ids:List Nat) (x:AV) (hp:Hp):Prop:=∀ id,id ∉ ids→AV.cq id x=false∧cz id hp=false
def da (P:Program) (f:FuncId) (args:List AV) (ids:List Nat) (Q:AV→Hp→Prop):Prop:=
 (∀ id∈ids,id≤999999999)→∀ G w vals,mA G w→w5 G args vals→Calls P f vals.toArray w fun e w'=>∃ y G' β' x hp,e= .returned y∧Q x hp∧iA ids x hp∧Conc G' β' x y∧dx ⟨w,fun _=>False,G,fun _=>none,nb.no⟩ β' G' hp w'
def fi (P:Program) (rs:Array ResultVar) (ids:List Nat) (Q:AV→Hp→Prop):Exit→St→Prop
 | .normal,s| .ret,s=>∃ s' x,Le s s'∧RV P rs s' x∧iA ids x s'.hp∧Q x s'.hp
 |_,_=>False
variable {f:FuncId} {ids:List Nat} {Q:AV→Hp→Prop} {n:Nat}
theorem I7 {fn:Func} {c:Code} {args:List AV} {rs:Array ResultVar} (hf:P.funcs[f]?=some fn) (hb:fn.body=some c) (hn:fn.ntmps=n) (hrs:fn.results=rs)
 (h:AW P c ⟨args++List.replicate (n - args.length) .any,[]⟩ (fi P rs ids Q)):da P f args ids Q:=by
 intro _ G w vals hG ⟨hl,hc⟩;subst hn;refine iq (R:=⟨w,fun _=>False,G,fun _=>none,nb.no⟩) (β:=na) (G:=G) hf hb hrs (jS hl hc ⟨hG,fun id bk h=>by simp [bp] at h,fun i j b t t' h=>by simp [bp] at h,⟨rfl,rfl,rfl,qb3 _,fun _ _ _=>rfl⟩,fun b h=>.inl h,sX,jw.nil⟩) h fun e s' hq=>?_;have key:(∃ s'' x,Le s' s''∧RV P rs s'' x∧iA ids x s''.hp∧Q x s''.hp)→∃ s'' x,Le s' s''∧RV P rs s'' x∧∀ β2 G2 y w2,Conc G2 β2 x y→dx ⟨w,fun _=>False,G,fun _=>none,nb.no⟩ β2 G2 s''.hp w2→
  (fun (e:Ending) (w':World)=>∃ y G' β' x hp,e=Ending.returned y∧Q x hp∧iA ids x hp∧Conc G' β' x y∧dx ⟨w,fun _=>False,G,fun _=>none,nb.no⟩ β' G' hp w') (.returned y) w2:=by
  rintro ⟨s'',x,hle,hrv,hp,hQ⟩;exact ⟨s'',x,hle,hrv,fun β2 G2 y w2 hcy hH=>⟨y,G2,β2,x,s''.hp,rfl,hQ,hp,hcy,hH⟩⟩
 cases e with
 |normal=>exact ⟨.inl rfl,key hq⟩
 |ret=>exact ⟨.inr rfl,key hq⟩
 |_=>exact hq.elim
theorem eh (a b:Hp) (i:Nat):bp (a++b) i=(bp a i).or (bp b i):=by
 induction a with
 |nil=>simp [bp]
 |cons p r ih=>
  obtain ⟨j,x⟩:=p;simp only [qi8,bp];split
  ·simp
  exact ih
variable {hp:Hp} {i:Nat} {bk:iB}
theorem eG (h:bp hp i=some bk):cz i hp=true:=by
 induction hp with
 |nil=>simp [bp] at h
 |cons p r ih=>
  obtain ⟨j,x⟩:=p;simp only [bp] at h;simp only [cz];split at h
  ·rename_i e;simp [e]
  simp [ih h]
theorem gw {k:Nat} (h:bp hp k=some bk) (hm:AV.bz i bk.cs=true):cz i hp=true:=by
 induction hp with
 |nil=>simp [bp] at h
 |cons p r ih=>
  obtain ⟨j,x⟩:=p;simp only [bp] at h;simp only [cz];split at h
  ·injection h with h;subst h;simp [hm]
  simp [ih h]
variable {R:Rg} {β:c9} {G G':bI} {s:St} {a:Act} {w w':World}
theorem fw.Qp (h:fw R β G s a w) (he:Ext w w') (hG':mA G' w') (hd:∀ b,G' b≠none→G b≠none∨w.heap.size≤b):
 ∃ G'',fw R β G'' s a w'∧(∀ b o,G' b=some o→G'' b=some o)∧∀ b,G'' b≠none→G b≠none∨G' b≠none:=by
 obtain ⟨G'',h1,h2⟩:=h.later he hG' hd;let G3:bI:=fun b=>match G b with|some o=>some o|none=>G' b
 have hgs:mA G w':=sh h.hp.gs he;have m1:∀ b o,G b=some o→G3 b=some o:=fun b o hb=>by simp [G3,hb]
 have m2:∀ b o,G' b=some o→G3 b=some o:=fun b o hb=>by
  cases hg:G b with
  |none=>simp [G3,hg,hb]
  |some o'=>
   have e1:=hgs b o' hg;have e2:=hG' b o hb;rw [e1] at e2;injection e2 with e2;subst e2
   exact m1 b _ hg
 refine ⟨G3,⟨h.defers.mono m1,h1.size,fun i x y hx hy=>(h.fr i x y hx hy).mono m1,⟨fun b o hb=>?_,fun id bk hi=>?_,h1.hp.inj,h1.hp.keeps,fun b hb=>?_,h1.hp.kL,h1.hp.iC⟩⟩,m2,fun b hb=>?_⟩
 ·simp only [G3] at hb
  split at hb
  ·rename_i o' hg;injection hb with hb;subst hb;exact hgs b _ hg
  exact hG' b o hb
 ·have:=h.hp.blk id bk hi
  unfold bZ at this ⊢;cases hβ:β id with
  |no=>rw [hβ] at this;exact this
  |nil=>rw [hβ] at this;exact this
  |«at» b t=>
   rw [hβ] at this;obtain ⟨g1,g2,arr',g3,g4,g5,g6,g7⟩:=this;refine ⟨?_,g2,arr',by rw [he.block b (db g3)];exact g3,g4,g5,g6,fun j x y hx hy=>(g7 j x y hx hy).mono m1⟩;simp only [G3,g1];cases hq:G' b with
   |none=>rfl
   |some o=>
    rcases hd b (by rw [hq];simp) with h1|h1
    ·exact absurd g1 h1
    have:=db g3;omega
  |gh o=>rw [hβ] at this;exact gA this m1 fun x _ y hc=>hc.mono m1
 ·simp only [G3] at hb
  cases hg:G b with
  |some o=>exact h.hp.kH b (by rw [hg];simp)
  |none=>
   rw [hg] at hb;rcases hd b hb with h1|h1
   ·exact absurd hg h1
   exact .inr (.inl (qd3 h.hp.keeps.size h1))
 simp only [G3] at hb;cases hg:G b with
 |none=>rw [hg] at hb;exact .inr hb
 |some o=>exact .inl aC
theorem dx.ext (h:dx ⟨w,fun _=>False,G,fun _=>none,nb.no⟩ β G' hp w'):Ext w w':=
 have hk:=h.keeps
 ⟨hk.os,hk.tape,hk.output,hk.size,fun k hk'=>hk.block k hk' aC⟩
variable {d:Option Tmp}
theorem w6 (hr:fw R β G s a w) (hfree:∀ id∈ids,s.free id=true)
 {y:Value} {β':c9} {x:AV} {hp':Hp} (hwi:iA ids x hp') (hcx:Conc G' β' x y) (hrh:dx ⟨w,fun _=>False,G,fun _=>none,nb.no⟩ β' G' hp' w'):
 ∃ β2 G2,fw R β2 G2 ⟨(s.put d x).fr,hp'++s.hp⟩ (a.put d y) w':=by
 have hext:Ext w w':=dx.ext hrh;obtain ⟨G'',hr',hm,hback⟩:=hr.Qp hext hrh.gs (fun b hb=>(hrh.kH b hb).imp id (fun h=>h.elim id (fun h=>h.elim)));let β2:c9:=fun id=>if id∈ids then β' id else β id
 have b1:∀ id,id∈ids→β2 id=β' id:=fun id h=>by simp [β2,h]
 have b2:∀ id,id ∉ ids→β2 id=β id:=fun id h=>by simp [β2,h]
 have hin:∀ id,AV.cq id x=true∨cz id hp'=true→id∈ids:=fun id hm=>by
  by_cases hi:id∈ids
  ·exact hi
  have:=hwi id hi;rcases hm with hm|hm
  ·rw [this.1] at hm;cases hm
  rw [this.2] at hm;cases hm
 have hout:∀ id,id∈ids→(∀ (i:Nat) x,s.fr[i]?=some x→AV.cq id x=false)∧bp s.hp id=none∧∀ k bk (j:Nat) x,bp s.hp k=some bk→bk.cs[j]?=some x→AV.cq id x=false:=fun id h=>j9 (hfree id h);have hput:(fw R β G'' (s.put d .any) (a.put d y) w'):=hr'.put d .any;have hold:∀ x y,(∀ id,id∈ids→AV.cq id x=false)→Conc G'' β x y→Conc G'' β2 x y:=fun x y hx hc=>hc.ext (fun id hm=>by
  by_cases hi:id∈ids
  ·rw [hx id hi] at hm;cases hm
  exact b2 id hi) (fun _ _ h=>h)
 have hnew:∀ x y,(∀ id,AV.cq id x=true→id∈ids)→Conc G' β' x y→Conc G'' β2 x y:=fun x y hx hc=>hc.ext (fun id hm=>b1 id (hx id hm)) hm;have hxc:=hnew x y (fun id h=>hin id (.inl h)) hcx;have hpre:fw R β2 G'' ⟨s.fr,hp'++s.hp⟩ a w':=by
  refine ⟨hr'.defers,hr'.size,fun i u v hu hv=>hold u v (fun id hi=>(hout id hi).1 i u hu) (hr'.fr i u v hu hv),⟨hr'.hp.gs,fun i bk hi=>?_,fun i j b t t' hi hj hbi hbj=>?_,hr'.hp.keeps,hr'.hp.kH,fun i hi=>?_,hr'.hp.iC.ext fun i h1 hi=>?_⟩⟩
  rotate_right
  ·have hni:i ∉ ids:=fun h=>by have:=iD (hfree i h);omega
   refine ⟨?_,b2 i hni⟩;rw [eh] at hi;cases hq:bp hp' i with
   |some bk'=>exact absurd (hin i (.inr (eG hq))) hni
   |none=>rw [hq] at hi;simpa using hi
  ·rw [eh] at hi
   cases hq:bp hp' i with
   |some bk'=>
    rw [hq] at hi;simp at hi;subst hi;have hii:=hin i (.inr (eG hq));have:=hrh.blk i bk' hq;unfold bZ at this ⊢;rw [b1 i hii];cases hβ:β' i with
    |no=>rw [hβ] at this;exact this
    |nil=>rw [hβ] at this;exact this
    |gh o=>
     rw [hβ] at this;rcases this with ⟨_,h0,_⟩|⟨b,es,clock,e0,e1,e2,e3,e4,e5⟩
     ·cases h0
     exact .inr ⟨b,es,clock,e0,e1,.inl (qd3 hr.hp.keeps.size (e2.elim (fun h=>h) (fun h=>h.elim))),hm _ _ e3,e4,fun j u v hu hv=>hnew u v (fun id hmm=>hin id (.inr (gw hq (jg hu hmm)))) (e5 j u v hu hv)⟩
    |«at» b t=>
     rw [hβ] at this;obtain ⟨g1,g2,arr',g3,g4,g5,g6,g7⟩:=this;have hge:w.heap.size≤b:=g2.elim (fun h=>h) (fun h=>h.elim);refine ⟨?_,.inl (qd3 hr.hp.keeps.size hge),arr',g3,g4,g5,g6,fun j u v hu hv=>hnew u v (fun id hm=>hin id (.inr (gw hq ?_))) (g7 j u v hu hv)⟩
     ·cases hg:G'' b with
      |none=>rfl
      |some o=>
       rcases hback b (by rw [hg];simp) with h1|h1
       ·cases hg1:G b with
        |none=>exact absurd hg1 h1
        |some o1=>have:=db (hr.hp.gs b o1 hg1);omega
       exact absurd g1 h1
     exact jg hu hm
   |none=>
    rw [hq] at hi;simp at hi;have hni:i ∉ ids:=fun h=>by rw [(hout i h).2.1] at hi;cases hi
    have:=hr'.hp.blk i bk hi;unfold bZ at this ⊢;rw [b2 i hni];cases hβ:β i with
    |no=>rw [hβ] at this;exact this
    |nil=>rw [hβ] at this;exact this
    |gh o=>
     rw [hβ] at this;exact gA this (fun _ _ h=>h) fun u hu v hc=>by
      obtain ⟨j,hj⟩:=qf2 hu;exact hold u v (fun id hi'=>(hout id hi').2.2 i bk j u hi hj) hc
    |«at» b t=>
     rw [hβ] at this;obtain ⟨g1,g2,arr',g3,g4,g5,g6,g7⟩:=this;exact ⟨g1,g2,arr',g3,g4,g5,g6,fun j u v hu hv=>hold u v (fun id hi'=>(hout id hi').2.2 i bk j u hi hu) (g7 j u v hu hv)⟩
  ·have key:∀ i b t,(bp (hp'++s.hp) i).isSome→β2 i= .at b t→((bp hp' i).isSome∧β' i= .at b t∧w.heap.size≤b)∨((bp s.hp i).isSome∧β i= .at b t∧b < w.heap.size):=by
    intro i b t his hb;rw [eh] at his;cases hq:bp hp' i with
    |some bk'=>
     have hii:=hin i (.inr (eG hq));rw [b1 i hii] at hb;have:=hrh.blk i bk' hq;unfold bZ at this;rw [hb] at this;exact .inl ⟨rfl,hb,this.2.1.elim (fun h=>h) (fun h=>h.elim)⟩
    |none=>
     rw [hq] at his;simp at his;obtain ⟨bk',hq'⟩:=qb0.1 his;have hni:i ∉ ids:=fun h=>by rw [(hout i h).2.1] at hq';cases hq'
     rw [b2 i hni] at hb;obtain ⟨_,_,arr',g3,_⟩:=hr.hp.block hq' hb;exact .inr ⟨his,hb,db g3⟩
   rcases key i b t hi hbi with ⟨a1,a2,a3⟩|⟨a1,a2,a3⟩<;>rcases key j b t' hj hbj with ⟨c1,c2,c3⟩|⟨c1,c2,c3⟩
   ·exact hrh.inj i j b t t' a1 c1 a2 c2
   ·omega
   ·omega
   exact hr.hp.inj i j b t t' a1 c1 a2 c2
  by_cases hii:i∈ids
  ·rw [b1 i hii] at hi;exact hrh.kL i hi
  rw [b2 i hii] at hi;exact hr.hp.kL i hi
 refine ⟨β2,G'',?_⟩;have:=hpre.put d hxc;cases d<;>exact this
variable {args:Array Operand} {K:St→Prop}
theorem mB {fx:Array TypeId} {ty:TypeId} {pos:String} {bF:Array Edge} {g:Option (Nat×Bool)} [hc:cI P f]
 (h:da P f (cv s args) ids Q) (hp:AV.cu (cv s args)=true) (hfree:∀ id∈ids,s.free id=true) (hk:∀ x hp,Q x hp→K ⟨(s.put d x).fr,hp++s.hp⟩):
 dJ P ⟨d,.call {callee:=.value (.func f),args,argTypes:=fx},ty,pos,bF,g⟩ s K:=by
 intro R β G a w Q' hr;have hrun:(execOp a.eval ⟨d,.call {callee:=.value (.func f),args,argTypes:=fx},ty,pos,bF,g⟩).run P w= .ok (.enter f (args.map a.eval)) w:=by simp [execOp,resolve,Act.eval,Deferred.ofValue,invoke,hc.ok]
 unfold Oper.wp;rw [hrun,Oper.upon_enter];have:=h (fun id hid=>iD (hfree id hid)) G w (args.map a.eval).toList hr.hp.gs (o5 hr args hp);simp only [qf5] at this;refine this.mono fun e w' ⟨y,G',β',x,hp',he,hQ,hwi,hcx,hrh⟩=>?_;subst he;obtain ⟨β2,G2,h2⟩:=w6 (d:=d) hr hfree hwi hcx hrh;exact ⟨dx.ext hrh,β2,G2,_,hk x hp' hQ,h2⟩
theorem mr {fx:Array TypeId} {ty:TypeId} {pos:String} {bF:Array Edge} {g:Option (Nat×Bool)} [hc:cI P f]
 (h:da P f (cv s args) ids Q) (hp:AV.cu (cv s args)=true) (hfree:∀ id∈ids,s.free id=true) (hk:∀ x hp,Q x hp→K ⟨(s.put d x).fr,hp++s.hp⟩):
 ff P ⟨d,.call {callee:=.value (.func f),args,argTypes:=fx},ty,pos,bF,g⟩ s K:=ka (mB h hp hfree hk)
theorem GV {sz bw off:Nat} {T:TypeId} {cs:List AV} {full:Bool} (h:AV.cu cs=true):iA [i] (.sl sz bw i off n) [(i,⟨T,cs,full⟩)]:=by
 intro id hid;have hne:¬i=id:=fun e=>hid (by simp [e]);have hm:AV.bz id cs=false:=by
  cases hq:AV.bz id cs with
  |false=>rfl
  |true=>
   have:=mC (id:=id) h;exfalso;have key:∀ l:List AV,AV.cu l=true→AV.bz id l=true→False:=by
    intro l
    induction l with
    |nil=>intro _ h;simp [AV.bz] at h
    |cons x r ih=>
     intro hp hm;simp only [AV.cu,qa1] at hp;simp only [AV.bz,qe0] at hm;rcases hm with hm|hm
     ·have:=o6 (id:=id) hp.1
      unfold AV.dN at this;rw [if_pos hm] at this;subst this;simp [AV.cq] at hm
     exact ih hp.2 hm
   exact key cs h hq
 exact ⟨by simp [AV.cq,hne],by simp [cz,hne,hm]⟩
end Go.Ab
namespace Go.Ab
open Go.RowKit
variable {P:Program}
variable {d:Tmp} {t el ty:TypeId} {z:Value} {m bw:Nat} {pos:String} {bF:Array Edge} {g:Option (Nat×Bool)} {s:St} {K:St→Prop}
theorem oa
 [hu:cT P t (.slice el)] [hi:dI P el z m bw] (id:Nat) (hf:s.free id=true) (hk:K ⟨s.fr.set d (.sl m bw id 0 0),cP s.hp id ⟨el,[],true⟩⟩):
 dJ P ⟨some d,.buildSlice t 0 #[],ty,pos,bF,g⟩ s K:=by
 intro R β G a w Q hr;have h1:=hr.qk hf el [] #[] true aC aC aC (by simp [AV.bz]);obtain ⟨i,hi1,hi2,hi3,hi4⟩:=hi.ok;have hrun:(execOp a.eval ⟨some d,.buildSlice t 0 #[],ty,pos,bF,g⟩).run P w= .ok (.value (.slice (some ⟨w.heap.size,0,none⟩) 0 0)) (w.alloc (.cells #[] el (0,0))):=by
  have he:∀ f:Nat→Value,(Array.range 0).map f=#[]:=fun f=>by apply Array.ext<;>simp
  simp [execOp,Instr.buildSlice,run_underlying hu.ok,sizeOf,typeInfo,hi1,newRow,Instr.fill,he]
 unfold Oper.wp;rw [hrun,Oper.upon_value];exact ⟨(Below.refl _ _).alloc (qb3 _) _,_,_,_,hk,h1.put (some d) (.sl (t:=0) (c:=0) aT (qb3 _) aC (by simp [maxLen]) aC)⟩
theorem wk
 [hu:cT P t (.slice el)] [hi:dI P el z m bw] (id:Nat) (hf:s.free id=true) (hk:K ⟨s.fr.set d (.sl m bw id 0 0),cP s.hp id ⟨el,[],true⟩⟩):
 ff P ⟨some d,.buildSlice t 0 #[],ty,pos,bF,g⟩ s K:=ka (oa id hf hk)
variable {x y:Operand} {n:Int}
theorem gZ
 [hu:cT P t (.slice el)] [hi:dI P el z 1 bw] (hx:s.eval x= .int n) (hy:s.eval y= .int n) (h0:0≤n) (hb:n.toNat * bw≤140737488355328) (hw:0 < bw) (hz:z.cells=#[z]) (id:Nat) (hf:s.free id=true)
 (hk:K ⟨s.fr.set d (.sl 1 bw id 0 n.toNat),cP s.hp id ⟨el,List.replicate n.toNat (.v z),true⟩⟩):
 dJ P ⟨some d,.makeSlice t x y,ty,pos,bF,g⟩ s K:=by
 intro R β G a w Q hr;have hmr:∀ (id:Nat) (z:Value) (n:Nat),AV.bz id (List.replicate n (.v z))=false:=by
  intro id z n;induction n with
  |zero=>rfl
  |succ n ih=>simp [qg6,AV.bz,AV.cq,ih]
 have h1:=hr.qk hf el (List.replicate n.toNat (.v z)) ((Array.range n.toNat).map fun _=>z) true aC aC (by
  intro j u v hu hv;rw [qk9] at hu;split at hu<;>simp at hu;subst hu;rw [Array.getElem?_map] at hv;rw [qa6] at hv;obtain ⟨_,_,rfl⟩:=hv;exact .v) (hmr _ _ _)
 obtain ⟨i,hi1,hi2,hi3,hi4⟩:=hi.ok;have e1:=hr.eval x;rw [hx] at e1;have e2:=hr.eval y;rw [hy] at e2;have hnm:n.toNat≤maxLen:=by
  have:n.toNat * 1≤n.toNat * bw:=ql2 _ hw
  have h2:n.toNat≤140737488355328:=by omega
  exact qd3 h2 aB
 have hwr:IntKind.i64.wrap n=n:=by
  have:n.toNat * 1≤n.toNat * bw:=ql2 _ hw
  exact qV ak ak
 have n2:¬(281474976710656 < (bw:Int) * n):=by
  have:((n.toNat * bw:Nat):Int)≤140737488355328:=by omega
  rw [Int.natCast_mul,qg3 h0,Int.mul_comm] at this;omega
 have hrun:(execOp a.eval ⟨some d,.makeSlice t x y,ty,pos,bF,g⟩).run P w= .ok (.value (.slice (some ⟨w.heap.size,0,none⟩) n.toNat n.toNat)) (w.alloc (.cells ((Array.range n.toNat).map fun _=>z) el (0,0))):=by
  have nr:¬(140737488355328 < n.toNat * bw):=by omega
  simp only [execOp,dr e1,dr e2];have he:∀ f:Nat→Value,(Array.range 0).map f=#[]:=fun f=>by apply Array.ext<;>simp
  by_cases hz0:n.toNat=0
  ·simp [Instr.makeSlice,run_underlying hu.ok,sizeOf,typeInfo,hi1,hi3,hi4,newRow,asInt,asIntOf,hwr,n2,Int.not_lt.2 h0,askRoom,roomBytes,nr,hz0,he]
  simp [Instr.makeSlice,run_underlying hu.ok,sizeOf,typeInfo,hi1,hi3,hi4,newRow,asInt,asIntOf,hwr,n2,Int.not_lt.2 h0,askRoom,roomBytes,nr,hz0,zeroValue,hi2,hz,Nat.mod_one]
 unfold Oper.wp;rw [hrun,Oper.upon_value];exact ⟨(Below.refl _ _).alloc (qb3 _) _,_,_,_,hk,h1.put (some d) (.sl (t:=n.toNat) (c:=n.toNat) aT (qb3 _) aC hnm hb)⟩
theorem rR
 [hu:cT P t (.slice el)] [hi:dI P el z 1 bw] (hx:s.eval x= .int n) (hy:s.eval y= .int n) (h0:0≤n) (hb:n.toNat * bw≤140737488355328) (hw:0 < bw) (hz:z.cells=#[z]) (id:Nat) (hf:s.free id=true)
 (hk:K ⟨s.fr.set d (.sl 1 bw id 0 n.toNat),cP s.hp id ⟨el,List.replicate n.toNat (.v z),true⟩⟩):
 ff P ⟨some d,.makeSlice t x y,ty,pos,bF,g⟩ s K:=ka (gZ hx hy h0 hb hw hz id hf hk)
variable {sz:Nat} {es:List AV}
theorem I8 {G:bI} {β:c9} {l h:Nat} {A:Option Addr} {c:Nat} (hc:Conc G β (.cD sz bw es) (.slice A es.length c)) (h1:l≤h) (h2:h≤es.length):
 Conc G β (.cD sz bw ((es.take h).drop l)) (.slice (if c=l then A else A.map (·.add (l * sz))) (h - l) (c - l)):=by
 cases hc with
 |cD ys hu hl hcc hb hA hr hs=>
  have hlen:((es.take h).drop l).length=h - l:=by simp;omega
  have hu':∀ e∈(es.take h).drop l,e.cells.length=sz:=fun e he=>hu e (List.mem_of_mem_take (List.mem_of_mem_drop he));have iE:∀ (j:Nat) x,(((es.take h).drop l).flatMap AV.cells)[j]?=some x→(es.flatMap AV.cells)[l * sz+j]?=some x:=by
   intro j x hx;have e1:es=es.take l++((es.take h).drop l++es.drop h):=by
    have a1:es.take l=(es.take h).take l:=by rw [List.take_take,Nat.min_eq_left h1]
    rw [a1,← qd6,qk3,qk3]
   have hl1:((es.take l).flatMap AV.cells).length=l * sz:=by rw [kc (fun e he=>hu e (List.mem_of_mem_take he)),qc0,Nat.min_eq_left ak]
   rw [e1,qd8,qd8,qc7 ak,hl1,Nat.add_sub_cancel_left,qe1 (bX hx)];exact hx
  have key:=Conc.cD (G:=G) (β:=β) (sz:=sz) (bw:=bw) (es:=(es.take h).drop l) (A:=if c=l then A else A.map (·.add (l * sz))) (c:=c - l) ((ys.drop (l * sz)).take ((h - l) * sz)) hu'
   (by rw [hlen];simp only [qc0,List.length_drop,hl]
       have:(h - l) * sz+l * sz≤es.length * sz:=by rw [← qj9];exact qh5 _ ak
       omega)
   (by rw [hlen];omega) (by rw [hlen];exact qd3 (qh5 _ ak) hb)
   (fun h0=>by
    rw [hlen] at h0;have hne:=hA ak;split
    ·exact hne
    cases A with
    |none=>exact absurd rfl hne
    |some a=>simp)
   (fun j y hy=>by
    have hjl:j < (h - l) * sz:=by have:=bX hy;simp at this;omega
    rw [qc3,if_pos hjl,qd0] at hy;obtain ⟨a,ha,hg⟩:=hr _ y hy;have hcl:¬c=l:=by
     intro e;have:0 < h - l:=by rcases qj4 (h - l) with h0|h0;rw [h0] at hjl;omega;exact h0
     omega
    rw [if_neg hcl,ha];refine ⟨_,rfl,?_⟩
    have:(a.add (l * sz)).add j=a.add (l * sz+j):=by
     unfold Addr.add;by_cases e1:l * sz=0
     ·simp [e1]
     by_cases e2:j=0
     ·simp [e1,e2]
     simp [e1,e2,Nat.add_assoc]
    rw [this];exact hg)
   (fun j x y hx hy=>by
    have hjl:j < (h - l) * sz:=by have:=bX hy;simp at this;omega
    rw [qc3,if_pos hjl,qd0] at hy;exact hs _ x y (iE j x hx) hy)
  rw [hlen] at key;exact key
variable {b:Nat}
theorem mD (hu:cT P t (.slice el)) (hi:dI P el z sz b) (A:Option Addr) (len c:Nat) (lo hi':Option Int) (w:World)
 (h1:0≤lo.getD 0) (h2:lo.getD 0≤hi'.getD len) (h3:hi'.getD len≤c):
 (Instr.sliceAt t (.slice A len c) (lo.map (.int .i64)) (hi'.map (.int .i64)) none).run P w= .ok (.slice (if c=(lo.getD 0).toNat then A else A.map (·.add ((lo.getD 0).toNat * sz))) ((hi'.getD len).toNat - (lo.getD 0).toNat) (c - (lo.getD 0).toNat)) w:=by
 cases lo with
 |none=>
  cases hi' with
  |none=>simp [Instr.sliceAt,Instr.slice,run_underlying hu.ok,Instr.sliceBounds,eH hi]
  |some m=>
   simp only [Option.getD_none,qf3] at h1 h2 h3;simp [Instr.sliceAt,Instr.slice,run_underlying hu.ok,Instr.sliceBounds,Instr.sliceBound,eH hi,asIntOf,h2,h3]
 |some l=>
  cases hi' with
  |none=>
   simp only [Option.getD_none,qf3] at h1 h2 h3;simp [Instr.sliceAt,Instr.slice,run_underlying hu.ok,Instr.sliceBounds,Instr.sliceBound,eH hi,asIntOf,h1,h2]
  |some m=>
   simp only [qf3] at h1 h2 h3;have h0:0≤m:=Int.le_trans h1 h2;have hl:max m 0=m:=Int.max_eq_left h0;have hnl:¬m < l:=by omega
   simp [Instr.sliceAt,Instr.slice,run_underlying hu.ok,Instr.sliceBounds,Instr.sliceBound,eH hi,asIntOf,h1,h3,hl,h0,h2,hnl]
theorem uH {lo hi:Option Operand} {L H:Option Int} [hu:cT P t (.slice el)] [hT:dI P el z sz b]
 (hx:s.eval x= .cD sz bw es) (hlo:lo.map s.eval=L.map AV.int) (hhi:hi.map s.eval=H.map AV.int) (h1:0≤L.getD 0) (h2:L.getD 0≤H.getD es.length) (h3:H.getD es.length≤es.length):
 PV P (.slice t x lo hi none) s (.cD sz bw ((es.take (H.getD es.length).toNat).drop (L.getD 0).toNat)):=
 dW fun R β G a w hr=>by
  have e1:=hr.eval x;rw [hx] at e1;have key:∀ (o:Option Operand) (X:Option Int),o.map s.eval=X.map AV.int→o.map a.eval=X.map (Value.int .i64):=by
   intro o X h;cases o with
   |none=>cases X with
    |none=>rfl
    |some _=>simp at h
   |some o=>cases X with
    |none=>simp at h
    |some n=>
     simp only [qg2,qd9] at h ⊢;have:=hr.eval o;rw [h] at this;exact dr this
  generalize hxv:a.eval x=vx at e1;have e1':=e1;cases e1' with
  |@cD _ _ _ _ A c ys hu' hl hc hb hA hrd hs=>
   have hcut:=I8 (l:=(L.getD 0).toNat) (h:=(H.getD es.length).toNat) e1 ak ak;refine ⟨_,hcut,fun w' d ty pos bF g=>?_⟩;have:=mD (P:=P) hu hT A es.length c L H w' h1 h2 ak;simp only [execOp,hxv,key lo L hlo,key hi H hhi,ql8,Sem.run_bind,this,qb1,Sem.run_pure]
variable {l:Operand}
theorem D3 [hu:cT P t (.slice el)] [hT:dI P el z sz b]
 (hx:s.eval x= .cD sz bw es) (hl:s.eval l= .int n) (h1:0≤n) (h2:n≤es.length):PV P (.slice t x (some l) none none) s (.cD sz bw (es.drop n.toNat)):=by
 have:=uH (P:=P) (t:=t) (b:=b) (lo:=some l) (hi:=none) (L:=some n) (H:=none) hx (by simp [hl]) aC (by simpa using h1) (by simpa using h2) aC;simpa using this
theorem D4 [hu:cT P t (.slice el)] [hT:dI P el z sz b]
 (hx:s.eval x= .cD sz bw es) (hl:s.eval l= .int n) (h1:0≤n) (h2:n≤es.length):PV P (.slice t x none (some l) none) s (.cD sz bw (es.take n.toNat)):=by
 have:=uH (P:=P) (t:=t) (b:=b) (lo:=none) (hi:=some l) (L:=none) (H:=some n) hx aC (by simp [hl]) aC (by simpa using h1) (by simpa using h2);simpa using this
theorem GW {h:Operand} {m:Int} [hu:cT P t (.slice el)] [hT:dI P el z sz b]
 (hx:s.eval x= .cD sz bw es) (hl:s.eval l= .int n) (hh:s.eval h= .int m) (h1:0≤n) (h2:n≤m) (h3:m≤es.length):PV P (.slice t x (some l) (some h) none) s (.cD sz bw ((es.take m.toNat).drop n.toNat)):=by
 have:=uH (P:=P) (t:=t) (b:=b) (lo:=some l) (hi:=some h) (L:=some n) (H:=some m) hx (by simp [hl]) (by simp [hh]) (by simpa using h1) (by simpa using h2) (by simpa using h3);simpa using this
end Go.Ab
namespace Go.Ab
theorem jT {id:Nat} {l:List AV} (h:AV.cu l=true):AV.bz id l=false:=by
 have h2:=mC (id:=id) h
 induction l with
 |nil=>rfl
 |cons x r ih=>
  simp only [AV.cu,qa1] at h;simp only [AV.cG,List.cons.injEq] at h2;simp only [AV.bz,ih h.2 h2.2,qc5];cases hm:AV.cq id x with
  |false=>rfl
  |true=>
   have:=h2.1;unfold AV.dN at this;rw [if_pos hm] at this;subst this;simp [AV.cq] at hm
variable {α:Type}
theorem y8 (id:Nat) (f:α→AV) (xs:List α) (h:∀ a,(f a).gq=true):AV.bz id (xs.map f)=false:=jT (dO f xs h)
@[simp] theorem o7 (id:Nat) (xs:List Int):AV.bz id (xs.map AV.int)=false:=y8 id _ xs (fun _=>rfl)
@[simp] theorem nh (id:Nat) (xs:List Bool):AV.bz id (xs.map AV.bool)=false:=y8 id _ xs (fun _=>rfl)
@[simp] theorem l7 (id:Nat) (a b:List AV):AV.bz id (a++b)=(AV.bz id a|| AV.bz id b):=by
 induction a with
 |nil=>rfl
 |cons x r ih=>simp [AV.bz,ih,Bool.or_assoc]
@[simp] theorem jM (id n:Nat) (x:Value):AV.bz id (List.replicate n (.v x))=false:=by
 induction n with
 |zero=>rfl
 |succ n ih=>simp [qg6,AV.bz,AV.cq,ih]
theorem gu (f:α→List AV) (xs:List α) (h:∀ a,AV.cu (f a)=true):AV.cu (xs.flatMap f)=true:=by
 induction xs with
 |nil=>rfl
 |cons x l ih=>simp [ql,ih,h x]
theorem ef (id:Nat) (f:α→List AV) (xs:List α) (h:∀ a,AV.cu (f a)=true):AV.bz id (xs.flatMap f)=false:=jT (gu f xs h)
theorem ir (id:Nat) (f:α→List AV) (xs:List α) (h:∀ a,AV.cu (f a)=true):AV.cG id (xs.flatMap f)=xs.flatMap f:=mC (gu f xs h)
theorem jE {s:St} {i:Nat} (h:s.free i=true):∀ id∈[i],s.free id=true:=by
 intro id hid;simp only [qd7] at hid;subst hid;exact h
end Go.Ab
namespace Go.Ab
variable {P:Program}
theorem fy {o:Oper} {s s':St} {K:St→Prop} (hle:Le s s') (h:ff P o s' K):ff P o s K:=
 fun R β G a w Q hr=>let ⟨β',G',hr'⟩:=hle R β G a w hr;h R β' G' a w Q hr'
end Go.Ab
namespace Go.Ab
end Go.Ab
namespace Go.Ab
open Go.RowKit
variable {P:Program}
theorem BG {α β:Type} {g:α→Option β}:∀ {l:List α} {ys:List β},l.mapM g=some ys→∀ {j:Nat} {y:β},ys[j]?=some y→∃ x,l[j]?=some x∧g x=some y
 |[],ys,h,j,y,hy=>by simp at h;subst h;simp at hy
 |x::l,ys,h,j,y,hy=>by
  rw [List.mapM_cons] at h;cases hg:g x with
  |none=>rw [hg] at h;simp at h
  |some y0=>
   cases hm:l.mapM g with
   |none=>rw [hg,hm] at h;simp at h
   |some ys0=>
    rw [hg,hm] at h;simp at h;subst h;cases j with
    |zero=>simp at hy;subst hy;exact ⟨x,rfl,hg⟩
    |succ j=>simpa using BG hm (by simpa using hy)
variable {t:TypeId} {pl:List (Nat×Nat)} {f off n:Nat}
theorem MN (h:n8 P t pl) (hf:pl[f]?=some (off,n)):∃ (fs:Array Field) (fl:Field) (z:Option Value) (b:Nat),P.underlying t=some (.struct fs)∧fs[f]?=some fl∧fl.offset=off∧∃ i,P.info? fl.type=some i∧i.size=n:=by
 obtain ⟨fs,h1,h2⟩:=h.ok;obtain ⟨fl,h3,h4⟩:=BG h2 hf;cases hi:P.info? fl.type with
 |none=>rw [hi] at h4;simp at h4
 |some i=>
  rw [hi] at h4;simp at h4;exact ⟨fs,fl,none,0,h1,by simpa using h3,h4.1,i,hi,h4.2⟩
theorem sY (h:n8 P t pl) (hf:pl[f]?=some (off,n)) (hn:n≠0)
 (ad:Addr) (w:World):(Instr.fieldAt t (.pointer (some ad)) f).run P w= .ok (.pointer (some (ad.add off))) w:=by
 obtain ⟨fs,fl,_,_,h1,h2,h3,i,h4,h5⟩:=MN h hf;subst h3;simp [Instr.fieldAt,run_underlying h1,h2,Instr.sureAddr,fieldPlace,sizeOf,typeInfo,h4,h5,hn]
variable {s:St} {x:Operand} {o:Nat}
theorem cf {id:Nat} [hF:n8 P t pl] (hx:s.eval x= .ptr id off)
 (hf:pl[f]?=some (o,n)) (hn:n≠0):PV P (.fieldAddr t x f) s (.ptr id (off+o)):=
 dW fun _ _ _ a _ h=>by
  have h1:=h.eval x;rw [hx] at h1;generalize he:a.eval x=y at h1;cases h1 with
  |ptr hb=>exact ⟨_,.ptr hb,fun w' _ _ _ _ _=>by simp [execOp,he,sY hF hf hn,Addr.fM]⟩
theorem cQ {cs:List AV} [hF:n8 P t pl] (hx:s.eval x= .bC cs)
 (hf:pl[f]?=some (o,n)) (hn:n≠0):PV P (.fieldAddr t x f) s (.bC (cs.drop o)):=
 dW fun _ _ _ a _ h=>by
  have h1:=h.eval x;rw [hx] at h1;generalize he:a.eval x=y at h1;cases h1 with
  |bC ys hl hr hs=>exact ⟨_,qn (.bC ys hl hr hs) _,fun w' _ _ _ _ _=>by simp [execOp,he,sY hF hf hn]⟩
end Go.Ab
namespace Go.Ab
variable {P:Program}
theorem dZ {c:Code} {s:St} {Q:Exit→St→Prop} {id j sz bw:Nat} {bk:iB} {es:List AV} (hb:bp s.hp id=some bk) (hx:bk.cs[j]?=some (.cD sz bw es)) (h:es.length * bw≤140737488355328→AW P c s Q):AW P c s Q:=by
 intro ro ho R β G a w hr;have h0:=hr.hp.blk id bk hb;unfold bZ at h0;cases hβ:β id with
 |no=>rw [hβ] at h0;exact h0.elim
 |nil=>rw [hβ] at h0;rw [h0.1] at hx;simp at hx
 |gh o=>
  rw [hβ] at h0;obtain ⟨outs,g5,g7,_⟩:=vD.view h0;have hj:j < outs.length:=by have:=bX hx;omega
  have hc:=g7 j _ _ hx (qa7 hj);generalize outs[j]=y at hc;cases hc with
  |cD ys hu hl hcc hbb hA hrd hs=>exact h hbb ro ho R β G a w hr
 |«at» b t=>
  rw [hβ] at h0;obtain ⟨_,_,arr,_,g4,g5,_,g7⟩:=h0;have hj:j < arr.size:=by have:=bX hx;omega
  have hc:=g7 j _ _ hx (qd1 hj);generalize arr[j]=y at hc;cases hc with
  |cD ys hu hl hcc hbb hA hrd hs=>exact h hbb ro ho R β G a w hr
end Go.Ab
namespace Go.Ab
theorem n1:type_of% @List.set_cons_zero:=@List.set_cons_zero
theorem n2:type_of% @List.set_cons_succ:=@List.set_cons_succ
theorem n3:type_of% @List.getD_cons_zero:=@List.getD_cons_zero
end Go.Ab
namespace Go.Ab
open Go.RowKit
variable {P:Program}
mutual
def AV.pW (m:Nat):AV→AV
 | .ptr i o=>.ptr (i+m) o
 | .sl a b i o n=>.sl a b (i+m) o n
 | .yl i y=>.yl (i+m) y
 | .agg cs=>.agg (AV.nN m cs)
 | .dC cs=>.dC (AV.nN m cs)
 | .fn f cs=>.fn f (AV.nN m cs)
 | .any=>.any
 | .v x=>.v x
 | .cD a b es=>.cD a b es
 | .bC cs=>.bC cs
def AV.nN (m:Nat):List AV→List AV
 |[]=>[]
 |x::r=>AV.pW m x::AV.nN m r
end
def lT (m:Nat):Hp→Hp
 |[]=>[]
 |(i,b)::r=>(i+m,{b with cs:=AV.nN m b.cs})::lT m r
def D5 (m:Nat) (β:c9):c9:=fun j=>if m≤j then β (j - m) else .no
theorem mE (m:Nat) (β:c9) (i:Nat):D5 m β (i+m)=β i:=by simp [D5]
theorem oc (m:Nat):∀ (l:List AV) (i:Nat),(AV.nN m l)[i]?=l[i]?.map (AV.pW m)
 |[],i=>by simp [AV.nN]
 |x::l,0=>by simp [AV.nN]
 |x::l,i+1=>by simp [AV.nN,oc m l i]
theorem od (m:Nat) (l:List AV):(AV.nN m l).length=l.length:=by
 induction l with
 |nil=>rfl
 |cons x l ih=>simp [AV.nN,ih]
variable {m:Nat} {x:AV}
theorem MO (h:x.gq=true):AV.pW m x=x:=by
 induction x using AV.rec (motive_2:=fun cs=>AV.cu cs=true→AV.nN m cs=cs) with
 |agg cs ih=>simp only [AV.gq] at h;simp only [AV.pW,ih h]
 |dC cs ih=>simp only [AV.gq] at h;simp only [AV.pW,ih h]
 |fn f cs ih=>simp only [AV.gq] at h;simp only [AV.pW,ih h]
 |ptr=>simp [AV.gq] at h
 |sl=>simp [AV.gq] at h
 |yl=>simp [AV.gq] at h
 |nil=>rfl
 |cons x r h1 h2=>rename_i h;simp only [AV.cu,qa1] at h;simp only [AV.nN,h1 h.1,h2 h.2]
 |_=>rfl
theorem w7 {l:List AV} (h:AV.cu l=true):AV.nN m l=l:=by
 induction l with
 |nil=>rfl
 |cons x l ih=>simp only [AV.cu,qa1] at h;simp only [AV.nN,MO h.1,ih h.2]
variable {G:bI} {β:c9} {y:Value}
theorem Conc.pW (h:Conc G β x y) (m:Nat):Conc G (D5 m β) (x.pW m) y:=by
 induction h with
 |any=>exact .any
 |v=>exact .v
 |agg xs hl _ ih=>
  refine .agg xs (by rw [od];exact hl) (fun j x y hx hy=>?_);rw [oc,qa6] at hx;obtain ⟨x0,hx0,rfl⟩:=hx;exact ih j x0 y hx0 hy
 |dC xs hl _ ih=>
  refine .dC xs (by rw [od];exact hl) (fun j x y hx hy=>?_);rw [oc,qa6] at hx;obtain ⟨x0,hx0,rfl⟩:=hx;exact ih j x0 y hx0 hy
 |fn xs hf hl _ ih=>
  refine .fn xs hf (by rw [od];exact hl) (fun j x y hx hy=>?_);rw [oc,qa6] at hx;obtain ⟨x0,hx0,rfl⟩:=hx;exact ih j x0 y hx0 hy
 |sZ _ ih=>simp only [AV.pW,AV.nN];exact .sZ ih
 |ptr h=>exact .ptr (by rw [mE];exact h)
 |lU h=>exact .lU (by rw [mE];exact h)
 |yl h=>exact .yl (by rw [mE];exact h)
 |sl h hn ht hm hb=>exact .sl (by rw [mE];exact h) hn ht hm hb
 |cD ys hu hl hc hb hA hr hs _=>exact .cD ys hu hl hc hb hA hr hs
 |bC ys hl hr hs _=>exact .bC ys hl hr hs
variable {id:Nat}
theorem w8:AV.cq id (x.pW m)=(decide (m≤id)&&AV.cq (id - m) x):=by
 induction x using AV.rec (motive_2:=fun cs=>AV.bz id (AV.nN m cs)=(decide (m≤id)&&AV.bz (id - m) cs)) with
 |agg cs ih=>simpa only [AV.pW,AV.cq] using ih
 |dC cs ih=>simpa only [AV.pW,AV.cq] using ih
 |fn f cs ih=>simpa only [AV.pW,AV.cq] using ih
 |ptr i o=>
  simp only [AV.pW,AV.cq];by_cases h:m≤id
  ·simp only [h,decide_true,qf4]
   by_cases h2:i=id - m
   ·have:i+m=id:=by omega
    rw [beq_iff_eq.2 this,beq_iff_eq.2 h2]
   have:¬i+m=id:=by omega
   rw [beq_eq_false_iff_ne.2 this,beq_eq_false_iff_ne.2 h2]
  have:¬i+m=id:=by omega
  simp [h,this]
 |yl i y=>
  simp only [AV.pW,AV.cq];by_cases h:m≤id
  ·simp only [h,decide_true,qf4]
   by_cases h2:i=id - m
   ·have:i+m=id:=by omega
    rw [beq_iff_eq.2 this,beq_iff_eq.2 h2]
   have:¬i+m=id:=by omega
   rw [beq_eq_false_iff_ne.2 this,beq_eq_false_iff_ne.2 h2]
  have:¬i+m=id:=by omega
  simp [h,this]
 |sl a b i o n=>
  simp only [AV.pW,AV.cq];by_cases h:m≤id
  ·simp only [h,decide_true,qf4]
   by_cases h2:i=id - m
   ·have:i+m=id:=by omega
    rw [beq_iff_eq.2 this,beq_iff_eq.2 h2]
   have:¬i+m=id:=by omega
   rw [beq_eq_false_iff_ne.2 this,beq_eq_false_iff_ne.2 h2]
  have:¬i+m=id:=by omega
  simp [h,this]
 |nil=>simp [AV.nN,AV.bz]
 |cons x r h1 h2=>simp only [AV.nN,AV.bz,h1,h2,Bool.and_or_distrib_left]
 |any=>simp [AV.pW,AV.cq]
 |v=>simp [AV.pW,AV.cq]
 |cD=>simp [AV.pW,AV.cq]
 |bC=>simp [AV.pW,AV.cq]
theorem GX {cs:List AV}:AV.bz id (AV.nN m cs)=(decide (m≤id)&&AV.bz (id - m) cs):=by
 have:=w8 (m:=m) (id:=id) (x:=.agg cs);simpa only [AV.pW,AV.cq] using this
theorem si {m id:Nat}:∀ {hp:Hp},cz id (lT m hp)=(decide (m≤id)&&cz (id - m) hp)
 |[]=>by simp [lT,cz]
 |(i,b)::r=>by
  have h:=si (m:=m) (id:=id) (hp:=r);simp only [lT,cz,GX,h];by_cases hm:m≤id
  ·simp only [hm,decide_true,qf4]
   by_cases h2:i=id - m
   ·have:i+m=id:=by omega
    rw [beq_iff_eq.2 this,beq_iff_eq.2 h2]
   have:¬i+m=id:=by omega
   rw [beq_eq_false_iff_ne.2 this,beq_eq_false_iff_ne.2 h2]
  have:¬i+m=id:=by omega
  simp [hm,this]
theorem og {m:Nat}:∀ {hp:Hp} {j:Nat} {bk:iB},bp (lT m hp) j=some bk→∃ i bk0,j=i+m∧bp hp i=some bk0∧bk={bk0 with cs:=AV.nN m bk0.cs}
 |[],j,bk,h=>by simp [lT,bp] at h
 |(i,b)::r,j,bk,h=>by
  simp only [lT,bp] at h;split at h
  ·rename_i e;injection h with h;exact ⟨i,b,e.symm,by simp [bp],h.symm⟩
  obtain ⟨i',bk0,h1,h2,h3⟩:=og h;refine ⟨i',bk0,h1,?_,h3⟩;simp only [bp];rw [if_neg ak];exact h2
variable {R:Rg} {hp:Hp} {w:World}
theorem dx.pW (h:dx R β G hp w) (m:Nat) (hno:∀ id,R.out id=none) (hidr:MP (D5 m β)):dx R (D5 m β) G (lT m hp) w:=by
 refine ⟨h.gs,fun id bk hi=>?_,fun i j b t t' hi hj hbi hbj=>?_,h.keeps,h.kH,hidr,fun i j b y y' h1 h2 hi hj hbi hbj=>?_⟩
 rotate_right
 ·obtain ⟨bi,hi0⟩:=qb0.1 hi
  obtain ⟨bj,hj0⟩:=qb0.1 hj;obtain ⟨i0,c1,rfl,k1,_⟩:=og hi0;obtain ⟨j0,c2,rfl,k2,_⟩:=og hj0;rw [mE] at hbi hbj;have hbig:∀ i c b y,bp hp i=some c→β i= .gh (some (b,y))→2000000000≤i:=fun i c b y hc hb=>by
   have:=h.blk i c hc;unfold bZ at this;rw [hb] at this;rcases this with ⟨_,h0,_⟩|⟨_,_,_,_,⟨_,_,h9⟩,_⟩
   ·rw [hno] at h0;cases h0
   exact h9
  rw [h.iC i0 j0 b y y' (hbig _ _ _ _ k1 hbi) (hbig _ _ _ _ k2 hbj) (by rw [k1];rfl) (by rw [k2];rfl) hbi hbj]
 ·obtain ⟨i,bk0,rfl,hi0,rfl⟩:=og hi
  have:=h.blk i bk0 hi0;unfold bZ at this ⊢;rw [mE];cases hβ:β i with
  |no=>rw [hβ] at this;exact this
  |nil=>rw [hβ] at this;exact ⟨by rw [this.1];rfl,this.2⟩
  |gh o=>
   rw [hβ] at this;rcases this with ⟨_,h0,_⟩|⟨b,es,clock,e0,e1,e2,e3,e4,e5⟩
   ·rw [hno] at h0;cases h0
   refine .inr ⟨b,es,clock,e0,⟨e1.1,e1.2.1,qd3 e1.2.2 (Nat.le_add_right _ _)⟩,e2,e3,by rw [od];exact e4,fun j x y hx hy=>?_⟩;rw [oc,qa6] at hx;obtain ⟨x0,hx0,rfl⟩:=hx;exact (e5 j x0 y hx0 hy).pW m
  |«at» b t=>
   rw [hβ] at this;obtain ⟨g1,g2,arr',g3,g4,g5,g6,g7⟩:=this;refine ⟨g1,g2,arr',g3,g4,by rw [od];exact g5,by rw [od];exact g6,fun j x y hx hy=>?_⟩;rw [oc,qa6] at hx;obtain ⟨x0,hx0,rfl⟩:=hx;exact (g7 j x0 y hx0 hy).pW m
 obtain ⟨bi,hbi0⟩:=qb0.1 hi;obtain ⟨bj,hbj0⟩:=qb0.1 hj;obtain ⟨i0,b0,rfl,k1,_⟩:=og hbi0;obtain ⟨j0,b1,rfl,k2,_⟩:=og hbj0;rw [mE] at hbi hbj;rw [h.inj i0 j0 b t t' (by rw [k1];rfl) (by rw [k2];rfl) hbi hbj]
def ke (ids:List Nat) (β:c9):c9:=fun i=>if i∈ids then β i else .no
variable {ids:List Nat}
theorem o9 (h:Conc G β x y) (hm:∀ id,AV.cq id x=true→id∈ids):Conc G (ke ids β) x y:=
 h.ext (fun id h=>by simp only [ke,hm id h,if_true]) fun _ _ h=>h
theorem dx.ke (h:dx R β G hp w) (hm:∀ id,cz id hp=true→id∈ids) (hno:∀ id,R.out id=none):dx R (ke ids β) G hp w:=by
 refine ⟨h.gs,fun i bk hi=>?_,fun i j b t t' hi hj hbi hbj=>?_,h.keeps,h.kH,fun i hi=>?_,h.iC.ext fun i _ hi=>⟨hi,by
  obtain ⟨c,hc⟩:=qb0.1 hi;simp only [Ab.ke,hm i (eG hc),if_true]⟩⟩
 ·have:=h.blk i bk hi
  unfold bZ at this ⊢;simp only [Ab.ke,hm i (eG hi),if_true];cases hβ:β i with
  |no=>rw [hβ] at this;exact this
  |nil=>rw [hβ] at this;exact this
  |gh o=>
   rw [hβ] at this;rcases this with ⟨_,h0,_⟩|⟨b,es,clock,e0,e1,e2,e3,e4,e5⟩
   ·rw [hno] at h0;cases h0
   exact .inr ⟨b,es,clock,e0,e1,e2,e3,e4,fun j x y hx hy=>o9 (e5 j x y hx hy) fun id hid=>hm id (gw hi (jg hx hid))⟩
  |«at» b t=>
   rw [hβ] at this;obtain ⟨g1,g2,arr',g3,g4,g5,g6,g7⟩:=this;exact ⟨g1,g2,arr',g3,g4,g5,g6,fun j x y hx hy=>o9 (g7 j x y hx hy) fun id hid=>hm id (gw hi (jg hx hid))⟩
 ·simp only [Ab.ke] at hbi hbj
  split at hbi
  ·split at hbj
   ·exact h.inj i j b t t' hi hj hbi hbj
   cases hbj
  cases hbi
 simp only [Ab.ke] at hi;split at hi
 ·exact h.kL i hi
 rcases hi with hi|⟨_,_,hi⟩<;>cases hi
theorem da.pW {f:FuncId} {args:List AV} {Q:AV→Hp→Prop} (h:da P f args ids Q) (m:Nat) {Q':AV→Hp→Prop} (hQ:∀ x hp,Q x hp→Q' (x.pW m) (lT m hp)):
 da P f args (ids.map (· +m)) Q':=by
 intro hle G w vals h1 h2;have hle':∀ id∈ids,id+m≤999999999:=fun id hid=>hle _ (qe7.2 ⟨id,hid,rfl⟩);refine (h (fun id hid=>by have:=hle' id hid;omega) G w vals h1 h2).mono fun e w' ⟨y,G',β',x,hp,he,hq,hwi,hcx,hrh⟩=>?_;have hin:∀ id,AV.cq id x=true∨cz id hp=true→id∈ids:=fun id hm=>by
  by_cases hi:id∈ids
  ·exact hi
  have:=hwi id hi;rcases hm with hm|hm
  ·rw [this.1] at hm;cases hm
  rw [this.2] at hm;cases hm
 have hcx:=o9 hcx fun id h=>hin id (.inl h);have hrh:=hrh.ke (fun id h=>hin id (.inr h)) fun _=>rfl;refine ⟨y,G',D5 m (ke ids β'),x.pW m,lT m hp,he,hQ x hp hq,fun id hid=>?_,hcx.pW m,hrh.pW m (fun _=>rfl) fun i hi=>?_⟩
 ·by_cases hm:m≤id
  ·have hni:id - m ∉ ids:=fun hi=>hid (qe7.2 ⟨id - m,hi,by omega⟩)
   have:=hwi (id - m) hni;rw [w8,si,this.1,this.2];simp
  rw [w8,si];simp [hm]
 simp only [D5] at hi;split at hi
 ·simp only [ke] at hi
  split at hi
  ·rename_i h1 h2;have:=hle' _ h2;omega
  rcases hi with hi|⟨_,_,hi⟩<;>cases hi
 rcases hi with hi|⟨_,_,hi⟩<;>cases hi
end Go.Ab
namespace Go.Ab
variable {P:Program}
theorem mF:∀ l:List AV,oh l l
 |[]=>.nil
 |_::l=>.keep (mF l)
variable {rs:Array ResultVar} {Q:AV→Hp→Prop} {e:Exit}
theorem MQ {ids:List Nat} {s s':St} (hle:Le s s') (h:fi P rs ids Q e s'):fi P rs ids Q e s:=by
 cases e with
 |normal=>obtain ⟨s2,x,h1,h2⟩:=h;exact ⟨s2,x,hle.trans h1,h2⟩
 |ret=>obtain ⟨s2,x,h1,h2⟩:=h;exact ⟨s2,x,hle.trans h1,h2⟩
 |_=>exact h
variable {hp:Hp}
theorem qW {fr:List AV} {i id sz bw n:Nat} {T:TypeId} {cs:List AV} {full:Bool} (hrs:rs=#[.tmp i]) (hx:fr[i]?=some (.sl sz bw id 0 n))
 (hb:bp hp id=some ⟨T,cs,full⟩) (hpu:AV.cu cs=true) (hQ:Q (.sl sz bw id 0 n) [(id,⟨T,cs,full⟩)]) (he:e= .ret∨e= .normal:=by first|exact .inl rfl|exact .inr rfl):fi P rs [id] Q e ⟨fr,hp⟩:=by
 have hh:iE hp [(id,⟨T,cs,full⟩)]:=by
  intro k b hk;simp only [bp] at hk;split at hk
  ·rename_i e;subst e;rw [← hk];exact hb
  cases hk
 have key:∃ s' x,Le ⟨fr,hp⟩ s'∧RV P rs s' x∧iA [id] x s'.hp∧Q x s'.hp:=
  ⟨⟨fr,[(id,⟨T,cs,full⟩)]⟩,.sl sz bw id 0 n,ea (mF fr) hh,by subst hrs;exact aX (aW hx),GV hpu,hQ⟩
 rcases he with rfl|rfl<;>exact key
theorem MR {f:List AV} (i sz bw:Nat) (hx:f[i]?=some .fO):Le ⟨f,hp⟩ ⟨f.set i (.cD sz bw []),hp⟩:=by
 intro R β G a w h;refine ⟨β,G,h.defers,by simpa using h.size,fun j x y hj hy=>?_,h.hp⟩;rw [qi2] at hj;by_cases hij:i=j
 ·subst hij
  simp only [if_true] at hj;split at hj<;>simp at hj;subst hj;have:=fz (h.fr i _ y hx hy);exact this ▸ .cD (es:=[]) (c:=0) [] aC aC aC aC aC aC aC
 simp only [hij,if_false] at hj;exact h.fr j x y hj hy
end Go.Ab
namespace Go.Ab
open Go.RowKit
variable {P:Program}
def AV.om (id sz bw n:Nat) (es:List AV) (x:AV):AV:=
 match x with
 | .sl a b i o k=>if i=id then (if a=sz∧b=bw∧o=0∧k=n then .cD sz bw es else .any) else .sl a b i o k
 |x=>AV.dN id x
def AV.dT (id sz bw n:Nat) (es:List AV):List AV→List AV
 |[]=>[]
 |x::r=>AV.om id sz bw n es x::AV.dT id sz bw n es r
theorem sealS_any (id sz bw n:Nat) (es:List AV):AV.om id sz bw n es .any= .any:=rfl
theorem sealS_v (id sz bw n:Nat) (es:List AV) (x:Value):AV.om id sz bw n es (.v x)= .v x:=rfl
theorem sealS_isl (id sz bw n:Nat) (es:List AV) (a b:Nat) (l:List AV):AV.om id sz bw n es (.cD a b l)= .cD a b l:=rfl
theorem sealS_iptr (id sz bw n:Nat) (es:List AV) (l:List AV):AV.om id sz bw n es (.bC l)= .bC l:=rfl
theorem di (id sz bw n:Nat) (es:List AV) (i o:Nat):AV.om id sz bw n es (.ptr i o)=if i=id then .any else .ptr i o:=oo id i o
theorem dz (id sz bw n:Nat) (es:List AV) (a b i o k:Nat):AV.om id sz bw n es (.sl a b i o k)=if i=id then (if a=sz∧b=bw∧o=0∧k=n then .cD sz bw es else .any) else .sl a b i o k:=rfl
theorem sealS_agg (id sz bw n:Nat) (es:List AV) (l:List AV):AV.om id sz bw n es (.agg l)=AV.dN id (.agg l):=rfl
theorem sealS_tup (id sz bw n:Nat) (es:List AV) (l:List AV):AV.om id sz bw n es (.dC l)=AV.dN id (.dC l):=rfl
theorem sealS_fn (id sz bw n:Nat) (es:List AV) (f:FuncId) (l:List AV):AV.om id sz bw n es (.fn f l)=AV.dN id (.fn f l):=rfl
theorem purge_agg (id:Nat) (l:List AV):AV.dN id (.agg l)=if AV.bz id l then .any else .agg l:=rfl
theorem purge_tup (id:Nat) (l:List AV):AV.dN id (.dC l)=if AV.bz id l then .any else .dC l:=rfl
theorem purge_fn (id:Nat) (f:FuncId) (l:List AV):AV.dN id (.fn f l)=if AV.bz id l then .any else .fn f l:=rfl
theorem w9 (id sz bw n:Nat) (es:List AV):∀ (l:List AV) (i:Nat),(AV.dT id sz bw n es l)[i]?=l[i]?.map (AV.om id sz bw n es)
 |[],i=>by simp [AV.dT]
 |x::l,0=>by simp [AV.dT]
 |x::l,i+1=>by simp [AV.dT,w9 id sz bw n es l i]
theorem D6 (id sz bw n:Nat) (es:List AV) (l:List AV):(AV.dT id sz bw n es l).length=l.length:=by
 induction l with
 |nil=>rfl
 |cons x l ih=>simp [AV.dT,ih]
theorem BH (id sz bw n:Nat) (es:List AV) (x:AV):AV.om id sz bw n es x=AV.dN id x∨(x= .sl sz bw id 0 n∧AV.om id sz bw n es x= .cD sz bw es):=by
 cases x with
 |sl a b i o k=>
  rw [dz,qo];by_cases hi:i=id
  ·rw [if_pos hi,if_pos hi]
   by_cases hq:a=sz∧b=bw∧o=0∧k=n
   ·rw [if_pos hq];obtain ⟨rfl,rfl,rfl,rfl⟩:=hq;subst hi;exact .inr ⟨rfl,rfl⟩
   rw [if_neg hq];exact .inl rfl
  rw [if_neg hi,if_neg hi];exact .inl rfl
 |_=>exact .inl rfl
theorem D7 {f:List AV} {hp:Hp} (id sz bw n:Nat) {bk:iB} (es:List AV) (hb:bp hp id=some bk) (hes:es.flatMap AV.cells=bk.cs)
 (hu:∀ e∈es,e.cells.length=sz) (hn:es.length=n) (hp1:AV.cu bk.cs=true) (hsz:0 < sz):Le ⟨f,hp⟩ ⟨AV.dT id sz bw n es f,eQ id hp⟩:=by
 intro R β G a w h;have h0:=h.hp.blk id bk hb;unfold bZ at h0;have hoth:∀ j,j≠id→(β.set id .no) j=β j:=fun j hj=>by simp [c9.set,hj]
 have fin:∀ (G':bI),(∀ b o,G b=some o→G' b=some o)→(∀ b o,G' b=some o→w.heap[b]?=some o)→(∀ b,G' b≠none→R.g0 b≠none∨R.w0.heap.size≤b∨R.ex b)→
  (∀ j bk' b t,j≠id→bp hp j=some bk'→β j= .at b t→G' b=none)→(∀ y,Conc G β (.sl sz bw id 0 n) y→Conc G' na (.cD sz bw es) y)→∃ β' G',fw R β' G' ⟨AV.dT id sz bw n es f,eQ id hp⟩ a w:=by
  intro G' hm hgs hdom hfree hc;refine ⟨β.set id .no,G',h.defers.mono hm,by rw [D6];exact h.size,fun j x y hj hy=>?_,⟨hgs,fun j bk' hj=>?_,fun j k b t t' hj hk hbj hbk=>?_,h.hp.keeps,hdom,h.hp.kL.gone,h.hp.iC.dN _⟩⟩
  ·rw [w9,qa6] at hj
   obtain ⟨x0,hx0,rfl⟩:=hj;rcases BH id sz bw n es x0 with h1|⟨rfl,h1⟩
   ·rw [h1];exact ((h.fr j x0 y hx0 hy).mono hm).lO hoth
   rw [h1];exact (hc y (h.fr j _ y hx0 hy)).free _
  ·rw [fA] at hj
   by_cases hid:id=j
   ·simp [hid] at hj
   simp only [hid,if_false,qa6] at hj;obtain ⟨bk1,hj1,rfl⟩:=hj;have:=h.hp.blk j bk1 hj1;unfold bZ at this ⊢;rw [hoth j (Ne.symm hid)];cases hβ:β j with
   |no=>rw [hβ] at this;exact this
   |nil=>rw [hβ] at this;exact ⟨by rw [this.1];rfl,this.2⟩
   |«at» b t=>
    rw [hβ] at this;obtain ⟨g1,g2,arr,g3,g4,g5,g6,g7⟩:=this;refine ⟨hfree j bk1 b t (Ne.symm hid) hj1 hβ,g2,arr,g3,g4,by simpa [dA] using g5,by simpa [dA] using g6,fun k x y hx hy=>?_⟩;simp only [ja,qa6] at hx;obtain ⟨x0,hx0,rfl⟩:=hx;exact ((g7 k x0 y hx0 hy).mono hm).lO hoth
   |gh o=>rw [hβ] at this;exact qX this hm (AV.dN id) (fun x _ y hc=>(hc.mono hm).lO hoth) _ (uI _ _)
  have key:∀ j b t,(β.set id .no) j= .at b t→j≠id:=fun j b t hb e=>by subst e;simp [c9.set] at hb
  have n1:=key j b t hbj;have n2:=key k b t' hbk;rw [hoth j n1] at hbj;rw [hoth k n2] at hbk;rw [fA,if_neg (Ne.symm n1)] at hj;rw [fA,if_neg (Ne.symm n2)] at hk;exact h.hp.inj j k b t t' (by simpa using hj) (by simpa using hk) hbj hbk
 cases hβ:β id with
 |no=>rw [hβ] at h0;exact h0.elim
 |gh o=>
  refine fin G (fun _ _ h=>h) h.hp.gs h.hp.kH (fun j bk' b t _ hj hbj=>(h.hp.block hj hbj).1) fun y hc=>?_;cases hc with
  |lU hb'=>rw [hβ] at hb';cases hb'
  |sl hb'=>rw [hβ] at hb';cases hb'
 |nil=>
  rw [hβ] at h0;have he:es=[]:=by
   cases es with
   |nil=>rfl
   |cons e es=>
    have h1:=hes;rw [h0.1,qd5] at h1;have h2:e.cells=[]:=(List.append_eq_nil_iff.1 h1).1;have:=hu e aC;rw [h2] at this;simp at this;omega
  refine fin G (fun _ _ h=>h) h.hp.gs h.hp.kH (fun j bk' b t _ hj hbj=>(h.hp.block hj hbj).1) fun y hc=>?_;subst he;cases hc with
  |lU _=>exact .cD (es:=[]) [] aC aC aC aC aC aC aC
  |sl hb'=>rw [hβ] at hb';cases hb'
 |«at» b t=>
  rw [hβ] at h0;obtain ⟨g1,g2,arr,g3,g4,g5,g6,g7⟩:=h0;have hm:∀ k o,G k=some o→(G.set b (.cells arr bk.T (0,0))) k=some o:=fun k o hk=>by
   simp only [bI.set];rw [if_neg (by rintro rfl;rw [g1] at hk;cases hk)];exact hk
  refine fin (G.set b (.cells arr bk.T (0,0))) hm (fun k o hk=>?_) (fun k hk=>?_) (fun j bk' b' t' hne hj hbj=>?_) fun y hc=>?_
  ·simp only [bI.set] at hk
   split at hk
   ·rename_i e;subst e;injection hk with hk;subst hk;exact g3
   exact h.hp.gs k o hk
  ·simp only [bI.set] at hk
   split at hk
   ·rename_i e;subst e;exact .inr g2
   exact h.hp.kH k hk
  ·have hbb:b'≠b:=fun e=>by subst e;exact hne (h.hp.inj j id b' t' t (by rw [hj];rfl) (by rw [hb];rfl) hbj hβ)
   simp only [bI.set];rw [if_neg hbb];exact (h.hp.block hj hbj).1
  cases hc with
  |lU hb'=>rw [hβ] at hb';cases hb'
  |@sl _ _ _ _ _ _ c b' t' hb' hnc ht hcm hbw=>
   rw [hβ] at hb';injection hb' with e1 e2;subst e1;subst e2
   subst hn;have hfl:(es.flatMap AV.cells).length=es.length * sz:=kc hu;have hle:es.length * sz≤arr.size:=by rw [← hfl,hes,g4];exact g5
   refine .cD (arr.toList.take (es.length * sz)) hu aO hnc hbw (fun _=>by simp) (fun j v hv=>⟨_,rfl,?_⟩) (fun j u v hu' hv=>?_)
   ·have hj:j < es.length * sz:=by have:=bX hv;simp at this;omega
    simp only [qc3,hj,if_true,qg4] at hv;rw [Addr.fM];simpa [ep,bI.set] using hv
   have hj:j < es.length * sz:=by have:=bX hv;simp at this;omega
   simp only [qc3,hj,if_true,qg4] at hv;rw [hes] at hu';exact ((g7 j u v hu' hv).oq (gB hp1 hu') na).mono hm
end Go.Ab
namespace Go.Ab
open Go.RowKit
variable {P:Program}
mutual
def AV.plain:AV→Bool
 | .any=>true
 | .v _=>true
 | .agg cs=>AV.qp cs
 | .dC cs=>AV.qp cs
 | .fn _ cs=>AV.qp cs
 | .cD _ _ _=>false
 | .bC _=>false
 | .ptr _ _=>false
 | .yl _ _=>false
 | .sl _ _ _ _ _=>false
def AV.qp:List AV→Bool
 |[]=>true
 |x::r=>AV.plain x&&AV.qp r
end
theorem pc:∀ {cs:List AV} {j:Nat} {x:AV},AV.qp cs=true→cs[j]?=some x→AV.plain x=true
 |[],_,_,_,h=>by simp at h
 |c::cs,0,x,h,hx=>by simp at hx;subst hx;simp [AV.qp] at h;exact h.1
 |c::cs,j+1,x,h,hx=>by simp at hx;simp [AV.qp] at h;exact pc h.2 hx
theorem Conc.plain {G G':bI} {β β':c9} {x:AV} {y:Value} (h:Conc G β x y) (hp:x.plain=true):Conc G' β' x y:=by
 induction h with
 |any=>exact .any
 |v=>exact .v
 |agg xs hl _ ih=>exact .agg xs hl fun j x y hx hy=>ih j x y hx hy (pc (by simpa [AV.plain] using hp) hx)
 |dC xs hl _ ih=>exact .dC xs hl fun j x y hx hy=>ih j x y hx hy (pc (by simpa [AV.plain] using hp) hx)
 |fn xs hf hl _ ih=>exact .fn xs hf hl fun j x y hx hy=>ih j x y hx hy (pc (by simpa [AV.plain] using hp) hx)
 |sZ _ ih=>exact .sZ (ih (by simpa [AV.plain,AV.qp] using hp))
 |_=>simp [AV.plain] at hp
variable {d:Option Tmp} {f:FuncId} {args:Array Operand} {s s':St} {K:St→Prop} {Q:AV→Prop} {L:List AV}
theorem sj {fx:Array TypeId} {ty:TypeId} {pos:String} {bF:Array Edge} {g:Option (Nat×Bool)} [hc:cI P f]
 (hle:Le s s') (hev:cv s' args=L) (h:bm P f L Q) (hp:AV.cu L=true) (hk:∀ x,Q x→x.plain=true∧K (s.put d x)):dJ P ⟨d,.call {callee:=.value (.func f),args,argTypes:=fx},ty,pos,bF,g⟩ s K:=by
 intro R β G a w Q' hr;have hrun:(execOp a.eval ⟨d,.call {callee:=.value (.func f),args,argTypes:=fx},ty,pos,bF,g⟩).run P w= .ok (.enter f (args.map a.eval)) w:=by simp [execOp,resolve,Act.eval,Deferred.ofValue,invoke,hc.ok]
 unfold Oper.wp;rw [hrun,Oper.upon_enter];subst hev;obtain ⟨β1,G1,hr1⟩:=hle R β G a w hr;have:=h G1 w (args.map a.eval).toList hr1.hp.gs (o5 hr1 args hp);simp only [qf5] at this;refine this.mono fun e w' ⟨y,G',x,he,hQ,hcx,hd,hG',hext⟩=>?_;subst he;obtain ⟨hpl,hK⟩:=hk x hQ;obtain ⟨G'',hr',hm⟩:=hr.later hext (sh hr.hp.gs hext) (fun b hb=>.inl hb);exact ⟨hext,β,G'',_,hK,hr'.put d (hcx.plain hpl)⟩
theorem jU {fx:Array TypeId} {ty:TypeId} {pos:String} {bF:Array Edge} {g:Option (Nat×Bool)} [hc:cI P f]
 (hle:Le s s') (hev:cv s' args=L) (h:bm P f L Q) (hp:AV.cu L=true) (hk:∀ x,Q x→x.plain=true∧K (s.put d x)):ff P ⟨d,.call {callee:=.value (.func f),args,argTypes:=fx},ty,pos,bF,g⟩ s K:=
 ka (sj hle hev h hp hk)
theorem dL {α:Type} {f:α→AV} {fr:List AV} {hp:Hp} (id sz bw n:Nat) {T:TypeId} {cs:List AV} {full:Bool} (xs:List α) (hb:bp hp id=some ⟨T,cs,full⟩) (hcs:(xs.map f).flatMap AV.cells=cs) (hn:xs.length=n)
 (hc:∀ a,(f a).cells.length=sz) (hpu:∀ a,AV.cu (f a).cells=true) (hs:0 < sz):Le ⟨fr,hp⟩ ⟨AV.dT id sz bw n (xs.map f) fr,eQ id hp⟩:=
 D7 id sz bw n (xs.map f) hb hcs (fun e he=>by obtain ⟨a,_,rfl⟩:=qe7.1 he;exact hc a) (by simpa using hn) (by
  subst hcs;rw [qg9];exact gu _ xs hpu) hs
end Go.Ab
namespace Go.Ab
theorem jV (xs:List Int):(xs.map AV.int).flatMap AV.cells=xs.map AV.int:=lq (fun _=>rfl) xs
end Go.Ab
namespace Go.Ab
open Go.RowKit
variable {P:Program}
inductive Af where
 |other
 |bool
 |int (k:IntKind)
 |sl (e:Nat)
 |ar (N e:Nat) (i2:Bool)
 |st (pl:List (Nat×Nat)) (e2:Bool)
 |str
structure TI where
 agg:Bool
 n:Nat
 b:Nat
 z:List AV
 k:Af
def PJ (P : Program) (t : TypeId) (f1 f2 : Field) : Bool := decide (f1.offset = 0) && decide (f2.offset = 1) && !(f1.name == "_" || f2.name == "_") && !P.stoodInHeld t && !P.eqGuardType P.depth t
def GY (P:Program) (t:TypeId) (d:TypeDesc):Af→Prop
 | .other=>True
 | .bool=>d= .bool
 | .int k=>d= .int k
 | .str=>d= .string
 | .sl e=>d= .slice e
 | .ar N e i2=>d= .array N e∧(i2=true→N=2∧(∃ k,cT P e (.int k))∧P.eqGuardType P.depth t=false∧P.cellsOf e=1∧(P.info? e).isSome=true)
 | .st pl e2=>n8 P t pl∧(e2=true→∃ f1 f2 k1 k2,d= .struct #[f1,f2]∧cT P f1.type (.int k1)∧cT P f2.type (.int k2)∧PJ P t f1 f2=true)
def D8 (P:Program) (t:TypeId) (i:TI):Prop:=∃ d z,cT P t d∧dI P t z i.n i.b∧l8 d=i.agg∧(AV.dY z).cells=i.z∧GY P t d i.k
class Tb (P:Program) (bh:outParam (Nat→Option TI)):Prop where
 ok:∀ t i,bh t=some i→D8 P t i
inductive PR where
 |ok (x:AV)
 |ex (c:Prop) [dc:Decidable c] (f:c→AV)
 |no
def wm (P:Program) (op:Op) (s:St):PR→Prop
 | .ok x=>PV P op s x
 |@PR.ex c _ f=>∀ h:c,PV P op s (f h)
 | .no=>True
def rJ (f:Int→Int→PR):AV→AV→PR
 | .v (.int .i64 n),.v (.int .i64 m)=>f n m
 |_,_=>.no
def s6 (f:Int→Int→Bool):AV→AV→PR
 | .v (.int k n),.v (.int k' m)=>if k=k' then .ok (.bool (f n m)) else .no
 |_,_=>.no
def s7 (f:IntKind→Int→Int→Int):AV→AV→PR
 | .v (.int k n),.v (.int k' m)=>if k=k' then .ok (.v (.int k (f k n m))) else .no
 |_,_=>.no
def ME (neg r:Bool):PR:=.ok (.bool (if neg then !r else r))
def s9 (neg:Bool):Option TI→AV→AV→PR
 |_,.v (.int k n),.v (.int k' m)=>if k=k' then .ok (.bool (if neg then n != m else n == m)) else .no
 |_,.v (.string a),.v (.string b)=>ME neg (a.toList == b.toList)
 |some ⟨_,_,_,_,.bool⟩,.v (.bool a),.v (.bool b)=>ME neg (a == b)
 |some ⟨_,_,_,_,.st _ true⟩,.agg [.v (.int .i64 a),.v (.int .i64 b)],.agg [.v (.int .i64 c),.v (.int .i64 d)]=>ME neg (a == c&&b == d)
 |some ⟨_,_,_,_,.ar _ _ true⟩,.agg [.v (.int .i64 a),.v (.int .i64 b)],.agg [.v (.int .i64 c),.v (.int .i64 d)]=>ME neg (a == c&&b == d)
 |_,_,_=>.no
def kb:IntKind→Int
 | .i64=>64
 | .u64=>64
 | .i32=>32
 | .u32=>32
 | .i16=>16
 | .u16=>16
 | .i8=>8
 | .u8=>8
theorem Fw (k:IntKind):kb k=(k.bits:Int):=by cases k<;>rfl
def yK:IntKind→Int→Prop
 | .i64,n=>-9223372036854775808≤n∧n≤9223372036854775807
 | .u64,n=>0≤n∧n≤18446744073709551615
 | .i32,n=>-2147483648≤n∧n≤2147483647
 | .u32,n=>0≤n∧n≤4294967295
 | .i16,n=>-32768≤n∧n≤32767
 | .u16,n=>0≤n∧n≤65535
 | .i8,n=>-128≤n∧n≤127
 | .u8,n=>0≤n∧n≤255
instance (k:IntKind) (n:Int):Decidable (yK k n):=by cases k<;>(simp only [yK];infer_instance)
variable {k:IntKind} {n:Int}
theorem BI (h:yK k n):k.wrap n=n:=by
 cases k<;>simp only [yK] at h<;>simp [IntKind.wrap,IntKind.bits,IntKind.signed]<;>omega
def PK:AV→AV→PR
 | .v (.int k a),.v (.int _ b)=>.ex ((0≤b∧b≤kb k)∧yK k (a * 2 ^ b.toNat)) fun _=>.v (.int k (a * 2 ^ b.toNat))
 |_,_=>.no
def PM:AV→AV→PR
 | .v (.int k a),.v (.int _ b)=>.ex (0≤b∧b≤kb k) fun _=>.v (.int k (a / 2 ^ b.toNat))
 |_,_=>.no
def fP (bh:Nat→Option TI) (op:BinOp) (t:TypeId) (x y:AV):PR:=
 match op with
 | .lss=>s6 (fun n m=>decide (n < m)) x y
 | .leq=>s6 (fun n m=>decide (n≤m)) x y
 | .gtr=>s6 (fun n m=>decide (m < n)) x y
 | .geq=>s6 (fun n m=>decide (m≤n)) x y
 | .add=>rJ (fun n m=>.ex (-9223372036854775808≤n+m∧n+m≤9223372036854775807) fun _=>.int (n+m)) x y
 | .sub=>rJ (fun n m=>.ex (-9223372036854775808≤n - m∧n - m≤9223372036854775807) fun _=>.int (n - m)) x y
 | .mul=>rJ (fun n m=>.ex (-9223372036854775808≤n * m∧n * m≤9223372036854775807) fun _=>.int (n * m)) x y
 | .eql=>s9 false (bh t) x y
 | .neq=>s9 true (bh t) x y
 | .shl=>PK x y
 | .shr=>PM x y
 | .quo=>rJ (fun n m=>.ex (m≠0∧-9223372036854775808≤n.tdiv m∧n.tdiv m≤9223372036854775807) fun _=>.int (n.tdiv m)) x y
 | .rem=>rJ (fun n m=>.ex (m≠0) fun _=>.int (n.tmod m)) x y
 | .and=>s7 (fun k n m=>bits .and k n m) x y
 | .or=>s7 (fun k n m=>bits .or k n m) x y
 | .xor=>s7 (fun k n m=>bits .xor k n m) x y
 | .andNot=>s7 (fun k n m=>bits .andNot k n m) x y
def xb:Option TI→Option TI→AV→PR
 |some _,some ⟨_,_,_,_,.int k⟩,.v (.int _ n)=>.ex (yK k n) fun _=>.v (.int k n)
 |_,_,_=>.no
def BJ:AV→PR
 | .v (.bool b)=>.ok (.bool (!b))
 |_=>.no
def BL:AV→PR
 | .v (.int .i64 n)=>.ex (-9223372036854775808≤-n∧-n≤9223372036854775807) fun _=>.int (-n)
 |_=>.no
def eR (b:Bool):AV→AV→PR
 | .v (.bool p),.v (.bool q)=>.ok (.bool (if b then p else q))
 |x,y=>.ok (if b then x else y)
def xe:AV→AV→AV→PR
 | .v (.bool b),x,y=>eR b x y
 |_,_,_=>.no
def Fx:Option AV→PR
 |some c=>.ok c
 |none=>.no
def ot (i:Nat):AV→PR
 | .dC cs=>Fx cs[i]?
 |_=>.no
def R2 (i:TI) (off:Nat):Option iB→PR
 |some ⟨_,cs,_⟩=>if i.agg=true then .ex (off+i.n≤cs.length) (fun _=>.agg ((cs.drop off).take i.n)) else .ex (off < cs.length) (fun h=>cs[off]'h)
 |none=>.no
def R3 (i:TI) (cs:List AV):PR:=
 if i.agg=true then .ex (i.n≤cs.length) (fun _=>.agg (cs.take i.n)) else .ex (0 < cs.length) (fun h=>cs[0]'h)
def pd (hp:Hp):Option TI→AV→PR
 |some i,.ptr id off=>R2 i off (bp hp id)
 |some i,.bC cs=>R3 i cs
 |_,_=>.no
def ou (x:AV):Option (Nat×Nat)→PR
 |some (o,n)=>if n=0 then .no else
  match x with
  | .ptr id off=>.ok (.ptr id (off+o))
  | .bC cs=>.ok (.bC (cs.drop o))
  |_=>.no
 |none=>.no
def I9 (f:Nat):Option TI→AV→PR
 |some ⟨_,_,_,_,.st pl _⟩,x=>ou x pl[f]?
 |_,_=>.no
def uJ:Option TI→Int→AV→PR
 |some i,n,.cD sz _ es=>if sz=i.n then .ex (0≤n∧n.toNat < es.length) (fun h=>.bC (es[n.toNat]'h.2).cells) else .no
 |some i,n,.sl sz _ id off len=>if sz=i.n then .ex (0≤n∧n.toNat < len) (fun _=>.ptr id (off+n.toNat * sz)) else .no
 |_,_,_=>.no
def lP (N:Nat):Option TI→Int→AV→PR
 |some i,n,.ptr id off=>.ex (0≤n∧n.toNat < N) (fun _=>.ptr id (off+n.toNat * i.n))
 |some i,n,.bC cs=>.ex (0≤n∧n.toNat < N) (fun _=>.bC (cs.drop (n.toNat * i.n)))
 |_,_,_=>.no
def y9 (bh:Nat→Option TI):Option TI→AV→AV→PR
 |some ⟨_,_,_,_,.sl e⟩,x,.v (.int .i64 n)=>uJ (bh e) n x
 |some ⟨_,_,_,_,.ar N e _⟩,x,.v (.int .i64 n)=>lP N (bh e) n x
 |_,_,_=>.no
def vE:Option TI→AV→PR
 |some ⟨_,_,_,_,.sl _⟩,.cD _ _ es=>.ok (.int es.length)
 |some ⟨_,_,_,_,.sl _⟩,.sl _ _ _ _ n=>.ok (.int n)
 |some ⟨_,_,_,_,.sl _⟩,.v (.slice _ n _)=>.ok (.int n)
 |some ⟨_,_,_,_,.str⟩,.v (.string b)=>.ok (.int b.size)
 |_,_=>.no
def Fy (N:Nat) (cs:List AV) (n:Int):Option TI→PR
 |some ⟨false,1,_,_,_⟩=>.ex (0≤n∧n < N∧n.toNat < cs.length) fun h=>cs[n.toNat]'h.2.2
 |_=>.no
def qY (bh:Nat→Option TI):Option TI→AV→AV→PR
 |some ⟨_,_,_,_,.str⟩,.v (.string b),.v (.int .i64 n)=>.ex (0≤n∧n.toNat < b.size) fun h=>.v (.int .u8 (b[n.toNat]'h.2).toNat)
 |some ⟨_,_,_,_,.ar N e _⟩,.agg cs,.v (.int .i64 n)=>Fy N cs n (bh e)
 |_,_,_=>.no
def qZ (bh:Nat→Option TI) (ps:List (Nat×AV)):Option TI→PR
 |some ⟨_,_,_,z,.st pl _⟩=>.ex (eU (fun i=>pl[i]?) z.length ps=true) (fun _=>.agg (iu (fun i=>(pl[i]?).map (·.1)) z ps))
 |some ⟨_,_,_,z,.ar _ e _⟩=>match bh e with
  |some i=>.ex (eU (fun k=>some (k * i.n,i.n)) z.length ps=true) (fun _=>.agg (iu (fun k=>some (k * i.n)) z ps))
  |none=>.no
 |_=>.no
def xf:AV→PR
 | .ptr i o=>.ok (.ptr i o)
 | .bC cs=>.ok (.bC cs)
 | .fn f cs=>.ok (.fn f cs)
 |_=>.no
def GZ (f:FuncId) (caps:List AV):Bool→PR
 |true=>if f≤999999999 then .ok (.fn f caps) else .no
 |false=>.no
def yL:Option TI→Option Nat
 |some ⟨_,_,_,_,.sl e⟩=>some e
 |_=>none
def Fz (sz bw id off n:Nat):AV:=if n=0 then .cD sz bw [] else .sl sz bw id off n
def qq (off k:Nat):Option iB→Prop
 |some b=>off+k≤b.cs.length
 |none=>False
instance (off k:Nat) (b:Option iB):Decidable (qq off k b):=by cases b<;>(simp only [qq];infer_instance)
def gj (hp:Hp) (bh:Nat→Option TI):Option Nat→AV→Option AV→Option AV→PR
 |some e,.cD sz bw es,some (.v (.int .i64 n)),none=>match bh e with
  |some i=>if sz=i.n then .ex (0≤n∧n≤es.length) (fun _=>.cD sz bw (es.drop n.toNat)) else .no
  |none=>.no
 |some e,.cD sz bw es,none,some (.v (.int .i64 n))=>match bh e with
  |some i=>if sz=i.n then .ex (0≤n∧n≤es.length) (fun _=>.cD sz bw (es.take n.toNat)) else .no
  |none=>.no
 |some e,.cD sz bw es,some (.v (.int .i64 n)),some (.v (.int .i64 m))=>match bh e with
  |some i=>if sz=i.n then .ex (0≤n∧n≤m∧m≤es.length) (fun _=>.cD sz bw ((es.take m.toNat).drop n.toNat)) else .no
  |none=>.no
 |some e,.sl sz bw id off k,none,some (.v (.int .i64 m))=>match bh e with
  |some i=>if sz=i.n then .ex (0≤m∧m≤k) (fun _=>.sl sz bw id off m.toNat) else .no
  |none=>.no
 |some e,.sl sz bw id off k,some (.v (.int .i64 n)),none=>match bh e with
  |some i=>if sz=i.n then .ex (0 < sz∧0≤n∧n≤k) (fun _=>Fz sz bw id (off+n.toNat * sz) (k - n.toNat)) else .no
  |none=>.no
 |some e,.sl sz bw id off _,some (.v (.int .i64 n)),some (.v (.int .i64 m))=>match bh e with
  |some i=>if sz=i.n then .ex (0 < sz∧0≤n∧n≤m∧qq off (m.toNat * sz) (bp hp id)∧m.toNat * bw≤140737488355328) (fun _=>Fz sz bw id (off+n.toNat * sz) (m.toNat - n.toNat)) else .no
  |none=>.no
 |_,_,_,_=>.no
def hJ (bh:Nat→Option TI):Option Nat→AV→Option AV→Option AV→Option AV→PR
 |some e,.sl sz _ _ _ k,some (.v (.int .i64 n)),some (.v (.int .i64 m)),some (.v (.int .i64 x))=>match bh e with
  |some i=>if sz=i.n then .ex (0≤n∧n≤m∧m≤x∧x≤k) (fun _=>.any) else .no
  |none=>.no
 |_,_,_,_,_=>.no
def oZ (bh:Nat→Option TI) (op:Op) (s:St):PR:=
 match op with
 | .move x=>.ok (s.eval x)
 | .assign x=>.ok (s.eval x)
 | .pick c x y=>xe (s.eval c) (s.eval x) (s.eval y)
 | .binOp b t x y _=>fP bh b t (s.eval x) (s.eval y)
 | .unOp .not _ x=>BJ (s.eval x)
 | .unOp .neg _ x=>BL (s.eval x)
 | .extract x i=>ot i (s.eval x)
 | .load t x=>pd s.hp (bh t) (s.eval x)
 | .fieldAddr t x f=>I9 f (bh t) (s.eval x)
 | .indexAddr t x i=>y9 bh (bh t) (s.eval x) (s.eval i)
 | .build t ps=>qZ bh (bM s ps) (bh t)
 | .nilCheck x=>xf (s.eval x)
 | .makeFunc (.func f) ⟨[]⟩ caps=>GZ f (cv s caps) (AV.cu (cv s caps))
 | .slice t x lo hi none=>gj s.hp bh (yL (bh t)) (s.eval x) (lo.map s.eval) (hi.map s.eval)
 | .slice t x lo hi (some m)=>hJ bh (yL (bh t)) (s.eval x) (lo.map s.eval) (hi.map s.eval) (some (s.eval m))
 | .convert t u x=>xb (bh t) (bh u) (s.eval x)
 | .index t x i=>qY bh (bh t) (s.eval x) (s.eval i)
 | .call ⟨.builtin .len,⟨[x]⟩,⟨[t]⟩⟩=>vE (bh t) (s.eval x)
 | .call ⟨.builtin .min,⟨[x,y]⟩,_⟩=>rJ (fun a b=>.ok (.int (min a b))) (s.eval x) (s.eval y)
 | .call ⟨.builtin .max,⟨[x,y]⟩,_⟩=>rJ (fun a b=>.ok (.int (max a b))) (s.eval x) (s.eval y)
 |_=>.no
variable {t e:TypeId}
theorem BM (hu:cT P t (.array 2 e)) (h1:cT P e (.int k)) (hc:P.cellsOf e=1) (hs:(P.info? e).isSome=true) (a b c d:Int) (w:World):
 (Op.equalIn 10000 t (.agg #[.int .i64 a,.int .i64 b]) (.agg #[.int .i64 c,.int .i64 d])).run P w= .ok (a == c&&b == d) w:=by
 obtain ⟨i,hi⟩:=qb0.1 hs;rw [run_equalIn_array w 9999 _ _ hu.ok hi,show List.range 2=[0,1] from rfl,hc];simp only [Op.eqItems,Sem.run_bind,part,dv h1.ok,l8,qb1,qa8,if_false,Nat.zero_mul,Nat.one_mul];simp only [qa0,qb9,qb2,Sem.run_pure,qb1,run_equalIn_int w 9998 _ _ _ _ _ h1.ok];cases hac:(a == c)
 ·rfl
 simp only [Bool.not_true,qa8,if_false,dv h1.ok,l8,Sem.run_bind,Sem.run_pure,qb1,run_equalIn_int w 9998 _ _ _ _ _ h1.ok,qf4];cases hbd:(b == d)<;>rfl
variable {s:St} {x y:Operand} {a b c d:Int} {u:TypeId}
theorem MS (hu:cT P t (.array 2 e)) (h1:cT P e (.int k)) (hg:P.eqGuardType P.depth t=false) (hc:P.cellsOf e=1) (hs:(P.info? e).isSome=true)
 (hx:s.eval x= .agg [.int a,.int b]) (hy:s.eval y= .agg [.int c,.int d]):PV P (.binOp .eql t x y u) s (.bool (a == c&&b == d)):=
 dW fun _ _ _ ac _ h=>⟨_,.v,fun w' _ _ _ _ _=>by
  have e1:=h.eval x;rw [hx] at e1;have e2:=h.eval y;rw [hy] at e2;simp only [execOp,jW e1,jW e2,Sem.run_bind,run_eqGuard_agg w' _ t _ _ _ _ hg,qb1,run_eql_struct,BM hu h1 hc hs];rfl⟩
theorem MT (hu:cT P t (.array 2 e)) (h1:cT P e (.int k)) (hg:P.eqGuardType P.depth t=false) (hc:P.cellsOf e=1) (hs:(P.info? e).isSome=true)
 (hx:s.eval x= .agg [.int a,.int b]) (hy:s.eval y= .agg [.int c,.int d]):PV P (.binOp .neq t x y u) s (.bool (!(a == c&&b == d))):=
 dW fun _ _ _ ac _ h=>⟨_,.v,fun w' _ _ _ _ _=>by
  have e1:=h.eval x;rw [hx] at e1;have e2:=h.eval y;rw [hy] at e2;simp only [execOp,jW e1,jW e2,Sem.run_bind,run_eqGuard_agg w' _ t _ _ _ _ hg,qb1,run_neq_struct,BM hu h1 hc hs];rfl⟩
variable {el:TypeId} {l:Operand} {m:Int} {z:Value} {sz bw id off:Nat}
theorem BN {b k:Nat} [hu:cT P t (.slice el)] [hT:dI P el z sz b]
 (hx:s.eval x= .sl sz bw id off k) (hl:s.eval l= .int m) (h1:0≤m) (h2:m≤k):PV P (.slice t x none (some l) none) s (.sl sz bw id off m.toNat):=
 dW fun R β G a w hr=>by
  have e1:=hr.eval x;rw [hx] at e1;have e2:=hr.eval l;rw [hl] at e2;have e2:=dr e2;generalize hxv:a.eval x=vx at e1;cases e1 with
  |lU hb=>
   have hm:m=0:=by omega
   subst hm;refine ⟨_,.lU hb,fun w' d ty pos bF g=>?_⟩;have:=mD (P:=P) hu hT none 0 0 none (some 0) w' aC aC aC;simp only [ql8,qg2] at this;simp only [execOp,hxv,e2,ql8,qg2,Sem.run_bind,this,qb1,Sem.run_pure];simp
  |@sl _ _ _ _ _ _ c b' t' hb hnc ht hm hbw=>
   refine ⟨.slice (some ⟨b',off,none⟩) m.toNat c,.sl hb ak ht hm (qd3 (qh5 _ ak) hbw),fun w' d ty pos bF g=>?_⟩;have:=mD (P:=P) hu hT (some ⟨b',off,none⟩) k c none (some m) w' aC (by simpa using h1) aO;simp only [ql8,qg2] at this;simp only [execOp,hxv,e2,ql8,qg2,Sem.run_bind,this,qb1,Sem.run_pure,Option.getD_none,qf3,Int.toNat_zero,Nat.sub_zero,Nat.zero_mul,Addr.fM,Nat.add_zero];congr 2;split<;>rfl
theorem xg {hi:Option Operand} {H:Option Int} {m:Nat} {b k:Nat} [hu:cT P t (.slice el)] [hT:dI P el z sz b] (hp:0 < sz)
 (hx:s.eval x= .sl sz bw id off k) (hl:s.eval l= .int n) (hhi:hi.map s.eval=H.map AV.int) (hH:H.getD k=m) (h1:0≤n) (h2:n.toNat≤m) (h3:m≤k∨qq off (m * sz) (bp s.hp id)) (h4:m≤k∨m * bw≤140737488355328):
 PV P (.slice t x (some l) hi none) s (Fz sz bw id (off+n.toNat * sz) (m - n.toNat)):=
 dW fun R β G a w hr=>by
  have e1:=hr.eval x;rw [hx] at e1;have e2:=hr.eval l;rw [hl] at e2;have e2:=dr e2;have e3:hi.map a.eval=H.map (Value.int .i64):=by
   cases hi with
   |none=>cases H with
    |none=>rfl
    |some _=>simp at hhi
   |some o=>cases H with
    |none=>simp at hhi
    |some q=>
     simp only [qg2,qd9] at hhi ⊢;have:=hr.eval o;rw [hhi] at this;exact dr this
  generalize hxv:a.eval x=vx at e1;cases e1 with
  |lU hb=>
   have hm0:m=0:=by
    rcases h3 with h3|h3
    ·omega
    cases hq:bp s.hp id with
    |none=>rw [hq] at h3;exact h3.elim
    |some bk=>
     rw [hq] at h3;have:=hr.hp.blk id bk hq;unfold bZ at this;rw [hb] at this;simp only [qq,this.1,qf1] at h3
     have:m * sz=0:=by omega
     rcases Nat.mul_eq_zero.1 this with h|h
     ·exact h
     omega
   subst hm0;have hn:n=0:=by omega
   subst hn;have hH0:H.getD 0=0:=by simpa using hH
   refine ⟨.slice none 0 0,by simp only [Fz];exact .cD (es:=[]) [] aC aC aC aC aC aC aC,fun w' d ty pos bF g=>?_⟩;have:=mD (P:=P) hu hT none 0 0 (some 0) H w' aC (by simp [hH0]) (by simp [hH0]);simp only [qg2] at this;simp only [execOp,hxv,e2,e3,ql8,qg2,Sem.run_bind,this,qb1,Sem.run_pure];simp [hH0]
  |@sl _ _ _ _ _ _ c b' t' hb hnc ht hm hbw=>
   have hmc:m≤c:=by
    rcases h3 with h3|h3
    ·omega
    cases hq:bp s.hp id with
    |none=>rw [hq] at h3;exact h3.elim
    |some bk=>
     rw [hq] at h3;obtain ⟨_,_,arr,g3,g4,g5,_⟩:=hr.hp.block hq hb;simp only [qq] at h3
     have:m * sz≤c * sz:=by omega
     exact Nat.le_of_mul_le_mul_right this hp
   have hbm:m * bw≤reach:=by
    rcases h4 with h4|h4
    ·exact qd3 (qh5 _ h4) hbw
    exact h4
   have hrun:=fun w'=>mD (P:=P) hu hT (some ⟨b',off,none⟩) k c (some n) H w' (by simpa using h1) (by rw [hH];simp;omega) (by rw [hH];omega);rw [hH] at hrun;simp only [qg2,qf3,ql0] at hrun;refine ⟨.slice (if c=n.toNat then some ⟨b',off,none⟩ else some ((⟨b',off,none⟩:Addr).add (n.toNat * sz))) (m - n.toNat) (c - n.toNat),?_,fun w' d ty pos bF g=>by
    simp only [execOp,hxv,e2,e3,ql8,qg2,Sem.run_bind,hrun w',qb1,Sem.run_pure]⟩
   unfold Fz;split
   ·rename_i hz
    rw [hz];exact .cD (es:=[]) [] aC aC aC aC aC aC aC
   rename_i hz;have hne:¬c=n.toNat:=by omega
   rw [if_neg hne];simp only [Addr.fM];refine .sl hb ak ?_ ak (qd3 (qh5 _ ak) hbm)
   have:n.toNat * sz+(c - n.toNat) * sz=c * sz:=by rw [← qj9];congr 1;omega
   omega
theorem D9 {h:Operand} {q:Int} {b k:Nat} [hu:cT P t (.slice el)] [hT:dI P el z sz b]
 (hx:s.eval x= .sl sz bw id off k) (hl:s.eval l= .int n) (hh:s.eval h= .int m) (hy:s.eval y= .int q) (h1:0≤n) (h2:n≤m) (h3:m≤q) (h4:q≤k):PV P (.slice t x (some l) (some h) (some y)) s .any:=
 dW fun R β G a w hr=>by
  have e1:=hr.eval x;rw [hx] at e1;have e2:=hr.eval l;rw [hl] at e2;have e2:=dr e2;have e3:=hr.eval h;rw [hh] at e3;have e3:=dr e3;have e4:=hr.eval y;rw [hy] at e4;have e4:=dr e4;generalize hxv:a.eval x=vx at e1;obtain ⟨A,c,rfl,hc⟩:∃ A c,vx= .slice A k c∧k≤c:=by
   cases e1 with
   |lU hb=>exact ⟨_,_,rfl,qb3 _⟩
   |sl hb hnc ht hm hbw=>exact ⟨_,_,rfl,hnc⟩
  refine ⟨.slice (if q.toNat=n.toNat then A else A.map (·.add (n.toNat * sz))) (m.toNat - n.toNat) (q.toNat - n.toNat),.any,fun w' d ty pos bF g=>?_⟩;have a1:max m 0=m:=by omega
  have a2:max q 0=q:=by omega
  have h0m:0≤m:=by omega
  have h0q:0≤q:=by omega
  have hqc:q≤(c:Int):=by omega
  simp [execOp,hxv,e2,e3,e4,Instr.sliceAt,Instr.slice,run_underlying hu.ok,Instr.sliceBounds,Instr.sliceBound,eH hT,asIntOf,h1,h2,h3,h0m,h0q,hqc,a1,a2]
theorem ta {op:BinOp} {k':IntKind} {r:Value} (hx:s.eval x= .v (.int k a)) (hy:s.eval y= .v (.int k' b)) (he:op≠.eql∧op≠.neq)
 (hr:∀ w,(binOp op t (.int k a) (.int k' b)).run P w= .ok r w):PV P (.binOp op t x y u) s (.v r):=
 dW fun _ _ _ ac _ h=>⟨r,.v,fun w' _ _ _ _ _=>by
  have h1:=h.eval x;rw [hx] at h1;have h2:=h.eval y;rw [hy] at h2;have hg:(eqGuard op t x y (ac.eval x) (ac.eval y)).run P w'= .ok () w':=by unfold eqGuard;cases op<;>first|exact absurd rfl he.1|exact absurd rfl he.2|simp
  simp only [execOp,Sem.run_bind,hg,qb1];rw [fz h1,fz h2,hr w'];simp⟩
section
variable {s:St} {x y:Operand} {k:IntKind} {n m:Int} {t u:TypeId}
variable {op:BinOp}
theorem MU {f:Int→Int→Bool} (hx:s.eval x= .v (.int k n)) (hy:s.eval y= .v (.int k m)) (he:op≠.eql∧op≠.neq) (hr:∀ w,(binOp op t (.int k n) (.int k m)).run P w= .ok (.bool (f n m)) w):PV P (.binOp op t x y u) s (.bool (f n m)):=
 ta hx hy he hr
variable {r:Bool}
theorem Ja (hx:s.eval x= .v (.int k n)) (hy:s.eval y= .v (.int k m)) (hr:∀ w,(binOp op t (.int k n) (.int k m)).run P w= .ok (.bool r) w):PV P (.binOp op t x y u) s (.bool r):=
 dW fun _ _ _ a _ h=>⟨_,.v,fun w' _ _ _ _ _=>by
  have h1:=h.eval x;rw [hx] at h1;have h2:=h.eval y;rw [hy] at h2;simp only [execOp];rw [fz h1,fz h2];simp only [Sem.run_bind,pX,qb1,hr];rfl⟩
theorem wo (op:BinOp) (a b:ByteArray) (w:World):(eqGuard op t x y (.string a) (.string b)).run P w= .ok () w:=by
 unfold eqGuard;cases op<;>simp
variable {b:ByteArray}
theorem BO {a:ByteArray} (hx:s.eval x= .v (.string a)) (hy:s.eval y= .v (.string b)) (hr:∀ w,(binOp op t (.string a) (.string b)).run P w= .ok (.bool r) w):PV P (.binOp op t x y u) s (.bool r):=
 dW fun _ _ _ ac _ h=>⟨_,.v,fun w' _ _ _ _ _=>by
  have h1:=h.eval x;rw [hx] at h1;have h2:=h.eval y;rw [hy] at h2;simp only [execOp];rw [fz h1,fz h2];simp only [Sem.run_bind,wo,qb1,hr];rfl⟩
theorem G0 [hu:cT P t .string] (hx:s.eval x= .v (.string b)):PV P (.call {callee:=.builtin .len,args:=#[x],argTypes:=#[t]}) s (.int b.size):=
 dW fun _ _ _ a _ h=>by
  have h1:=h.eval x;rw [hx] at h1;exact ⟨_,.v,fun w' _ _ _ _ _=>by simp [execOp,resolve,invoke,builtin,fz h1,Builtin.len_,fK hu,goInt]⟩
theorem BP [hu:cT P t .string] (hx:s.eval x= .v (.string b)) (hy:s.eval y= .int n) (h0:0≤n) (h1:n.toNat < b.size):PV P (.index t x y) s (.v (.int .u8 (b[n.toNat]'h1).toNat)):=
 dW fun _ _ _ a _ h=>by
  have e1:=h.eval x;rw [hx] at e1;have e2:=h.eval y;rw [hy] at e2;have hg:b[n.toNat]?=some (b[n.toNat]'h1):=getElem?_pos b n.toNat h1;exact ⟨_,.v,fun w' _ _ _ _ _=>by simp [execOp,fz e1,dr e2,Instr.index,run_underlying hu.ok,asIntOf,h0,hg]⟩
theorem BQ {el:TypeId} {N b:Nat} {d:TypeDesc} {z:Value} {cs:List AV} {c:AV} [hu:cT P t (.array N el)] [hd:cT P el d] [hi:dI P el z 1 b]
 (hx:s.eval x= .agg cs) (hn:s.eval y= .int n) (h0:0≤n) (h1:n < N) (hc:cs[n.toNat]?=some c) (hda:l8 d=false):PV P (.index t x y) s c:=
 dW fun R β G a w hr=>by
  have e1:=hr.eval x;rw [hx] at e1;have e2:=hr.eval y;rw [hn] at e2;generalize hxv:a.eval x=vx at e1;cases e1 with
  |agg xs hl hs=>
   have hlt:n.toNat < xs.length:=by rw [← hl];exact (qk2.1 hc).1
   refine ⟨xs[n.toNat],hs _ _ _ hc (qa7 hlt),fun w' d' ty pos bF g=>?_⟩;simp [execOp,hxv,dr e2,Instr.index,run_underlying hu.ok,asIntOf,part,dv hd.ok,hda,eH hi,h0,h1,qa7 hlt]
end
section
variable {s:St} {x y:Operand} {n m:Int} {t u:TypeId}
theorem Qq (hx:s.eval x= .int n) (hy:s.eval y= .int m) (h:m≠0) (h2:-9223372036854775808≤n.tdiv m∧n.tdiv m≤9223372036854775807):PV P (.binOp .quo t x y u) s (.int (n.tdiv m)):=
 uK hx hy aC fun w=>by simp [binOp,Op.intDiv,h,qV h2.1 h2.2]
theorem Qr (hx:s.eval x= .int n) (hy:s.eval y= .int m) (h:m≠0):PV P (.binOp .rem t x y u) s (.int (n.tmod m)):=
 uK hx hy aC fun w=>by simp [binOp,Op.intDiv,h]
end
variable {s:St} {x:Operand} {t u:TypeId}
theorem MW {d:TypeDesc} {k k':IntKind} {n:Int} (hu:cT P t d) (hv:cT P u (.int k)) (hx:s.eval x= .v (.int k' n)) (hn:yK k n):PV P (.convert t u x) s (.v (.int k n)):=
 dW fun _ _ _ ac _ h=>⟨_,.v,fun w' _ _ _ _ _=>by
  have h1:=h.eval x;rw [hx] at h1;simp only [execOp,convert,fz h1,Sem.run_bind,run_underlying hu.ok,run_underlying hv.ok,qb1,Conv.intToInt,BI hn];simp⟩
variable {bh:Nat→Option TI}
theorem Jb [hT:Tb P bh] {op:BinOp} {X Y:Operand}:wm P (.binOp op t X Y u) s (fP bh op t (s.eval X) (s.eval Y)):=by
 have key:∀ x y,s.eval X=x→s.eval Y=y→wm P (.binOp op t X Y u) s (fP bh op t x y):=by
  intro x y hx hy;have h2:∀ f:Int→Int→PR,(∀ n m,s.eval X= .int n→s.eval Y= .int m→wm P (.binOp op t X Y u) s (f n m))→wm P (.binOp op t X Y u) s (rJ f x y):=by
   intro f hf;unfold rJ;split
   ·exact hf _ _ hx hy
   trivial
  have hK:∀ f:Int→Int→Bool,(op≠.eql∧op≠.neq)→(∀ (k:IntKind) (n m:Int) (w:World),(binOp op t (.int k n) (.int k m)).run P w= .ok (.bool (f n m)) w)→wm P (.binOp op t X Y u) s (s6 f x y):=by
   intro f he hf;unfold s6;split
   ·split
    ·rename_i hk;subst hk
     exact MU hx hy he (hf _ _ _)
    trivial
   trivial
  have hB:∀ f:IntKind→Int→Int→Int,(op≠.eql∧op≠.neq)→(∀ (k:IntKind) (n m:Int) (w:World),(binOp op t (.int k n) (.int k m)).run P w= .ok (.int k (f k n m)) w)→wm P (.binOp op t X Y u) s (s7 f x y):=by
   intro f he hf;unfold s7;split
   ·split
    ·rename_i hk;subst hk
     exact ta hx hy he (hf _ _ _)
    trivial
   trivial
  have h3:∀ neg:Bool,(op=if neg then .neq else .eql)→wm P (.binOp op t X Y u) s (s9 neg (bh t) x y):=by
   intro neg hop;generalize hti:bh t=ti;revert hti hx hy;unfold s9;split<;>intro hx hy hti
   ·split
    ·rename_i hk;subst hk
     cases neg<;>subst hop
     ·exact Ja hx hy fun w=>by simp [binOp,Op.intCmp]
     exact Ja hx hy fun w=>by simp [binOp,Op.intCmp]
    trivial
   ·cases neg<;>subst hop
    ·exact BO hx hy fun w=>by simp [binOp,Op.stringOp]
    exact BO hx hy fun w=>by simp [binOp,Op.stringOp]
   ·obtain ⟨d,z,hu,_,_,_,hk⟩:=hT.ok _ _ hti
    cases hk;cases neg<;>subst hop
    ·exact pe (hu:=hu) hx hy
    exact pg (hu:=hu) hx hy
   ·obtain ⟨d,z,hu,_,_,_,_,hk⟩:=hT.ok _ _ hti
    obtain ⟨f1,f2,k1,k2,rfl,g1,g2,g3⟩:=hk rfl;cases neg<;>subst hop
    ·exact ph (hu:=hu) (h1:=g1) (h2:=g2) hx hy g3
    exact pj (hu:=hu) (h1:=g1) (h2:=g2) hx hy g3
   ·obtain ⟨d,z,hu,_,_,_,hd,hk⟩:=hT.ok _ _ hti
    obtain ⟨rfl,⟨k,h1⟩,hg,hc,hs⟩:=hk rfl;subst hd;cases neg<;>subst hop
    ·exact MS hu h1 hg hc hs hx hy
    exact MT hu h1 hg hc hs hx hy
   trivial
  cases op<;>simp only [fP]
  case lss=>exact hK _ aC fun k n m w=>by simp [binOp,Op.intCmp]
  case leq=>exact hK _ aC fun k n m w=>by simp [binOp,Op.intCmp]
  case gtr=>exact hK _ aC fun k n m w=>by simp [binOp,Op.intCmp]
  case geq=>exact hK _ aC fun k n m w=>by simp [binOp,Op.intCmp]
  case and=>exact hB _ aC fun k n m w=>by simp [binOp,intBits_and]
  case or=>exact hB _ aC fun k n m w=>by simp [binOp,intBits_or]
  case xor=>exact hB _ aC fun k n m w=>by simp [binOp,intBits_xor]
  case andNot=>exact hB _ aC fun k n m w=>by simp [binOp,intBits_andNot]
  case add=>exact h2 _ fun n m a b=>fun h=>Qs a b h.1 h.2
  case sub=>exact h2 _ fun n m a b=>fun h=>Qt a b h.1 h.2
  case mul=>exact h2 _ fun n m a b=>fun h=>Qu a b h.1 h.2
  case quo=>exact h2 _ fun n m a b=>fun h=>Qq a b h.1 h.2
  case rem=>exact h2 _ fun n m a b=>fun h=>Qr a b h
  case eql=>exact h3 false rfl
  case neq=>exact h3 true rfl
  case shl=>
   unfold PK;split
   ·refine fun h=>ta hx hy aC fun w=>?_
    obtain ⟨⟨h1,h2⟩,h3⟩:=h;rw [Fw] at h2;simp [binOp,shift_shl _ _ _ _ h1 h2,BI h3]
   trivial
  case shr=>
   unfold PM;split
   ·refine fun h=>ta hx hy aC fun w=>?_
    obtain ⟨h1,h2⟩:=h;rw [Fw] at h2;simp [binOp,shift_shr _ _ _ _ h1 h2]
   trivial
 exact key _ _ rfl rfl
variable {i:TI}
theorem Jc {id off:Nat} (hti:D8 P t i) (hx:s.eval x= .ptr id off):wm P (.load t x) s (R2 i off (bp s.hp id)):=by
 obtain ⟨d,z,hu,hi,ha,_,_⟩:=hti;generalize hb:bp s.hp id=ob;unfold R2;split
 ·split
  ·rename_i h
   exact fun hc=>xh (hu:=hu) (hi:=hi) hx (by rw [ha,h]) hb hc
  rename_i h;exact fun hc=>tc (hu:=hu) hx (by rw [ha];simpa using h) hb (qa7 hc)
 trivial
theorem G8 {cs:List AV} (hti:D8 P t i) (hx:s.eval x= .bC cs):wm P (.load t x) s (R3 i cs):=by
 obtain ⟨d,z,hu,hi,ha,_,_⟩:=hti;unfold R3;split
 ·rename_i h
  exact fun hc=>rb (hu:=hu) (hi:=hi) hx (by rw [ha,h]) hc
 rename_i h;exact fun hc=>td (hu:=hu) hx (by rw [ha];simpa using h) (qa7 hc)
theorem mG [hT:Tb P bh] (op:Op) (s:St):wm P op s (oZ bh op s):=by
 unfold oZ;split
 ·exact jh
 ·exact dn
 ·rename_i c x y
  unfold xe;split
  ·rename_i b _ _ hc
   unfold eR;split
   ·rename_i p q hx hy
    exact Jd hc hx hy
   exact FA hc
  trivial
 ·exact Jb
 ·rename_i t x
  generalize hx:s.eval x=v;unfold BJ;split
  ·exact sk hx
  trivial
 ·rename_i t x
  generalize hx:s.eval x=v;unfold BL;split
  ·exact fun h=>Qv hx h.1 h.2
  trivial
 ·rename_i x i
  generalize hx:s.eval x=v;unfold ot;split
  ·unfold Fx;split
   ·rename_i h;exact Ea hx h
   trivial
  trivial
 ·rename_i t x
  generalize hx:s.eval x=v;generalize hti:bh t=ti;unfold pd;split
  ·exact Jc (hT.ok _ _ hti) hx
  ·exact G8 (hT.ok _ _ hti) hx
  trivial
 ·rename_i t x f
  generalize hx:s.eval x=v;generalize hti:bh t=ti;unfold I9;split
  ·obtain ⟨d,z,hu,_,_,_,hF,_⟩:=hT.ok _ _ hti
   unfold ou;split
   ·rename_i o n hf
    split
    ·trivial
    rename_i hn;split
    ·exact cf (hF:=hF) hx hf hn
    ·exact cQ (hF:=hF) hx hf hn
    trivial
   trivial
  trivial
 ·rename_i t x i
  generalize hx:s.eval x=v;generalize hy:s.eval i=w;generalize hti:bh t=ti;unfold y9;split
  ·rename_i e n
   obtain ⟨d,z,hu,_,_,_,hk⟩:=hT.ok _ _ hti;cases hk;generalize hte:bh e=te;revert hte hx;unfold uJ;split<;>intro hx hte
   ·obtain ⟨d',z',hu',hi',_⟩:=hT.ok _ _ hte
    split
    ·rename_i hsz
     subst hsz;exact fun h=>tf (hu:=hu) (hi:=hi') hx hy h.1 (qa7 h.2)
    trivial
   ·obtain ⟨d',z',hu',hi',_⟩:=hT.ok _ _ hte
    split
    ·rename_i hsz
     subst hsz;exact fun h=>yM (hu:=hu) (hi:=hi') hx hy h.1 h.2
    trivial
   trivial
  ·rename_i N e i2 n
   obtain ⟨d,z,hu,_,_,_,hk,_⟩:=hT.ok _ _ hti;subst hk;generalize hte:bh e=te;revert hte hx;unfold lP;split<;>intro hx hte
   ·obtain ⟨d',z',hu',hi',_⟩:=hT.ok _ _ hte
    exact fun h=>yN (hu:=hu) (hi:=hi') hx hy h.1 h.2
   ·obtain ⟨d',z',hu',hi',_⟩:=hT.ok _ _ hte
    exact fun h=>xi (hu:=hu) (hi:=hi') hx hy h.1 h.2
   trivial
  trivial
 ·rename_i t ps
  generalize hti:bh t=ti;unfold qZ;split
  ·obtain ⟨d,z,hu,hi,_,hz,hF,_⟩:=hT.ok _ _ hti
   simp only at hi hz;subst hz;exact fun h=>tg (hF:=hF) (hi:=hi) h
  ·obtain ⟨d,z,hu,hi,_,hz,hk,_⟩:=hT.ok _ _ hti
   subst hk;simp only at hi hz;subst hz;split
   ·rename_i hte
    obtain ⟨d',z',hu',hi',_⟩:=hT.ok _ _ hte;exact fun h=>G9 (hu:=hu) (hi:=hi) (he:=hi') h
   trivial
  trivial
 ·rename_i x
  generalize hx:s.eval x=v;unfold xf;split
  ·exact vF hx
  ·exact th hx
  ·exact tj hx
  trivial
 ·unfold GZ;split
  ·split
   ·rename_i hf
    exact cL hf
   trivial
  trivial
 ·rename_i t x lo hi
  have hs:∀ e,yL (bh t)=some e→cT P t (.slice e):=by
   intro e he;generalize hti:bh t=ti at he;unfold yL at he;split at he
   ·obtain ⟨d,z,hu,_,_,_,hk⟩:=hT.ok _ _ hti
    cases hk;injection he with he;subst he;exact hu
   cases he
  generalize hx:s.eval x=v;generalize hl:lo.map s.eval=l;generalize hh:hi.map s.eval=m;generalize hse:yL (bh t)=se at *;unfold gj;split
  ·have hu:=hs _ rfl
   obtain ⟨l',rfl,hl'⟩:∃ l',lo=some l'∧s.eval l'=_:=by cases lo with|none=>simp at hl|some l'=>exact ⟨l',rfl,by simpa using hl⟩
   obtain rfl:hi=none:=by cases hi with|none=>rfl|some _=>simp at hh
   split
   ·rename_i hte
    obtain ⟨d',z',hu',hi',_⟩:=hT.ok _ _ hte;split
    ·rename_i hsz;subst hsz
     exact fun h=>D3 (hu:=hu) (hT:=hi') hx hl' h.1 h.2
    trivial
   trivial
  ·have hu:=hs _ rfl
   obtain ⟨l',rfl,hl'⟩:∃ l',hi=some l'∧s.eval l'=_:=by cases hi with|none=>simp at hh|some l'=>exact ⟨l',rfl,by simpa using hh⟩
   obtain rfl:lo=none:=by cases lo with|none=>rfl|some _=>simp at hl
   split
   ·rename_i hte
    obtain ⟨d',z',hu',hi',_⟩:=hT.ok _ _ hte;split
    ·rename_i hsz;subst hsz
     exact fun h=>D4 (hu:=hu) (hT:=hi') hx hl' h.1 h.2
    trivial
   trivial
  ·have hu:=hs _ rfl
   obtain ⟨l',rfl,hl'⟩:∃ l',lo=some l'∧s.eval l'=_:=by cases lo with|none=>simp at hl|some l'=>exact ⟨l',rfl,by simpa using hl⟩
   obtain ⟨h',rfl,hh'⟩:∃ l',hi=some l'∧s.eval l'=_:=by cases hi with|none=>simp at hh|some l'=>exact ⟨l',rfl,by simpa using hh⟩
   split
   ·rename_i hte
    obtain ⟨d',z',hu',hi',_⟩:=hT.ok _ _ hte;split
    ·rename_i hsz;subst hsz
     exact fun h=>GW (hu:=hu) (hT:=hi') hx hl' hh' h.1 h.2.1 h.2.2
    trivial
   trivial
  ·have hu:=hs _ rfl
   obtain ⟨l',rfl,hl'⟩:∃ l',hi=some l'∧s.eval l'=_:=by cases hi with|none=>simp at hh|some l'=>exact ⟨l',rfl,by simpa using hh⟩
   obtain rfl:lo=none:=by cases lo with|none=>rfl|some _=>simp at hl
   split
   ·rename_i hte
    obtain ⟨d',z',hu',hi',_⟩:=hT.ok _ _ hte;split
    ·rename_i hsz;subst hsz
     exact fun h=>BN (hu:=hu) (hT:=hi') hx hl' h.1 h.2
    trivial
   trivial
  ·have hu:=hs _ rfl
   obtain ⟨l',rfl,hl'⟩:∃ l',lo=some l'∧s.eval l'=_:=by cases lo with|none=>simp at hl|some l'=>exact ⟨l',rfl,by simpa using hl⟩
   obtain rfl:hi=none:=by cases hi with|none=>rfl|some _=>simp at hh
   split
   ·rename_i hte
    obtain ⟨d',z',hu',hi',_⟩:=hT.ok _ _ hte;split
    ·rename_i hsz;subst hsz
     exact fun h=>xg (hu:=hu) (hT:=hi') (H:=none) h.1 hx hl' rfl rfl h.2.1 ak (.inl (qb3 _)) (.inl (qb3 _))
    trivial
   trivial
  ·rename_i e sz bw id off k n m
   have hu:=hs _ rfl;obtain ⟨l',rfl,hl'⟩:∃ l',lo=some l'∧s.eval l'=_:=by cases lo with|none=>simp at hl|some l'=>exact ⟨l',rfl,by simpa using hl⟩
   obtain ⟨h',rfl,hh'⟩:∃ l',hi=some l'∧s.eval l'=_:=by cases hi with|none=>simp at hh|some l'=>exact ⟨l',rfl,by simpa using hh⟩
   split
   ·rename_i hte
    obtain ⟨d',z',hu',hi',_⟩:=hT.ok _ _ hte;split
    ·rename_i hsz;subst hsz
     exact fun h=>xg (hu:=hu) (hT:=hi') (H:=some m) h.1 hx hl' (by simp [hh']) aO h.2.1 ak (.inr h.2.2.2.1) (.inr h.2.2.2.2)
    trivial
   trivial
  trivial
 ·rename_i t x lo hi mx
  have hs:∀ e,yL (bh t)=some e→cT P t (.slice e):=by
   intro e he;generalize hti:bh t=ti at he;unfold yL at he;split at he
   ·obtain ⟨d,z,hu,_,_,_,hk⟩:=hT.ok _ _ hti
    cases hk;injection he with he;subst he;exact hu
   cases he
  generalize hx:s.eval x=v;generalize hl:lo.map s.eval=l;generalize hh:hi.map s.eval=m;generalize hmx:some (s.eval mx)=q;generalize hse:yL (bh t)=se at *;unfold hJ;split
  ·have hu:=hs _ rfl
   obtain ⟨l',rfl,hl'⟩:∃ l',lo=some l'∧s.eval l'=_:=by cases lo with|none=>simp at hl|some l'=>exact ⟨l',rfl,by simpa using hl⟩
   obtain ⟨h',rfl,hh'⟩:∃ l',hi=some l'∧s.eval l'=_:=by cases hi with|none=>simp at hh|some l'=>exact ⟨l',rfl,by simpa using hh⟩
   injection hmx with hmx
   split
   ·rename_i hte
    obtain ⟨d',z',hu',hi',_⟩:=hT.ok _ _ hte;split
    ·rename_i hsz;subst hsz
     exact fun h=>D9 (hu:=hu) (hT:=hi') hx hl' hh' hmx h.1 h.2.1 h.2.2.1 h.2.2.2
    trivial
   trivial
  trivial
 ·rename_i t u x
  generalize hx:s.eval x=v;generalize hti:bh t=ti;generalize huj:bh u=uj;unfold xb;split
  ·obtain ⟨d,z,hu,_⟩:=hT.ok _ _ hti
   obtain ⟨d',z',hu',_,_,_,hk⟩:=hT.ok _ _ huj;cases hk;exact fun h=>MW hu hu' hx h
  trivial
 ·rename_i t x i
  generalize hx:s.eval x=v;generalize hy:s.eval i=w;generalize hti:bh t=ti;unfold qY;split
  ·obtain ⟨d,z,hu,_,_,_,hk⟩:=hT.ok _ _ hti
   cases hk;exact fun h=>BP (hu:=hu) hx hy h.1 h.2
  ·obtain ⟨d,z,hu,_,_,_,hk,_⟩:=hT.ok _ _ hti
   subst hk;unfold Fy;split
   ·rename_i hte
    obtain ⟨d',z',hu',hi',ha',_⟩:=hT.ok _ _ hte;exact fun h=>BQ (hu:=hu) (hd:=hu') (hi:=hi') hx hy h.1 h.2.1 (qa7 h.2.2) ha'
   trivial
  trivial
 ·rename_i x t
  generalize hx:s.eval x=v;generalize hti:bh t=ti;unfold vE;split
  ·obtain ⟨d,z,hu,_,_,_,hk⟩:=hT.ok _ _ hti
   cases hk;exact Qw (hu:=hu) hx
  ·obtain ⟨d,z,hu,_,_,_,hk⟩:=hT.ok _ _ hti
   cases hk;exact MX (hu:=hu) hx
  ·obtain ⟨d,z,hu,_,_,_,hk⟩:=hT.ok _ _ hti
   cases hk;exact MY (hu:=hu) hx
  ·obtain ⟨d,z,hu,_,_,_,hk⟩:=hT.ok _ _ hti
   cases hk;exact G0 (hu:=hu) hx
  trivial
 ·rename_i x y fx
  generalize hx:s.eval x=v;generalize hy:s.eval y=w;unfold rJ;split
  ·exact Qx hx hy
  trivial
 ·rename_i x y fx
  generalize hx:s.eval x=v;generalize hy:s.eval y=w;unfold rJ;split
  ·exact Qy hx hy
  trivial
 trivial
end Go.Ab
namespace Go.Ab
open Go.RowKit
variable {P:Program}
inductive SR where
 |ok (s:St)
 |ex (c:Prop) [dc:Decidable c] (f:c→St)
 |no
def SH (P:Program) (op:Op) (d:Option Tmp) (s:St):SR→Prop
 | .ok s'=>∀ (ty:TypeId) (pos:String) (bF:Array Edge) (g:Option (Nat×Bool)) (K:St→Prop),K s'→ff P ⟨d,op,ty,pos,bF,g⟩ s K
 |@SR.ex c _ f=>∀ h:c,∀ (ty:TypeId) (pos:String) (bF:Array Edge) (g:Option (Nat×Bool)) (K:St→Prop),K (f h)→ff P ⟨d,op,ty,pos,bF,g⟩ s K
 | .no=>True
def wq (d:Option Tmp) (s:St):PR→SR
 | .ok x=>.ok (s.put d x)
 |@PR.ex c _ f=>.ex c fun h=>s.put d (f h)
 | .no=>.no
def PN:AV→Bool
 | .agg _=>true
 |x=>x.one
variable {x:AV}
theorem tk (h:PN x=true):x.one=true∨∃ cs,x= .agg cs:=by
 cases x<;>first|exact .inr ⟨_,rfl⟩|exact .inl h
def TN (i:TI) (s:St) (id off:Nat) (x:AV):Option iB→SR
 |some ⟨T,cs,fl⟩=>.ex ((PN x&&jx x.cells)=true∧x.cells.length=i.n∧off+i.n≤cs.length) fun _=>⟨s.fr,cP s.hp id ⟨T,gM cs off x.cells,fl⟩⟩
 |none=>.no
def Ag (s:St) (x:AV):Option Tmp→Option TI→AV→SR
 |none,some i,.ptr id off=>TN i s id off x (bp s.hp id)
 |_,_,_=>.no
def Ah (s:St) (e:Nat):Option Tmp→Option TI→SR
 |some k,some i=>.ex (s.free k=true) fun _=>⟨s.fr.set k (.ptr k 0),cP s.hp k ⟨e,i.z,true⟩⟩
 |_,_=>.no
def MZ (s:St) (e:Nat) (x:AV):Option Tmp→SR
 |some k=>.ex ((s.free k&&PN x&&!AV.bz k x.cells)=true) fun _=>⟨s.fr.set k (.ptr k 0),cP s.hp k ⟨e,x.cells,true⟩⟩
 |none=>.no
def Qz (len m bw:Nat) (ps:List (Nat×AV)):Bool:=
 decide (0 < len * m)&&decide (len * m≤16777216)&&decide (len * bw≤140737488355328)&&rS 0 ps&&ps.length == len&&eU (fun i=>some (i * m,m)) (len * m) ps&&AV.cu (ps.map (·.2))
def SI (s:St) (e len:Nat) (ps:List (Nat×AV)):Option Tmp→Option TI→SR
 |some k,some i=>match len with
  |0=>match ps with
   |[]=>.ex (s.free k=true) fun _=>⟨s.fr.set k (.sl i.n i.b k 0 0),cP s.hp k ⟨e,[],true⟩⟩
   |_=>.no
  |n+1=>.ex (Qz (n+1) i.n i.b ps=true) fun _=>s.put (some k) (.cD i.n i.b (ps.map (·.2)))
 |_,_=>.no
def M0 (bh:Nat→Option TI) (s:St) (len:Nat) (ps:List (Nat×AV)) (d:Option Tmp):Option Nat→SR
 |some e=>SI s e len ps d (bh e)
 |none=>.no
def nO (bh:Nat→Option TI) (op:Op) (d:Option Tmp) (s:St):SR:=
 match op with
 | .store t p x=>Ag s (s.eval x) d (bh t) (s.eval p)
 | .alloc e=>Ah s e d (bh e)
 | .box e x=>MZ s e (s.eval x) d
 | .buildSlice t len ps=>M0 bh s len (bM s ps) d (yL (bh t))
 |op=>wq d s (oZ bh op s)
variable {s:St}
theorem SJ {op:Op} {d:Option Tmp} {r:PR} (h:wm P op s r):SH P op d s (wq d s r):=by
 cases r with
 |ok x=>exact fun ty pos bF g K hk=>bt h hk
 |ex c f=>exact fun hc ty pos bF g K hk=>bt (h hc) hk
 |no=>trivial
theorem Je {bh:Nat→Option TI} [hT:Tb P bh] (op:Op) (d:Option Tmp) (s:St):SH P op d s (nO bh op d s):=by
 unfold nO;split
 ·rename_i t p x
  generalize hp:s.eval p=v;generalize hti:bh t=ti;generalize hv:s.eval x=y;revert hti hp;unfold Ag;split<;>intro hp hti
  ·rename_i i id off
   obtain ⟨d,z,hu,hi,_⟩:=hT.ok _ _ hti;generalize hb:bp s.hp id=ob;unfold TN;split
   ·intro h ty pos bF g K hk
    subst hv;obtain ⟨h1,h2,h3⟩:=h;simp only [qa1] at h1;exact uL (hi:=hi) hp hb h1.2 (tk h1.1) h2 h3 hk
   trivial
  trivial
 ·rename_i e
  generalize hti:bh e=ti;revert hti;unfold Ah;split<;>intro hti
  ·intro h ty pos bF g K hk
   obtain ⟨d,z,hu,hi,_,hz,_⟩:=hT.ok _ _ hti;simp only [← hz] at hk;exact ov (hi:=hi) _ h hk
  trivial
 ·rename_i e x
  unfold MZ;split
  ·intro h ty pos bF g K hk
   simp only [qa1,qb7] at h;exact l9 _ h.1.1 (tk h.1.2) h.2 hk
  trivial
 ·rename_i t len ps
  generalize hse:yL (bh t)=se;have hs:∀ e,se=some e→cT P t (.slice e):=by
   intro e he;subst hse;generalize hti:bh t=ti at he;unfold yL at he;split at he
   ·obtain ⟨d,z,hu,_,_,_,hk⟩:=hT.ok _ _ hti
    cases hk;injection he with he;subst he;exact hu
   cases he
  unfold M0;split
  ·rename_i e
   have hu:=hs _ rfl;generalize hte:bh e=te;revert hte;unfold SI;split<;>intro hte
   ·obtain ⟨d',z',hu',hi',_⟩:=hT.ok _ _ hte
    split
    ·split
     ·rename_i hps
      intro h ty pos bF g K hk
      have:ps=#[]:=by unfold bM at hps;simpa using hps
      subst this;exact wk (hu:=hu) (hi:=hi') _ h hk
     trivial
    intro h ty pos bF g K hk;simp only [Qz,qa1,beq_iff_eq] at h;obtain ⟨⟨⟨⟨⟨⟨h1,h2⟩,h3⟩,h4⟩,h5⟩,h6⟩,h7⟩:=h;exact xj (hu:=hu) (hi:=hi') ⟨h1,h2,h3⟩ h4 h5 h6 h7 hk
   trivial
  trivial
 exact SJ (mG _ _)
inductive GT where
 |run
 |skip
 |no
def rT:AV→Bool→GT
 | .v (.bool true),true=>.run
 | .v (.bool false),false=>.run
 | .v (.bool true),false=>.skip
 | .v (.bool false),true=>.skip
 | .v (.tuple ⟨[]⟩),_=>.skip
 |_,_=>.no
variable {b:Bool}
theorem tl (h:rT x b= .run):x= .bool b:=by
 unfold rT at h;split at h<;>first|rfl|cases h
theorem qt (h:rT x b= .skip):x= .bool (!b)∨x= .v undef:=by
 unfold rT at h;split at h<;>first|exact .inl rfl|exact .inr rfl|cases h
def rK (all:Array Oper) (j:Nat) (s:St):AV:=match (all[j]?).bind (·.dst) with
 |some t=>s.fr.getD t .any
 |none=>.any
theorem eX {all:Array Oper} {j:Nat} {u:Value} (h:rK all j s= .v u):∃ t,(all[j]?).bind (·.dst)=some t∧s.fr[t]?=some (.v u):=by
 unfold rK at h;split at h
 ·rename_i t ht
  refine ⟨t,ht,?_⟩;rw [qh7] at h;cases hq:s.fr[t]? with
  |none=>rw [hq] at h;cases h
  |some x=>rw [hq] at h;simp at h;rw [h]
 cases h
def eV (P:Program) (all:Array Oper) (o:Oper) (rest:List Oper) (s:St) (K:St→Prop):Prop:=∀ K':St→Prop,(∀ s',ew P all rest s' K→K' s')→ff P o s K'
def fL (P:Program) (all:Array Oper) (rest:List Oper) (s:St) (K:St→Prop):Prop:=ew P all rest s K
mutual
def dP (P:Program) (bh:Nat→Option TI) (all:Array Oper) (K:St→Prop):List Oper→St→Prop
 |[],s=>K s
 |⟨d,op,ty,pos,bF,none⟩::r,s=>match nO bh op d s with
  | .ok s'=>dP P bh all K r s'
  |@SR.ex c _ f=>∃ h:c,dP P bh all K r (f h)
  | .no=>eV P all ⟨d,op,ty,pos,bF,none⟩ r s K
 |⟨d,op,ty,pos,bF,some (j,b)⟩::r,s=>match rT (rK all j s) b with
  | .run=>match nO bh op d s with
   | .ok s'=>dP P bh all K r s'
   |@SR.ex c _ f=>∃ h:c,dP P bh all K r (f h)
   | .no=>eV P all ⟨d,op,ty,pos,bF,none⟩ r s K
  | .skip=>dP P bh all K r (s.put d (.v undef))
  | .no=>fL P all (⟨d,op,ty,pos,bF,some (j,b)⟩::r) s K
end
def MF (P:Program) (bh:Nat→Option TI) (all:Array Oper) (K:St→Prop) (o:Oper) (r:List Oper) (s:St):SR→Prop
 | .ok s'=>dP P bh all K r s'
 |@SR.ex c _ f=>∃ h:c,dP P bh all K r (f h)
 | .no=>eV P all o r s K
def mu (P:Program) (bh:Nat→Option TI) (all:Array Oper) (K:St→Prop) (o:Oper) (r:List Oper) (s:St):GT→Prop
 | .run=>MF P bh all K {o with guard:=none} r s (nO bh o.op o.dst s)
 | .skip=>dP P bh all K r (s.put o.dst (.v undef))
 | .no=>fL P all (o::r) s K
variable {bh:Nat→Option TI} {all:Array Oper} {K:St→Prop} {d:Option Tmp} {op:Op} {ty:TypeId} {pos:String} {bF:Array Edge} {r:List Oper} {s:St}
theorem ji:
 dP P bh all K (⟨d,op,ty,pos,bF,none⟩::r) s=MF P bh all K ⟨d,op,ty,pos,bF,none⟩ r s (nO bh op d s):=by
 rw [dP];unfold MF;rfl
variable {b:Bool}
theorem iF {j:Nat}:
 dP P bh all K (⟨d,op,ty,pos,bF,some (j,b)⟩::r) s=mu P bh all K ⟨d,op,ty,pos,bF,some (j,b)⟩ r s (rT (rK all j s) b):=by
 rw [dP];unfold mu MF;rfl
variable {o:Oper}
theorem Ha {c:Bool}
 (h1:c=true→mu P bh all K o r s (rT (.bool c) b)) (h2:c=false→mu P bh all K o r s (rT (.bool c) b)):mu P bh all K o r s (rT (.bool c) b):=by
 cases c
 ·exact h2 rfl
 exact h1 rfl
theorem Jf [hT:Tb P bh]
 (ih:∀ s,dP P bh all K r s→ew P all r s K) (h:MF P bh all K ⟨d,op,ty,pos,bF,none⟩ r s (nO bh op d s)):eV P all ⟨d,op,ty,pos,bF,none⟩ r s K:=by
 have hs:=Je (P:=P) (bh:=bh) op d s;generalize nO bh op d s=q at h hs;cases q with
 |ok s'=>exact fun K' hK'=>hs _ _ _ _ _ (hK' _ (ih _ h))
 |ex c f=>obtain ⟨hc,h⟩:=h;exact fun K' hK'=>hs hc _ _ _ _ _ (hK' _ (ih _ h))
 |no=>exact h
theorem tn {bh:Nat→Option TI} [hT:Tb P bh] {all:Array Oper} {K:St→Prop}:∀ (r:List Oper) (s:St),dP P bh all K r s→ew P all r s K
 |[],s,h=>lr (by rw [dP] at h;exact h)
 |⟨d,op,ty,pos,bF,none⟩::r,s,h=>by
  rw [ji] at h;exact cn rfl (Jf (tn r) h)
 |⟨d,op,ty,pos,bF,some (j,b)⟩::r,s,h=>by
  rw [iF] at h;generalize hg:rT (rK all j s) b=g at h;cases g with
  |run=>
   obtain ⟨t,h1,h2⟩:=eX (tl hg);have h:=Jf (tn r) h;exact xk rfl h1 h2 (fun _ K' hK'=>ff.M1 (h K' hK')) (fun h=>absurd rfl h)
  |skip=>
   rcases qt hg with hx|hx
   ·obtain ⟨t,h1,h2⟩:=eX hx
    exact xk rfl h1 h2 (fun h=>by cases b<;>cases h) (fun _=>tn r _ h)
   obtain ⟨t,h1,h2⟩:=eX hx;exact Ai rfl h1 h2 (tn r _ h)
  |no=>exact h
theorem DW [hT:Tb P bh] (h:dP P bh all K r s):ew P all r s K:=tn r s h
theorem Jg [hT:Tb P bh] {f:FuncId} {args:Array Operand} {fx:Array TypeId} {ty:TypeId} {pos:String} {bF:Array Edge} {x:AV} [hc:cI P f]
 (h:bm P f (cv s args) (fun y=>y=x)) (hp:AV.cu (cv s args)=true) (hk:dP P bh all K r (s.put d x)):eV P all ⟨d,.call {callee:=.value (.func f),args,argTypes:=fx},ty,pos,bF,none⟩ r s K:=
 fun K' hK'=>cM h hp fun y hy=>by subst hy;exact hK' _ (DW hk)
theorem bu [hT:Tb P bh] (h:∀ K':St→Prop,(∀ s',dP P bh all K r s'→K' s')→ff P o s K'):eV P all o r s K:=
 fun K' hK'=>h K' fun s' hs=>hK' s' (DW hs)
theorem QA [hT:Tb P bh] {id:Nat} {l:List Oper} {Q:Exit→St→Prop} (h:dP P bh l.toArray (Q .normal) l s) (hd:iL l=true:=by rfl):AW P (.region id l.toArray false) s Q:=dU (DW h) hd
def PO (ops:Array Oper) (hs:List Nat) (l:Array Bool) (i:Nat):Bool:=Region.noSelect ops&&(Region.ready .any ops l).contains i&&Region.free .any ops l i&&hs.contains i
inductive Sc where
 |nil
 |it (i m:Nat) (r:Sc)
 |fk (i j:Nat) (a b:Sc)
 |Aj (i j k:Nat) (a b c:Sc)
 |pY (i m j n:Nat) (a b:Sc)
 |DX (i m j n k p:Nat) (a b c:Sc)
def force:List Bool→(List Bool→Bool)→Bool
 |[],k=>k []
 |true::r,k=>force r (fun q=>k (true::q))
 |false::r,k=>force r (fun q=>k (false::q))
theorem force_eq:∀ (l:List Bool) (k:List Bool→Bool),force l k=k l
 |[],k=>rfl
 |true::r,k=>force_eq r _
 |false::r,k=>force_eq r _
def Hb (l:Array Bool) (i:Nat) (k:Array Bool→Bool):Bool:=force (l.setIfInBounds i true).toList fun q=>k q.toArray
theorem nP (l:Array Bool) (i:Nat) (k:Array Bool→Bool):Hb l i k=k (l.setIfInBounds i true):=by rw [Hb,force_eq]
def dD (ops:Array Oper) (hs:List Nat):Sc→Array Bool→Nat→Bool
 | .nil,l,_=>Region.ready .any ops l == []
 | .fk i j a b,l,f+1=>Region.ready .any ops l == [i,j]&&Hb l i (fun l=>dD ops hs a l f)&&Hb l j (fun l=>dD ops hs b l f)
 | .Aj i j k a b c,l,f+1=>Region.ready .any ops l == [i,j,k]&&Hb l i (fun l=>dD ops hs a l f)&&Hb l j (fun l=>dD ops hs b l f)&&Hb l k (fun l=>dD ops hs c l f)
 | .pY i m j n a b,l,f+1=>Region.ready .any ops l == [i,j]&&(m == 1|| !early ops hs i)&&(n == 1|| !early ops hs j)&&Hb l i (fun l=>dD ops hs a l f)&&Hb l j (fun l=>dD ops hs b l f)
 | .DX i m j n k p a b c,l,f+1=>Region.ready .any ops l == [i,j,k]&&(m == 1|| !early ops hs i)&&(n == 1|| !early ops hs j)&&(p == 1|| !early ops hs k)&&Hb l i (fun l=>dD ops hs a l f)&&Hb l j (fun l=>dD ops hs b l f)&&Hb l k (fun l=>dD ops hs c l f)
 | .it i m r,l,f+1=>(match m with
  |0=>PO ops hs l i
  |1=>Region.ready .any ops l == [i]
  |2=>PO ops hs l i&&Region.ready .any ops l == [i]
  |_=>Region.ready .any ops l == [i]&&!early ops hs i)&&Hb l i (fun l=>dD ops hs r l f)
 | .fk _ _ _ _,_,0=>false
 | .Aj _ _ _ _ _ _,_,0=>false
 | .pY _ _ _ _ _ _,_,0=>false
 | .DX _ _ _ _ _ _ _ _ _,_,0=>false
 | .it _ _ _,_,0=>false
def ma (P:Program) (ops:Array Oper) (hs:List Nat) (sc:Sc) (s:St) (K:St→Prop):Prop:=∀ l f,dD ops hs sc l f=true→dt P ops hs f l s K
def iG (P:Program) (ops:Array Oper) (hs:List Nat) (o:Oper) (sc:Sc) (s:St) (K:St→Prop):Prop:=∀ K':St→Prop,(∀ s',ma P ops hs sc s' K→K' s')→dJ P o s K'
def kM (P:Program) (ops:Array Oper) (hs:List Nat) (o:Oper) (sc:Sc) (s:St) (K:St→Prop):Prop:=∀ K':St→Prop,(∀ s',ma P ops hs sc s' K→K' s')→ff P o s K'
def pk (P:Program) (ops:Array Oper) (hs:List Nat) (m:Nat) (o:Oper) (sc:Sc) (s:St) (K:St→Prop):Prop:=match m with
 |1=>iG P ops hs o sc s K
 |_=>kM P ops hs o sc s K
def jr:Prop:=False
mutual
def fv (P:Program) (bh:Nat→Option TI) (ops:Array Oper) (hs:List Nat) (K:St→Prop):Sc→St→Prop
 | .nil,s=>K s
 | .fk i j a b,s=>match ops[i]?,ops[j]? with
  |some ⟨d,op,ty,pos,bF,none⟩,some ⟨d',op',ty',pos',aft',none⟩=>iG P ops hs ⟨d,op,ty,pos,bF,none⟩ a s K∧iG P ops hs ⟨d',op',ty',pos',aft',none⟩ b s K
  |_,_=>jr
 | .Aj i j k a b c,s=>match ops[i]?,ops[j]?,ops[k]? with
  |some ⟨d,op,ty,pos,bF,none⟩,some ⟨d',op',ty',pos',aft',none⟩,some ⟨d2,op2,ty2,pos2,aft2,none⟩=>iG P ops hs ⟨d,op,ty,pos,bF,none⟩ a s K∧iG P ops hs ⟨d',op',ty',pos',aft',none⟩ b s K∧iG P ops hs ⟨d2,op2,ty2,pos2,aft2,none⟩ c s K
  |_,_,_=>jr
 | .pY i m j n a b,s=>match ops[i]?,ops[j]? with
  |some ⟨d,op,ty,pos,bF,none⟩,some ⟨d',op',ty',pos',aft',none⟩=>pk P ops hs m ⟨d,op,ty,pos,bF,none⟩ a s K∧pk P ops hs n ⟨d',op',ty',pos',aft',none⟩ b s K
  |_,_=>jr
 | .DX i m j n k p a b c,s=>match ops[i]?,ops[j]?,ops[k]? with
  |some ⟨d,op,ty,pos,bF,none⟩,some ⟨d',op',ty',pos',aft',none⟩,some ⟨d2,op2,ty2,pos2,aft2,none⟩=>pk P ops hs m ⟨d,op,ty,pos,bF,none⟩ a s K∧pk P ops hs n ⟨d',op',ty',pos',aft',none⟩ b s K∧pk P ops hs p ⟨d2,op2,ty2,pos2,aft2,none⟩ c s K
  |_,_,_=>jr
 | .it i m r,s=>match ops[i]? with
  |none=>jr
  |some ⟨d,op,ty,pos,bF,none⟩=>match m with
   |0=>match oZ bh op s with
    | .ok x=>fv P bh ops hs K r (s.put d x)
    |@PR.ex c _ f=>∃ h:c,fv P bh ops hs K r (s.put d (f h))
    | .no=>jr
   |1=>iG P ops hs ⟨d,op,ty,pos,bF,none⟩ r s K
   |2=>jr
   |_=>kM P ops hs ⟨d,op,ty,pos,bF,none⟩ r s K
  |some ⟨d,op,ty,pos,bF,some (j,b)⟩=>match rT (rK ops j s) b with
   | .no=>jr
   | .skip=>match m with
    |0=>fv P bh ops hs K r (s.put d (.v undef))
    |2=>fv P bh ops hs K r (s.put d (.v undef))
    |_=>jr
   | .run=>match m with
    |0=>match oZ bh op s with
     | .ok x=>fv P bh ops hs K r (s.put d x)
     |@PR.ex c _ f=>∃ h:c,fv P bh ops hs K r (s.put d (f h))
     | .no=>jr
    |2=>iG P ops hs ⟨d,op,ty,pos,bF,none⟩ r s K
    |_=>jr
end
def MG (P:Program) (bh:Nat→Option TI) (ops:Array Oper) (hs:List Nat) (K:St→Prop) (d:Option Tmp) (r:Sc) (s:St):PR→Prop
 | .ok x=>fv P bh ops hs K r (s.put d x)
 |@PR.ex c _ f=>∃ h:c,fv P bh ops hs K r (s.put d (f h))
 | .no=>jr
def lV (P:Program) (bh:Nat→Option TI) (ops:Array Oper) (hs:List Nat) (K:St→Prop) (m:Nat) (o:Oper) (r:Sc) (s:St):GT→Prop
 | .no=>jr
 | .skip=>match m with
  |0=>fv P bh ops hs K r (s.put o.dst (.v undef))
  |2=>fv P bh ops hs K r (s.put o.dst (.v undef))
  |_=>jr
 | .run=>match m with
  |0=>MG P bh ops hs K o.dst r s (oZ bh o.op s)
  |2=>iG P ops hs {o with guard:=none} r s K
  |_=>jr
def PQ (P:Program) (bh:Nat→Option TI) (ops:Array Oper) (hs:List Nat) (K:St→Prop) (m:Nat) (r:Sc) (s:St):Option Oper→Prop
 |none=>jr
 |some ⟨d,op,ty,pos,bF,none⟩=>match m with
  |0=>MG P bh ops hs K d r s (oZ bh op s)
  |1=>iG P ops hs ⟨d,op,ty,pos,bF,none⟩ r s K
  |2=>jr
  |_=>kM P ops hs ⟨d,op,ty,pos,bF,none⟩ r s K
 |some ⟨d,op,ty,pos,bF,some (j,b)⟩=>lV P bh ops hs K m ⟨d,op,ty,pos,bF,some (j,b)⟩ r s (rT (rK ops j s) b)
variable {bh:Nat→Option TI} {ops:Array Oper} {hs:List Nat} {K:St→Prop} {i m:Nat} {r:Sc} {s:St}
theorem kf:fv P bh ops hs K (.it i m r) s=PQ P bh ops hs K m r s ops[i]?:=by
 rw [fv];unfold PQ lV MG;rfl
variable {o:Oper} {b:Bool}
theorem Hc {c:Bool}
 (h1:c=true→lV P bh ops hs K m o r s (rT (.bool c) b)) (h2:c=false→lV P bh ops hs K m o r s (rT (.bool c) b)):lV P bh ops hs K m o r s (rT (.bool c) b):=by
 cases c
 ·exact h2 rfl
 exact h1 rfl
variable {f:Nat} {listed:Array Bool} {d d':Option Tmp} {op op':Op} {ty ty':TypeId} {pos pos':String} {bF aft':Array Edge}
theorem Hd (i i':Nat) (hi:ops[i]?=some ⟨d,op,ty,pos,bF,none⟩) (hi':ops[i']?=some ⟨d',op',ty',pos',aft',none⟩) (hr:Region.ready .any ops listed=[i,i'])
 (h:∀ K':St→Prop,(∀ s',dt P ops hs f (listed.setIfInBounds i true) s' K→K' s')→dJ P ⟨d,op,ty,pos,bF,none⟩ s K')
 (h':∀ K':St→Prop,(∀ s',dt P ops hs f (listed.setIfInBounds i' true) s' K→K' s')→dJ P ⟨d',op',ty',pos',aft',none⟩ s K'):dt P ops hs (f+1) listed s K:=by
 intro R β G a w hrep hcl;refine ⟨fun h=>(by rw [hr] at h;cases h),fun j hj=>?_⟩;have hmem:=hj;rw [hr] at hj;simp only [qc2,qf9,or_false] at hj;unfold wpOp;rcases hj with rfl|rfl
 ·simp only [hi]
  rw [if_pos (by simp [Region.wanted])];exact .inl (Oper.wp_mono (fun a' w' ⟨hx,β',G',s',hs',hr'⟩=>⟨fun _=>hx,hs' R β' G' a' w' hr' (hcl.set hmem)⟩) (h _ (fun _ h=>h) R β G a w _ hrep))
 simp only [hi'];rw [if_pos (by simp [Region.wanted])];exact .inl (Oper.wp_mono (fun a' w' ⟨hx,β',G',s',hs',hr'⟩=>⟨fun _=>hx,hs' R β' G' a' w' hr' (hcl.set hmem)⟩) (h' _ (fun _ h=>h) R β G a w _ hrep))
def uM (P:Program) (ops:Array Oper) (hs:List Nat) (f:Nat) (listed:Array Bool) (i:Nat) (s:St) (K:St→Prop):Prop:=
 ∀ R β G a w,fw R β G s a w→Closed ops listed→i∈Region.ready .any ops listed→wpOp P ops (QN R K) i (fun a' w'=>(early ops hs i=true→Ext w w')∧He P ops (QN R K) hs f (listed.setIfInBounds i true) a' w') a w
theorem Jh (hi:ops[i]?=some ⟨d,op,ty,pos,bF,none⟩)
 (h:∀ K':St→Prop,(∀ s',dt P ops hs f (listed.setIfInBounds i true) s' K→K' s')→dJ P ⟨d,op,ty,pos,bF,none⟩ s K'):uM P ops hs f listed i s K:=by
 intro R β G a w hrep hcl hmem;unfold wpOp;simp only [hi];rw [if_pos (by simp [Region.wanted])];exact .inl (Oper.wp_mono (fun a' w' ⟨hx,β',G',s',hs',hr'⟩=>⟨fun _=>hx,hs' R β' G' a' w' hr' (hcl.set hmem)⟩) (h _ (fun _ h=>h) R β G a w _ hrep))
theorem Ak (hi:ops[i]?=some ⟨d,op,ty,pos,bF,none⟩) (he:early ops hs i=false)
 (h:∀ K':St→Prop,(∀ s',dt P ops hs f (listed.setIfInBounds i true) s' K→K' s')→ff P ⟨d,op,ty,pos,bF,none⟩ s K'):uM P ops hs f listed i s K:=by
 intro R β G a w hrep hcl hmem;unfold wpOp;simp only [hi];rw [if_pos (by simp [Region.wanted])];exact .inl (Oper.wp_mono (fun a' w' ⟨β',G',s',hs',hr'⟩=>⟨fun h=>(by rw [he] at h;cases h),hs' R β' G' a' w' hr' (hcl.set hmem)⟩) (h _ (fun _ h=>h) R β G a w _ hrep))
variable {j:Nat}
theorem Eb (hr:Region.ready .any ops listed=[i,j]) (h:uM P ops hs f listed i s K) (h':uM P ops hs f listed j s K):dt P ops hs (f+1) listed s K:=by
 intro R β G a w hrep hcl;refine ⟨fun h=>(by rw [hr] at h;cases h),fun k hk=>?_⟩;have hmem:=hk;rw [hr] at hk;simp only [qc2,qf9,or_false] at hk;rcases hk with rfl|rfl
 ·exact h R β G a w hrep hcl hmem
 exact h' R β G a w hrep hcl hmem
theorem Ec {q:Nat} (hr:Region.ready .any ops listed=[i,j,q]) (h:uM P ops hs f listed i s K) (h':uM P ops hs f listed j s K) (h2:uM P ops hs f listed q s K):dt P ops hs (f+1) listed s K:=by
 intro R β G a w hrep hcl;refine ⟨fun h=>(by rw [hr] at h;cases h),fun k hk=>?_⟩;have hmem:=hk;rw [hr] at hk;simp only [qc2,qf9,or_false] at hk;rcases hk with rfl|rfl|rfl
 ·exact h R β G a w hrep hcl hmem
 ·exact h' R β G a w hrep hcl hmem
 exact h2 R β G a w hrep hcl hmem
variable {sc:Sc}
theorem xl (hi:ops[i]?=some ⟨d,op,ty,pos,bF,none⟩) (hm:(m == 1|| !early ops hs i)=true)
 (hsc:dD ops hs sc (listed.setIfInBounds i true) f=true) (h:pk P ops hs m ⟨d,op,ty,pos,bF,none⟩ sc s K):uM P ops hs f listed i s K:=by
 unfold pk at h;split at h
 ·exact Jh hi fun K' hK'=>h K' fun s' hs'=>hK' _ (hs' _ _ hsc)
 rename_i hne;have he:early ops hs i=false:=by
  rw [qe0] at hm;rcases hm with h1|h1
  ·exact absurd (by simpa using h1) hne
  simpa using h1
 exact Ak hi he fun K' hK'=>h K' fun s' hs'=>hK' _ (hs' _ _ hsc)
theorem BS {d2:Option Tmp} {op2:Op} {ty2:TypeId} {pos2:String} {aft2:Array Edge} (i i' i2:Nat) (hi:ops[i]?=some ⟨d,op,ty,pos,bF,none⟩) (hi':ops[i']?=some ⟨d',op',ty',pos',aft',none⟩) (hi2:ops[i2]?=some ⟨d2,op2,ty2,pos2,aft2,none⟩) (hr:Region.ready .any ops listed=[i,i',i2])
 (h:∀ K':St→Prop,(∀ s',dt P ops hs f (listed.setIfInBounds i true) s' K→K' s')→dJ P ⟨d,op,ty,pos,bF,none⟩ s K')
 (h':∀ K':St→Prop,(∀ s',dt P ops hs f (listed.setIfInBounds i' true) s' K→K' s')→dJ P ⟨d',op',ty',pos',aft',none⟩ s K')
 (h2:∀ K':St→Prop,(∀ s',dt P ops hs f (listed.setIfInBounds i2 true) s' K→K' s')→dJ P ⟨d2,op2,ty2,pos2,aft2,none⟩ s K'):dt P ops hs (f+1) listed s K:=by
 intro R β G a w hrep hcl;refine ⟨fun h=>(by rw [hr] at h;cases h),fun j hj=>?_⟩;have hmem:=hj;rw [hr] at hj;simp only [qc2,qf9,or_false] at hj;unfold wpOp;rcases hj with rfl|rfl|rfl
 ·simp only [hi]
  rw [if_pos (by simp [Region.wanted])];exact .inl (Oper.wp_mono (fun a' w' ⟨hx,β',G',s',hs',hr'⟩=>⟨fun _=>hx,hs' R β' G' a' w' hr' (hcl.set hmem)⟩) (h _ (fun _ h=>h) R β G a w _ hrep))
 ·simp only [hi']
  rw [if_pos (by simp [Region.wanted])];exact .inl (Oper.wp_mono (fun a' w' ⟨hx,β',G',s',hs',hr'⟩=>⟨fun _=>hx,hs' R β' G' a' w' hr' (hcl.set hmem)⟩) (h' _ (fun _ h=>h) R β G a w _ hrep))
 simp only [hi2];rw [if_pos (by simp [Region.wanted])];exact .inl (Oper.wp_mono (fun a' w' ⟨hx,β',G',s',hs',hr'⟩=>⟨fun _=>hx,hs' R β' G' a' w' hr' (hcl.set hmem)⟩) (h2 _ (fun _ h=>h) R β G a w _ hrep))
variable {g:Option (Nat×Bool)} {x:AV}
theorem eF
 (h:PV P op s x) (hk:K (s.put d x)):dJ P ⟨d,op,ty,pos,bF,g⟩ s K:=by
 intro R β G a w Q hr;obtain ⟨y,hy,hrun⟩:=h R β G a w hr;unfold Oper.wp;rw [hrun w d ty pos bF g (Below.refl _ _),Oper.upon_value];exact ⟨Below.refl _ _,β,G,_,hk,hr.put d hy⟩
theorem Ed [hT:Tb P bh] (h:MG P bh ops hs K d r s (oZ bh op s)):
 ∃ x,PV P op s x∧fv P bh ops hs K r (s.put d x):=by
 have hs:=mG (P:=P) (bh:=bh) op s;generalize oZ bh op s=q at h hs;cases q with
 |ok x=>exact ⟨x,hs,h⟩
 |ex c f=>obtain ⟨hc,h⟩:=h;exact ⟨_,hs hc,h⟩
 |no=>exact h.elim
theorem pn {bh:Nat→Option TI} [hT:Tb P bh] {ops:Array Oper} {hs:List Nat} {K:St→Prop}:∀ (sc:Sc) (s:St),fv P bh ops hs K sc s→ma P ops hs sc s K
 | .nil,s,h,l,f,hok=>by
  rw [fv] at h;exact qu (by simpa [dD] using hok) h
 | .fk i j a b,s,h,l,0,hok=>by simp [dD] at hok
 | .fk i j a b,s,h,l,f+1,hok=>by
  rw [fv] at h;simp only [dD,nP,qa1,beq_iff_eq] at hok;obtain ⟨⟨hr,ha⟩,hb⟩:=hok;generalize hi:ops[i]?=oi at h;generalize hj:ops[j]?=oj at h;split at h
  ·exact Hd i j hi hj hr (fun K' hK'=>h.1 K' fun s' hs'=>hK' _ (hs' _ _ ha)) (fun K' hK'=>h.2 K' fun s' hs'=>hK' _ (hs' _ _ hb))
  exact h.elim
 | .pY i m j n a b,s,h,l,0,hok=>by simp [dD] at hok
 | .pY i m j n a b,s,h,l,f+1,hok=>by
  rw [fv] at h;simp only [dD,nP,qa1,beq_iff_eq] at hok;obtain ⟨⟨⟨⟨hr,hm⟩,hn⟩,ha⟩,hb⟩:=hok;generalize hi:ops[i]?=oi at h;generalize hj:ops[j]?=oj at h;split at h
  ·exact Eb hr (xl hi hm ha h.1) (xl hj hn hb h.2)
  exact h.elim
 | .DX i m j n k p a b c,s,h,l,0,hok=>by simp [dD] at hok
 | .DX i m j n k p a b c,s,h,l,f+1,hok=>by
  rw [fv] at h;simp only [dD,nP,qa1,beq_iff_eq] at hok;obtain ⟨⟨⟨⟨⟨⟨hr,hm⟩,hn⟩,hp⟩,ha⟩,hb⟩,hc⟩:=hok;generalize hi:ops[i]?=oi at h;generalize hj:ops[j]?=oj at h;generalize hk:ops[k]?=ok at h;split at h
  ·exact Ec hr (xl hi hm ha h.1) (xl hj hn hb h.2.1) (xl hk hp hc h.2.2)
  exact h.elim
 | .Aj i j k a b c,s,h,l,0,hok=>by simp [dD] at hok
 | .Aj i j k a b c,s,h,l,f+1,hok=>by
  rw [fv] at h;simp only [dD,nP,qa1,beq_iff_eq] at hok;obtain ⟨⟨⟨hr,ha⟩,hb⟩,hc⟩:=hok;generalize hi:ops[i]?=oi at h;generalize hj:ops[j]?=oj at h;generalize hk:ops[k]?=ok at h;split at h
  ·exact BS i j k hi hj hk hr (fun K' hK'=>h.1 K' fun s' hs'=>hK' _ (hs' _ _ ha)) (fun K' hK'=>h.2.1 K' fun s' hs'=>hK' _ (hs' _ _ hb)) (fun K' hK'=>h.2.2 K' fun s' hs'=>hK' _ (hs' _ _ hc))
  exact h.elim
 | .it i m r,s,h,l,0,hok=>by simp [dD] at hok
 | .it i m r,s,h,l,f+1,hok=>by
  rw [kf] at h;simp only [dD,nP,qa1] at hok;obtain ⟨hm,hr⟩:=hok;have ih:=fun s h=>pn (bh:=bh) (ops:=ops) (hs:=hs) (K:=K) r s h;generalize hi:ops[i]?=oi at h
  match oi,h with
  |none,h=>exact h.elim
  |some ⟨d,op,ty,pos,bF,none⟩,h=>
   match m,hm,h with
   |0,hm,h=>
    obtain ⟨x,hx,h⟩:=Ed h;exact FB i hi hm hx (fun K' hK'=>hK' _ (ih _ h _ _ hr))
   |1,hm,h=>exact Ee i hi (by simpa using hm) (fun K' hK'=>h K' fun s' hs'=>hK' _ (hs' _ _ hr))
   |2,hm,h=>exact h.elim
   |m+3,hm,h=>
    simp only [qa1,beq_iff_eq,qb7] at hm;exact Hf i hi hm.1 hm.2 (fun K' hK'=>h K' fun s' hs'=>hK' _ (hs' _ _ hr))
  |some ⟨d,op,ty,pos,bF,some (j,b)⟩,h=>
   simp only [PQ] at h;generalize hg:rT (rK ops j s) b=g at h
   match g,h with
   | .no,h=>exact h.elim
   | .skip,h=>
    have hm2:PO ops hs l i=true∧fv P bh ops hs K r (s.put d (.v undef)):=by
     match m,hm,h with
     |0,hm,h=>exact ⟨hm,h⟩
     |1,hm,h=>exact h.elim
     |2,hm,h=>simp only [qa1] at hm;exact ⟨hm.1,h⟩
     |m+3,hm,h=>exact h.elim
    rcases qt hg with hx|hx
    ·obtain ⟨t,h1,h2⟩:=eX hx
     exact wF i hi hm2.1 h1 h2 (by cases b<;>rfl) (fun K' hK'=>hK' _ (ih _ hm2.2 _ _ hr))
    obtain ⟨t,h1,h2⟩:=eX hx;exact wF i hi hm2.1 h1 h2 rfl (fun K' hK'=>hK' _ (ih _ hm2.2 _ _ hr))
   | .run,h=>
    obtain ⟨t,h1,h2⟩:=eX (tl hg)
    match m,hm,h with
    |0,hm,h=>
     obtain ⟨x,hx,h⟩:=Ed h;exact BT i hi hm h1 h2 hx (fun K' hK'=>hK' _ (ih _ h _ _ hr))
    |1,hm,h=>exact h.elim
    |2,hm,h=>
     simp only [qa1,beq_iff_eq] at hm;exact BU i hi hm.2 h1 h2 (fun K' hK'=>fun R β G a w Q hrep=>h K' (fun s' hs'=>hK' _ (hs' _ _ hr)) R β G a w Q hrep)
    |m+3,hm,h=>exact h.elim
def za (n:Nat) (k:Nat→Bool):Bool:=match n with|0=>k 0|m+1=>k (m+1)
theorem kP (n:Nat) (k:Nat→Bool):za n k=k n:=by cases n<;>rfl
def M3:List Nat→(List Nat→Bool)→Bool
 |[],k=>k []
 |n::r,k=>za n fun n=>M3 r fun q=>k (n::q)
theorem FC:∀ (l:List Nat) (k:List Nat→Bool),M3 l k=k l
 |[],k=>rfl
 |n::r,k=>by rw [M3,kP,FC r]
def M4:List (Nat×Nat)→(List (Nat×Nat)→Bool)→Bool
 |[],k=>k []
 |(a,b)::r,k=>za a fun a=>za b fun b=>M4 r fun q=>k ((a,b)::q)
theorem FD:∀ (l:List (Nat×Nat)) (k:List (Nat×Nat)→Bool),M4 l k=k l
 |[],k=>rfl
 |(a,b)::r,k=>by rw [M4,kP,kP,FD r]
def xm:List Edge→Nat→Nat
 |[],m=>m
 |e::r,m=>match Region.binds .any e with
  |true=>xm r (m||| 2 ^ e.on)
  |false=>xm r m
theorem tp (k:Nat):∀ (l:List Edge) (m:Nat),(xm l m).testBit k=(m.testBit k|| l.any fun e=>Region.binds .any e&&e.on == k)
 |[],m=>by simp [xm]
 |e::r,m=>by
  rw [xm];split
  ·rename_i hb
   rw [tp k r];simp only [List.any_cons,hb,ql6,ql3,qf4];by_cases h:e.on=k
   ·simp [h]
   have h2:(e.on == k)=false:=by simp [h]
   simp only [h,h2,decide_false,qc5,qc1]
  rename_i hb;rw [tp k r];simp [List.any_cons,hb]
def PS:List Tmp→Nat→Nat
 |[],m=>m
 |d::r,m=>PS r (m||| 2 ^ d)
theorem FE (k:Nat):∀ (l:List Tmp) (m:Nat),(PS l m).testBit k=(m.testBit k|| l.contains k)
 |[],m=>by simp [PS]
 |d::r,m=>by
  rw [PS,FE k r,List.contains_cons];simp only [ql6,ql3];by_cases h:d=k
  ·simp [h]
  have h2:(k == d)=false:=by simp [Ne.symm h]
  simp [h,h2]
def Hg (l:List Oper) (o:Oper):List Tmp:=
 (o.op.operands.toList.filterMap fun| .tmp t=>some t|_=>none)++
 (match o.guard with
  |some (g,_)=>((l[g]?).bind (·.dst)).toList
  |none=>[])
theorem FG (l:List Oper) (o:Oper):o.looksAt l.toArray=Hg l o:=by
 unfold Oper.looksAt Hg;cases o.guard<;>simp<;>rfl
theorem Uv (a b:Nat):Nat.beq a b=decide (a=b):=by
 by_cases h:a=b
 ·subst h;simp
 simp only [h,decide_false];cases hb:Nat.beq a b
 ·rfl
 exact absurd (qb6 hb) h
structure Rw where
 i:Nat
 m:Nat
 d:Option Nat
 lk:Nat
def rows (l:List Oper):List Oper→Nat→List Rw
 |[],_=>[]
 |o::r,i=>⟨i,xm o.after.toList 0,o.dst,PS (Hg l o) 0⟩::rows l r (i+1)
def Hh:List Rw→(List Rw→Bool)→Bool
 |[],k=>k []
 |⟨i,m,d,lk⟩::r,k=>za i fun i=>za m fun m=>za lk fun lk=>match d with
  |none=>Hh r fun q=>k (⟨i,m,none,lk⟩::q)
  |some d=>za d fun d=>Hh r fun q=>k (⟨i,m,some d,lk⟩::q)
theorem Al:∀ (l:List Rw) (k:List Rw→Bool),Hh l k=k l
 |[],k=>rfl
 |⟨i,m,none,lk⟩::r,k=>by rw [Hh,kP,kP,kP,Al r]
 |⟨i,m,some d,lk⟩::r,k=>by simp only [Hh,kP];rw [Al r]
def tq:List Rw→Nat→List Nat
 |[],_=>[]
 |x::r,D=>match !D.testBit x.i&&Nat.beq (x.m&&&D) x.m with
  |true=>x.i::tq r D
  |false=>tq r D
def TO (x y:Rw):Bool:=(match x.d with|some d=>!y.lk.testBit d&&!(match y.d with|some e=>Nat.beq e d|none=>false)|none=>true)&&(match y.d with|some d=>!x.lk.testBit d|none=>true)
def Hi (x:Rw):List Rw→Nat→Nat
 |[],m=>m
 |y::r,m=>match Nat.beq y.i x.i|| y.m.testBit x.i|| TO x y with
  |true=>Hi x r (m||| 2 ^ y.i)
  |false=>Hi x r m
def PT (R:List Rw):List Nat→List (Nat×Nat)
 |[]=>[]
 |h::t=>match R[h]? with
  |some x=>(h,Hi x R 0)::PT R t
  |none=>PT R t
def Ji:List (Nat×Nat)→Nat→Nat
 |[],_=>0
 |(a,b)::r,i=>match Nat.beq a i with
  |true=>b
  |false=>Ji r i
def hM (R:List Rw) (FR:List (Nat×Nat)) (full:Nat) (hs:List Nat) (i D:Nat):Bool:=(tq R D).contains i&&Nat.beq ((Ji FR i||| D)&&&full) full&&hs.contains i
def po (bf hs:List Nat) (i:Nat):Bool:=hs.any fun k=>!(bf.getD i 0).testBit k
def wG (R:List Rw) (FR:List (Nat×Nat)) (full:Nat) (hs bf:List Nat):Sc→Nat→Nat→Bool
 | .nil,D,_=>tq R D == []
 | .fk i j a b,D,f+1=>tq R D == [i,j]&&za (D||| 2 ^ i) (fun D=>wG R FR full hs bf a D f)&&za (D||| 2 ^ j) (fun D=>wG R FR full hs bf b D f)
 | .Aj i j k a b c,D,f+1=>tq R D == [i,j,k]&&za (D||| 2 ^ i) (fun D=>wG R FR full hs bf a D f)&&za (D||| 2 ^ j) (fun D=>wG R FR full hs bf b D f)&&za (D||| 2 ^ k) (fun D=>wG R FR full hs bf c D f)
 | .pY i m j n a b,D,f+1=>tq R D == [i,j]&&(m == 1|| !po bf hs i)&&(n == 1|| !po bf hs j)&&za (D||| 2 ^ i) (fun D=>wG R FR full hs bf a D f)&&za (D||| 2 ^ j) (fun D=>wG R FR full hs bf b D f)
 | .DX i m j n k p a b c,D,f+1=>tq R D == [i,j,k]&&(m == 1|| !po bf hs i)&&(n == 1|| !po bf hs j)&&(p == 1|| !po bf hs k)&&za (D||| 2 ^ i) (fun D=>wG R FR full hs bf a D f)&&za (D||| 2 ^ j) (fun D=>wG R FR full hs bf b D f)&&za (D||| 2 ^ k) (fun D=>wG R FR full hs bf c D f)
 | .it i m r,D,f+1=>(match m with
  |0=>hM R FR full hs i D
  |1=>tq R D == [i]
  |2=>hM R FR full hs i D&&tq R D == [i]
  |_=>tq R D == [i]&&!po bf hs i)&&za (D||| 2 ^ i) (fun D=>wG R FR full hs bf r D f)
 | .fk _ _ _ _,_,0=>false
 | .Aj _ _ _ _ _ _,_,0=>false
 | .pY _ _ _ _ _ _,_,0=>false
 | .DX _ _ _ _ _ _ _ _ _,_,0=>false
 | .it _ _ _,_,0=>false
def Sc.asks:Sc→Bool
 | .nil=>false
 | .fk _ _ a b=>a.asks|| b.asks
 | .Aj _ _ _ a b c=>a.asks|| b.asks|| c.asks
 | .pY _ _ _ _ _ _=>true
 | .DX _ _ _ _ _ _ _ _ _=>true
 | .it _ m r=>decide (2 < m)|| r.asks
def Ef (l:List Oper):Bool→List Nat
 |true=>CheckFast.beforeL l 0 []
 |false=>[]
def kQ (l:List Oper) (hs:List Nat) (sc:Sc):Bool:=
 (l.all fun o=>match o.op with| .select ..=>false|_=>true)&&
 Hh (rows l l 0) fun R=>M4 (PT R hs) fun FR=>za (2 ^ l.length - 1) fun full=>M3 (Ef l sc.asks) fun bf=>wG R FR full hs bf sc 0 l.length
structure Inv (n:Nat) (l:Array Bool) (D:Nat):Prop where
 sz:l.size=n
 bit:∀ j,l.getD j false=D.testBit j
variable {n D:Nat}
theorem Inv.SK {l:Array Bool} (h:Inv n l D) (hj:j < n):l.getD j true=D.testBit j:=by
 rw [← h.bit j];have:=h.sz;simp [Array.getD,this,hj]
theorem Inv.set {l:Array Bool} (h:Inv n l D) (hi:i < n):Inv n (l.setIfInBounds i true) (D||| 2 ^ i):=by
 refine ⟨by simp [h.sz],fun j=>?_⟩;have h1:=h.bit j;have h2:=h.sz;simp only [ql6,ql3,← h1];by_cases hij:i=j
 ·subst hij
  simp [Array.getD,h2,hi]
 simp only [qf6,hij,decide_false,qc5];rw [Array.getElem?_setIfInBounds_ne hij]
theorem Jj (n:Nat):Inv n (Array.replicate n false) 0:=by
 refine ⟨by simp,fun j=>?_⟩;simp only [Nat.zero_testBit,Array.getD,Array.size_replicate];split<;>simp
theorem BV:Nat.beq (m&&&D) m=true↔∀ k,m.testBit k=true→D.testBit k=true:=by
 rw [Nat.beq_eq];constructor
 ·intro h k hk
  have:(m&&&D).testBit k=true:=by rw [h];exact hk
  rw [Nat.testBit_and] at this;simp only [qa1] at this;exact this.2
 intro h;apply Nat.eq_of_testBit_eq;intro k;rw [Nat.testBit_and];cases hk:m.testBit k
 ·rfl
 simp [h k hk]
theorem FH {l:List Oper} {lst:Array Bool} {D:Nat} (hv:Inv l.length lst D):∀ (r:List Oper) (k:Nat),(∀ j,r[j]?=l[k+j]?)→
 tq (rows l r k) D=(List.range' k r.length).filter fun i=>!lst.getD i true&&((l.toArray[i]?).map (·.after.all fun e=>!Region.binds .any e|| lst.getD e.on false)).getD false
 |[],k,h=>rfl
 |o::r,k,h=>by
  have h0:l[k]?=some o:=by simpa using (h 0).symm
  have hk:k < l.length:=(qk2.1 h0).1;have ih:=FH hv r (k+1) (fun j=>by
   have:=h (j+1);rw [qb2] at this;rw [this];congr 1;omega)
  have hc:(!D.testBit k&&Nat.beq (xm o.after.toList 0&&&D) (xm o.after.toList 0))=(!lst.getD k true&&((l.toArray[k]?).map (·.after.all fun e=>!Region.binds .any e|| lst.getD e.on false)).getD false):=by
   rw [hv.SK hk];congr 1;rw [qf7,BV];simp only [qa0,h0,qg2,qf3,tp,Nat.zero_testBit,qc1,qi0,qa1,beq_iff_eq,Array.all_eq_true_iff_forall_mem,qe0,qb7,hv.bit];constructor
   ·intro h e he
    cases hb:Region.binds .any e
    ·exact .inl rfl
    exact .inr (h _ ⟨e,Array.mem_toList_iff.2 he,hb,rfl⟩)
   rintro h k ⟨e,he,hb,rfl⟩;rcases h e (Array.mem_toList_iff.1 he) with h|h
   ·rw [hb] at h;cases h
   exact h
  rw [rows,tq];simp only [qb8,List.range'_succ,List.filter_cons];rw [hc,ih];cases (!lst.getD k true&&((l.toArray[k]?).map (·.after.all fun e=>!Region.binds .any e|| lst.getD e.on false)).getD false)<;>simp
variable {l:List Oper} {lst:Array Bool}
theorem mb (hv:Inv l.length lst D):tq (rows l l 0) D=Region.ready .any l.toArray lst:=by
 rw [FH hv l 0 (fun j=>by simp)];unfold Region.ready;rw [List.size_toArray,List.range_eq_range']
theorem xn {l:List Oper} {y:Rw}:∀ (r:List Oper) (k:Nat),(∀ j,r[j]?=l[k+j]?)→y∈rows l r k→∃ o,l[y.i]?=some o∧y=⟨y.i,xm o.after.toList 0,o.dst,PS (Hg l o) 0⟩
 |[],k,h,hy=>by simp [rows] at hy
 |o::r,k,h,hy=>by
  rw [rows,qc2] at hy;rcases hy with rfl|hy
  ·exact ⟨o,by simpa using (h 0).symm,rfl⟩
  exact xn r (k+1) (fun j=>by
   have:=h (j+1);rw [qb2] at this;rw [this];congr 1;omega) hy
theorem Jk {l:List Oper} {y:Rw}:∀ (r:List Oper) (k h:Nat),(rows l r k)[h]?=some y→y.i=k+h
 |[],k,h,e=>by simp [rows] at e
 |o::r,k,0,e=>by simp [rows] at e;rw [← e];rfl
 |o::r,k,h+1,e=>by
  rw [rows,qb2] at e;have:=Jk r (k+1) h e;omega
theorem xo {x:Rw} {j:Nat}:∀ (R:List Rw) (m:Nat),(Hi x R m).testBit j=true→m.testBit j=true∨∃ y∈R,y.i=j∧(Nat.beq y.i x.i|| y.m.testBit x.i|| TO x y)=true
 |[],m,h=>.inl h
 |y::r,m,h=>by
  rw [Hi] at h;split at h
  ·rename_i hc
   rcases xo r _ h with h|⟨z,hz,h⟩
   ·simp only [ql6,ql3,qe0,decide_eq_true_eq] at h
    rcases h with h|h
    ·exact .inl h
    exact .inr ⟨y,by simp,h,hc⟩
   exact .inr ⟨z,by simp [hz],h⟩
  rcases xo r _ h with h|⟨z,hz,h⟩
  ·exact .inl h
  exact .inr ⟨z,by simp [hz],h⟩
theorem uN {R:List Rw} {i:Nat}:∀ (hs:List Nat),Ji (PT R hs) i=0∨∃ x,R[i]?=some x∧Ji (PT R hs) i=Hi x R 0
 |[]=>.inl rfl
 |h::t=>by
  rw [PT];split
  ·rename_i x hx
   rw [Ji];split
   ·rename_i hb
    rw [Nat.beq_eq] at hb;subst hb;exact .inr ⟨x,hx,rfl⟩
   exact uN t
  exact uN t
theorem QB {ox oy:Oper} (h:TO ⟨i,xm ox.after.toList 0,ox.dst,PS (Hg l ox) 0⟩ ⟨j,xm oy.after.toList 0,oy.dst,PS (Hg l oy) 0⟩=true):ox.apart l.toArray oy=true:=by
 unfold TO at h;unfold Oper.apart;rw [FG,FG];simp only [FE,Nat.zero_testBit,qc1] at h;revert h;cases ox.dst<;>cases oy.dst<;>simp [Uv]
 done
theorem PU (hv:Inv l.length lst D) (hsel:Region.noSelect l.toArray=true) (h:hM (rows l l 0) (PT (rows l l 0) hs) (2 ^ l.length - 1) hs i D=true):PO l.toArray hs lst i=true:=by
 unfold hM at h;simp only [qa1] at h;obtain ⟨⟨h1,h2⟩,h3⟩:=h;rw [mb hv] at h1;unfold PO;simp only [qa1];refine ⟨⟨⟨hsel,h1⟩,?_⟩,h3⟩;have hir:=mem_ready.1 (qj1.1 h1);obtain ⟨hi0,oi,hoi,_⟩:=hir;have hin:i < l.length:=by have:=(Array.getElem?_eq_some_iff.1 hoi).1;simpa using this
 unfold Region.free;simp only [hoi,qc8,qh2,List.size_toArray];intro j hj;rw [Nat.and_comm,BV] at h2;have hb:=h2 j (by simp [Nat.testBit_two_pow_sub_one,hj]);simp only [ql6,qe0] at hb;rcases hb with hb|hb
 ·rcases uN (R:=rows l l 0) (i:=i) hs with h0|⟨x,hx,h0⟩
  ·rw [h0] at hb;simp at hb
  rw [h0] at hb;rcases xo _ _ hb with hb|⟨y,hy,hyj,hc⟩
  ·simp at hb
  obtain ⟨oy,hoy,hye⟩:=xn l 0 (fun j=>by simp) hy;have hxi:=Jk l 0 i hx;obtain ⟨ox,hox,hxe⟩:=xn l 0 (fun j=>by simp) (qg0 hx);rw [ql4] at hxi;rw [hxi] at hox hxe;rw [hyj] at hoy hye;have hoi':l[i]?=some oi:=by simpa using hoi
  rw [hoi'] at hox;injection hox with hox
  subst hox;simp only [qa0,hoy];rw [hxe,hye] at hc;simp only [qe0] at hc ⊢;rcases hc with (hc|hc)|hc
  ·rw [Nat.beq_eq] at hc;exact .inl (.inl (by simpa using hc))
  ·rw [tp] at hc
   simp only [Nat.zero_testBit,qc1] at hc;refine .inr (.inl ?_);rw [← hc,← Array.any_toList]
  exact .inr (.inr (QB hc))
 simp [hv.SK hj,hb]
theorem zb (h:(!po (Ef l b) hs i)=true):(!early l.toArray hs i)=true:=by
 have h1:∀ k∈hs,((Ef l b).getD i 0).testBit k=true:=by simpa [po] using h
 simp only [qb7,early,qi6,qb7,Bool.not_eq_false,qj7];intro k hk;have h2:=h1 k hk;cases b
 ·simp [Ef] at h2
 rw [← CheckFast.beforeF_eq];unfold CheckFast.beforeF;simp only [Ef] at h2;rw [qh7] at h2;simp only [qf6,qa0];simpa using h2
theorem QC (hsel:Region.noSelect l.toArray=true):∀ (sc:Sc) (D f:Nat) (lst:Array Bool),Inv l.length lst D→
 wG (rows l l 0) (PT (rows l l 0) hs) (2 ^ l.length - 1) hs (Ef l b) sc D f=true→dD l.toArray hs sc lst f=true:=by
 have hin:∀ {lst i},i∈Region.ready .any l.toArray lst→i < l.length:=by intro lst i h;unfold Region.ready at h;simpa using (qh2.1 (qh1.1 h).1)
 have hm:∀ {m i:Nat},(m == 1|| !po (Ef l b) hs i)=true→(m == 1|| !early l.toArray hs i)=true:=by intro m i h;rw [qe0] at h ⊢;exact h.imp id zb
 intro sc
 induction sc with
 |nil=>
  intro D f lst hv h;simp only [wG,mb hv] at h;simpa [dD] using h
 |it i m r ih=>
  intro D f lst hv h;cases f with
  |zero=>simp [wG] at h
  |succ f=>
   simp only [wG,kP,qa1] at h;simp only [dD,nP,qa1];obtain ⟨h1,h2⟩:=h;have key:(match (generalizing:=false) m with
    |0=>PO l.toArray hs lst i
    |1=>Region.ready .any l.toArray lst == [i]
    |2=>PO l.toArray hs lst i&&Region.ready .any l.toArray lst == [i]
    |_=>Region.ready .any l.toArray lst == [i]&&!early l.toArray hs i)=true∧i∈Region.ready .any l.toArray lst:=by
    match m,h1 with
    |0,h1=>
     have:=PU hv hsel h1;refine ⟨this,?_⟩;simp only [PO,qa1,qj1] at this;exact this.1.1.2
    |1,h1=>
     simp only [mb hv] at h1;refine ⟨h1,?_⟩;rw [beq_iff_eq] at h1;rw [h1];simp
    |2,h1=>
     simp only [mb hv,qa1] at h1;refine ⟨by simp only [qa1];exact ⟨PU hv hsel h1.1,h1.2⟩,?_⟩;have h1:=h1.2;rw [beq_iff_eq] at h1;rw [h1];simp
    |m+3,h1=>
     simp only [mb hv,qa1] at h1;refine ⟨by simp only [qa1];exact ⟨h1.1,zb h1.2⟩,?_⟩;have h1:=h1.1;rw [beq_iff_eq] at h1;rw [h1];simp
   exact ⟨key.1,ih _ _ _ (hv.set (hin key.2)) h2⟩
 |fk i j a b iha ihb=>
  intro D f lst hv h;cases f with
  |zero=>simp [wG] at h
  |succ f=>
   simp only [wG,kP,qa1,mb hv] at h;simp only [dD,nP,qa1];obtain ⟨⟨h1,h2⟩,h3⟩:=h;have e:=h1;rw [beq_iff_eq] at e;exact ⟨⟨h1,iha _ _ _ (hv.set (hin (by rw [e];simp))) h2⟩,ihb _ _ _ (hv.set (hin (by rw [e];simp))) h3⟩
 |Aj i j k a b c iha ihb ihc=>
  intro D f lst hv h;cases f with
  |zero=>simp [wG] at h
  |succ f=>
   simp only [wG,kP,qa1,mb hv] at h;simp only [dD,nP,qa1];obtain ⟨⟨⟨h1,h2⟩,h3⟩,h4⟩:=h;have e:=h1;rw [beq_iff_eq] at e;exact ⟨⟨⟨h1,iha _ _ _ (hv.set (hin (by rw [e];simp))) h2⟩,ihb _ _ _ (hv.set (hin (by rw [e];simp))) h3⟩,ihc _ _ _ (hv.set (hin (by rw [e];simp))) h4⟩
 |pY i m j n a b iha ihb=>
  intro D f lst hv h;cases f with
  |zero=>simp [wG] at h
  |succ f=>
   simp only [wG,kP,qa1,mb hv] at h;simp only [dD,nP,qa1];obtain ⟨⟨⟨⟨h1,hm1⟩,hm2⟩,h2⟩,h3⟩:=h;have e:=h1;rw [beq_iff_eq] at e;exact ⟨⟨⟨⟨h1,hm hm1⟩,hm hm2⟩,iha _ _ _ (hv.set (hin (by rw [e];simp))) h2⟩,ihb _ _ _ (hv.set (hin (by rw [e];simp))) h3⟩
 |DX i m j n k p a b c iha ihb ihc=>
  intro D f lst hv h;cases f with
  |zero=>simp [wG] at h
  |succ f=>
   simp only [wG,kP,qa1,mb hv] at h;simp only [dD,nP,qa1];obtain ⟨⟨⟨⟨⟨⟨h1,hm1⟩,hm2⟩,hm3⟩,h2⟩,h3⟩,h4⟩:=h;have e:=h1;rw [beq_iff_eq] at e;exact ⟨⟨⟨⟨⟨⟨h1,hm hm1⟩,hm hm2⟩,hm hm3⟩,iha _ _ _ (hv.set (hin (by rw [e];simp))) h2⟩,ihb _ _ _ (hv.set (hin (by rw [e];simp))) h3⟩,ihc _ _ _ (hv.set (hin (by rw [e];simp))) h4⟩
theorem Am (h:kQ l hs sc=true):dD l.toArray hs sc (Array.replicate l.length false) l.length=true:=by
 unfold kQ at h;simp only [Al,FD,kP,FC,qa1] at h;refine QC ?_ sc 0 _ _ (Jj _) h.2;unfold Region.noSelect;rw [List.all_toArray];exact h.1
theorem PX [hT:Tb P bh] {id:Nat} {Q:Exit→St→Prop} (sc:Sc) (hs:List Nat)
 (hok:(P.follows .mixedOrders&&kQ l hs sc)=true)
 (h:fv P bh l.toArray hs (Q .normal) sc s) (hd:iL l=true:=by rfl):AW P (.region id l.toArray true) s Q:=by
 simp only [qa1] at hok;exact wH l.length hs rfl hok.1 (pn sc s h _ _ (Am hok.2)) hd
theorem Jl [hT:Tb P bh] {f:FuncId} {args:Array Operand} {fx:Array TypeId} {ty:TypeId} {pos:String} {bF:Array Edge} [hc:cI P f]
 (h:bm P f (cv s args) (fun y=>y=x)) (hp:AV.cu (cv s args)=true) (hk:fv P bh ops hs K r (s.put d x)):iG P ops hs ⟨d,.call {callee:=.value (.func f),args,argTypes:=fx},ty,pos,bF,none⟩ r s K:=
 fun K' hK'=>Hj h hp fun y hy=>by subst hy;exact hK' _ (pn _ _ hk)
theorem c8 [hT:Tb P bh] (h:∀ K':St→Prop,(∀ s',fv P bh ops hs K r s'→K' s')→dJ P o s K'):iG P ops hs o r s K:=
 fun K' hK'=>h K' fun s' hs'=>hK' s' (pn _ _ hs')
theorem fQ [hT:Tb P bh] (h:∀ K':St→Prop,(∀ s',fv P bh ops hs K r s'→K' s')→ff P o s K'):kM P ops hs o r s K:=
 fun K' hK'=>h K' fun s' hs'=>hK' s' (pn _ _ hs')
def TP (P:Program) (bh:Nat→Option TI) (ops:Array Oper) (hs:List Nat) (K:St→Prop) (r:Sc):SR→Prop
 | .ok s'=>fv P bh ops hs K r s'
 |@SR.ex c _ f=>∃ h:c,fv P bh ops hs K r (f h)
 | .no=>jr
theorem M5 [hT:Tb P bh]
 (h:TP P bh ops hs K r (nO bh op d s)):kM P ops hs ⟨d,op,ty,pos,bF,g⟩ r s K:=by
 have hs:=Je (P:=P) (bh:=bh) op d s;generalize nO bh op d s=q at h hs;cases q with
 |ok s'=>exact fun K' hK'=>hs _ _ _ _ _ (hK' _ (pn _ _ h))
 |ex c f=>obtain ⟨hc,h⟩:=h;exact fun K' hK'=>hs hc _ _ _ _ _ (hK' _ (pn _ _ h))
 |no=>exact h.elim
theorem M6 [hT:Tb P bh]
 (h:MG P bh ops hs K d r s (oZ bh op s)):iG P ops hs ⟨d,op,ty,pos,bF,g⟩ r s K:=by
 obtain ⟨x,hx,h⟩:=Ed h;exact fun K' hK'=>eF hx (hK' _ (pn _ _ h))
end Go.Ab
namespace Go.Ab
def BW:List Oper→Nat→Option Tmp
 |[],_=>none
 |o::_,0=>o.dst
 |_::r,j+1=>BW r j
def DY:List Oper→Nat→Option Oper
 |[],_=>none
 |o::_,0=>some o
 |_::r,j+1=>DY r j
def TQ (s:St):Option Tmp→AV
 |some t=>s.fr.getD t .any
 |none=>.any
theorem bS:∀ (l:List Oper) (j:Nat),l[j]?=DY l j
 |[],_=>rfl
 |_::_,0=>rfl
 |o::r,j+1=>by rw [qb2,bS r j];rfl
theorem FI:∀ (l:List Oper) (j:Nat),(l[j]?).bind (·.dst)=BW l j
 |[],_=>rfl
 |_::_,0=>rfl
 |o::r,j+1=>by rw [qb2,FI r j];rfl
theorem qv (l:List Oper) (j:Nat) (s:St):rK l.toArray j s=TQ s (BW l j):=by
 unfold rK TQ;rw [qa0,FI];(try (cases BW l j<;>rfl))
def BX (ps:List (Nat×AV)) (z:List AV):Option TI→PR
 |some i=>.ex (eU (fun k=>some (k * i.n,i.n)) z.length ps=true) (fun _=>.agg (iu (fun k=>some (k * i.n)) z ps))
 |none=>.no
def lW (sz:Nat) (t:Option TI) (c:Prop) [Decidable c] (x:AV):PR:=match t with
 |some i=>if sz=i.n then .ex c (fun _=>x) else .no
 |none=>.no
def TR (P:Program) (ops:Array Oper) (hs:List Nat) (K:St→Prop) (a b:Sc) (s:St):Option Oper→Option Oper→Prop
 |some ⟨d,op,ty,pos,bF,none⟩,some ⟨d',op',ty',pos',aft',none⟩=>iG P ops hs ⟨d,op,ty,pos,bF,none⟩ a s K∧iG P ops hs ⟨d',op',ty',pos',aft',none⟩ b s K
 |_,_=>jr
def M7 (P:Program) (ops:Array Oper) (hs:List Nat) (K:St→Prop) (m n:Nat) (a b:Sc) (s:St):Option Oper→Option Oper→Prop
 |some ⟨d,op,ty,pos,bF,none⟩,some ⟨d',op',ty',pos',aft',none⟩=>pk P ops hs m ⟨d,op,ty,pos,bF,none⟩ a s K∧pk P ops hs n ⟨d',op',ty',pos',aft',none⟩ b s K
 |_,_=>jr
variable {P:Program} {bh:Nat→Option TI} {ops:Array Oper} {hs:List Nat} {K:St→Prop} {i m j n:Nat} {a b:Sc} {s:St}
theorem ni:fv P bh ops hs K (.pY i m j n a b) s=M7 P ops hs K m n a b s ops[i]? ops[j]?:=by
 rw [fv];unfold M7;rfl
def M8 (P:Program) (ops:Array Oper) (hs:List Nat) (K:St→Prop) (m n p:Nat) (a b c:Sc) (s:St):Option Oper→Option Oper→Option Oper→Prop
 |some ⟨d,op,ty,pos,bF,none⟩,some ⟨d',op',ty',pos',aft',none⟩,some ⟨d2,op2,ty2,pos2,aft2,none⟩=>pk P ops hs m ⟨d,op,ty,pos,bF,none⟩ a s K∧pk P ops hs n ⟨d',op',ty',pos',aft',none⟩ b s K∧pk P ops hs p ⟨d2,op2,ty2,pos2,aft2,none⟩ c s K
 |_,_,_=>jr
variable {k:Nat} {c:Sc}
theorem nj {p:Nat}:fv P bh ops hs K (.DX i m j n k p a b c) s=M8 P ops hs K m n p a b c s ops[i]? ops[j]? ops[k]?:=by
 rw [fv];unfold M8;rfl
def M9 (P:Program) (ops:Array Oper) (hs:List Nat) (K:St→Prop) (a b c:Sc) (s:St):Option Oper→Option Oper→Option Oper→Prop
 |some ⟨d,op,ty,pos,bF,none⟩,some ⟨d',op',ty',pos',aft',none⟩,some ⟨d2,op2,ty2,pos2,aft2,none⟩=>iG P ops hs ⟨d,op,ty,pos,bF,none⟩ a s K∧iG P ops hs ⟨d',op',ty',pos',aft',none⟩ b s K∧iG P ops hs ⟨d2,op2,ty2,pos2,aft2,none⟩ c s K
 |_,_,_=>jr
theorem nk:fv P bh ops hs K (.Aj i j k a b c) s=M9 P ops hs K a b c s ops[i]? ops[j]? ops[k]?:=by
 rw [fv];unfold M9;rfl
theorem qw:fv P bh ops hs K (.fk i j a b) s=TR P ops hs K a b s ops[i]? ops[j]?:=by
 rw [fv];unfold TR;rfl
theorem Vg:(∀ (P:Program) (bh:Nat→Option TI) (all:Array Oper) (K:St→Prop) (s:St),dP P bh all K [] s=K s)∧
 (∀ (P:Program) (bh:Nat→Option TI) (all:Array Oper) (K:St→Prop) (d:Option Tmp) (op:Op) (ty:TypeId) (pos:String) (bF:Array Edge) (r:List Oper) (s:St),dP P bh all K (⟨d,op,ty,pos,bF,none⟩::r) s=MF P bh all K ⟨d,op,ty,pos,bF,none⟩ r s (nO bh op d s))∧
 (∀ (P:Program) (bh:Nat→Option TI) (all:Array Oper) (K:St→Prop) (d:Option Tmp) (op:Op) (ty:TypeId) (pos:String) (bF:Array Edge) (r:List Oper) (s:St) (j:Nat) (b:Bool),dP P bh all K (⟨d,op,ty,pos,bF,some (j,b)⟩::r) s=mu P bh all K ⟨d,op,ty,pos,bF,some (j,b)⟩ r s (rT (rK all j s) b))∧
 (∀ (P:Program) (bh:Nat→Option TI) (all:Array Oper) (K:St→Prop) (o:Oper) (r:List Oper) (s:St) (s':St),MF P bh all K o r s (.ok s')=dP P bh all K r s')∧
 (∀ (P:Program) (bh:Nat→Option TI) (all:Array Oper) (K:St→Prop) (o:Oper) (r:List Oper) (s:St) (c:Prop) [Decidable c] (f:c→St),MF P bh all K o r s (.ex c f)=∃ h:c,dP P bh all K r (f h))∧
 (∀ (P:Program) (bh:Nat→Option TI) (all:Array Oper) (K:St→Prop) (o:Oper) (r:List Oper) (s:St),MF P bh all K o r s .no=eV P all o r s K)∧
 (∀ (P:Program) (bh:Nat→Option TI) (all:Array Oper) (K:St→Prop) (d:Option Tmp) (op:Op) (ty:TypeId) (pos:String) (bF:Array Edge) (r:List Oper) (s:St) (g:Option (Nat×Bool)),mu P bh all K ⟨d,op,ty,pos,bF,g⟩ r s .run=MF P bh all K ⟨d,op,ty,pos,bF,none⟩ r s (nO bh op d s))∧
 (∀ (P:Program) (bh:Nat→Option TI) (all:Array Oper) (K:St→Prop) (d:Option Tmp) (op:Op) (ty:TypeId) (pos:String) (bF:Array Edge) (r:List Oper) (s:St) (g:Option (Nat×Bool)),mu P bh all K ⟨d,op,ty,pos,bF,g⟩ r s .skip=dP P bh all K r (s.put d (.v undef)))∧
 (rT (.bool true) true= .run)∧
 (rT (.bool false) false= .run)∧
 (rT (.bool true) false= .skip)∧
 (rT (.bool false) true= .skip)∧
 (∀ (b:Bool),rT (.v undef) b= .skip)∧
 (∀ (l:List Oper) (j:Nat) (s:St),rK l.toArray j s=TQ s (BW l j))∧
 (∀ (s:St) (t:Nat),TQ s (some t)=s.fr.getD t .any)∧
 (∀ (d:Option Tmp) (op:Op) (ty:TypeId) (pos:String) (bF:Array Edge) (g:Option (Nat×Bool)) (r:List Oper),BW (⟨d,op,ty,pos,bF,g⟩::r) 0=d)∧
 (∀ (o:Oper) (r:List Oper) (j:Nat),BW (o::r) (j+1)=BW r j)∧
 (∀ (P:Program) (bh:Nat→Option TI) (ops:Array Oper) (hs:List Nat) (K:St→Prop) (s:St),fv P bh ops hs K .nil s=K s)∧
 (∀ (P:Program) (bh:Nat→Option TI) (hs:List Nat) (K:St→Prop) (i m:Nat) (r:Sc) (s:St) (l:List Oper),fv P bh l.toArray hs K (.it i m r) s=PQ P bh l.toArray hs K m r s (DY l i))∧
 (∀ (P:Program) (bh:Nat→Option TI) (hs:List Nat) (K:St→Prop) (i j:Nat) (a b:Sc) (s:St) (l:List Oper),fv P bh l.toArray hs K (.fk i j a b) s=TR P l.toArray hs K a b s (DY l i) (DY l j))∧
 (∀ (P:Program) (ops:Array Oper) (hs:List Nat) (K:St→Prop) (a b:Sc) (s:St) (d d':Option Tmp) (op op':Op) (ty ty':TypeId) (pos pos':String) (bF aft':Array Edge),TR P ops hs K a b s (some ⟨d,op,ty,pos,bF,none⟩) (some ⟨d',op',ty',pos',aft',none⟩)=(iG P ops hs ⟨d,op,ty,pos,bF,none⟩ a s K∧iG P ops hs ⟨d',op',ty',pos',aft',none⟩ b s K))∧
 (∀ (P:Program) (bh:Nat→Option TI) (hs:List Nat) (K:St→Prop) (i j k:Nat) (a b c:Sc) (s:St) (l:List Oper),fv P bh l.toArray hs K (.Aj i j k a b c) s=M9 P l.toArray hs K a b c s (DY l i) (DY l j) (DY l k))∧
 (∀ (P:Program) (ops:Array Oper) (hs:List Nat) (K:St→Prop) (a b c:Sc) (s:St) (d d' d2:Option Tmp) (op op' op2:Op) (ty ty' ty2:TypeId) (pos pos' pos2:String) (bF aft' aft2:Array Edge),M9 P ops hs K a b c s (some ⟨d,op,ty,pos,bF,none⟩) (some ⟨d',op',ty',pos',aft',none⟩) (some ⟨d2,op2,ty2,pos2,aft2,none⟩)=(iG P ops hs ⟨d,op,ty,pos,bF,none⟩ a s K∧iG P ops hs ⟨d',op',ty',pos',aft',none⟩ b s K∧iG P ops hs ⟨d2,op2,ty2,pos2,aft2,none⟩ c s K))∧
 (∀ (P:Program) (bh:Nat→Option TI) (hs:List Nat) (K:St→Prop) (i m j n k p:Nat) (a b c:Sc) (s:St) (l:List Oper),fv P bh l.toArray hs K (.DX i m j n k p a b c) s=M8 P l.toArray hs K m n p a b c s (DY l i) (DY l j) (DY l k))∧
 (∀ (P:Program) (ops:Array Oper) (hs:List Nat) (K:St→Prop) (m n p:Nat) (a b c:Sc) (s:St) (d d' d2:Option Tmp) (op op' op2:Op) (ty ty' ty2:TypeId) (pos pos' pos2:String) (bF aft' aft2:Array Edge),M8 P ops hs K m n p a b c s (some ⟨d,op,ty,pos,bF,none⟩) (some ⟨d',op',ty',pos',aft',none⟩) (some ⟨d2,op2,ty2,pos2,aft2,none⟩)=(pk P ops hs m ⟨d,op,ty,pos,bF,none⟩ a s K∧pk P ops hs n ⟨d',op',ty',pos',aft',none⟩ b s K∧pk P ops hs p ⟨d2,op2,ty2,pos2,aft2,none⟩ c s K)):=by
 refine ⟨?_,?_,?_,?_,?_,?_,?_,?_,?_,?_,?_,?_,?_,?_,?_,?_,?_,?_,?_,?_,?_,?_,?_,?_,?_⟩<;>intros<;>first|rfl|(rw [dP];done)|exact ji|exact iF|exact qv _ _ _|(rw [fv];done)|(rw [kf,qa0,bS];done)|(rw [qw,qa0,qa0,bS,bS];done)|(rw [ni,qa0,qa0,bS,bS];done)|(rw [nj,qa0,qa0,qa0,bS,bS,bS];done)|(rw [nk,qa0,qa0,qa0,bS,bS,bS];done)|(cases ‹AV›<;>rfl)|(simp [eR];done)|(simp [fP,s6,s7,s9];done)|(rename_i ti _ _ _ _ _ _;cases ti<;>simp [s9];done)|(simp [uJ,gj,hJ,lW,ou];done)|(rename_i a b;cases a<;>cases b<;>rfl)|(rename_i a b;simp only [eR];split<;>simp_all)
theorem Vh:(∀ (P:Program) (bh:Nat→Option TI) (hs:List Nat) (K:St→Prop) (i m j n:Nat) (a b:Sc) (s:St) (l:List Oper),fv P bh l.toArray hs K (.pY i m j n a b) s=M7 P l.toArray hs K m n a b s (DY l i) (DY l j))∧
 (∀ (P:Program) (ops:Array Oper) (hs:List Nat) (K:St→Prop) (m n:Nat) (a b:Sc) (s:St) (d d':Option Tmp) (op op':Op) (ty ty':TypeId) (pos pos':String) (bF aft':Array Edge),M7 P ops hs K m n a b s (some ⟨d,op,ty,pos,bF,none⟩) (some ⟨d',op',ty',pos',aft',none⟩)=(pk P ops hs m ⟨d,op,ty,pos,bF,none⟩ a s K∧pk P ops hs n ⟨d',op',ty',pos',aft',none⟩ b s K))∧
 (∀ (P:Program) (ops:Array Oper) (hs:List Nat) (K:St→Prop) (o:Oper) (sc:Sc) (s:St),pk P ops hs 1 o sc s K=iG P ops hs o sc s K)∧
 (∀ (P:Program) (ops:Array Oper) (hs:List Nat) (K:St→Prop) (o:Oper) (sc:Sc) (s:St),pk P ops hs 3 o sc s K=kM P ops hs o sc s K)∧
 (∀ (o:Oper) (r:List Oper),DY (o::r) 0=some o)∧
 (∀ (o:Oper) (r:List Oper) (j:Nat),DY (o::r) (j+1)=DY r j)∧
 (∀ (P:Program) (bh:Nat→Option TI) (ops:Array Oper) (hs:List Nat) (K:St→Prop) (r:Sc) (s:St) (d:Option Tmp) (op:Op) (ty:TypeId) (pos:String) (bF:Array Edge),PQ P bh ops hs K 0 r s (some ⟨d,op,ty,pos,bF,none⟩)=MG P bh ops hs K d r s (oZ bh op s))∧
 (∀ (P:Program) (bh:Nat→Option TI) (ops:Array Oper) (hs:List Nat) (K:St→Prop) (r:Sc) (s:St) (d:Option Tmp) (op:Op) (ty:TypeId) (pos:String) (bF:Array Edge),PQ P bh ops hs K 1 r s (some ⟨d,op,ty,pos,bF,none⟩)=iG P ops hs ⟨d,op,ty,pos,bF,none⟩ r s K)∧
 (∀ (P:Program) (bh:Nat→Option TI) (ops:Array Oper) (hs:List Nat) (K:St→Prop) (r:Sc) (s:St) (d:Option Tmp) (op:Op) (ty:TypeId) (pos:String) (bF:Array Edge),PQ P bh ops hs K 3 r s (some ⟨d,op,ty,pos,bF,none⟩)=kM P ops hs ⟨d,op,ty,pos,bF,none⟩ r s K)∧
 (∀ (P:Program) (bh:Nat→Option TI) (ops:Array Oper) (hs:List Nat) (K:St→Prop) (r:Sc) (s:St) (d:Option Tmp) (op:Op) (ty:TypeId) (pos:String) (bF:Array Edge) (m j:Nat) (b:Bool),PQ P bh ops hs K m r s (some ⟨d,op,ty,pos,bF,some (j,b)⟩)=lV P bh ops hs K m ⟨d,op,ty,pos,bF,some (j,b)⟩ r s (rT (rK ops j s) b))∧
 (∀ (P:Program) (bh:Nat→Option TI) (ops:Array Oper) (hs:List Nat) (K:St→Prop) (r:Sc) (s:St) (d:Option Tmp) (op:Op) (ty:TypeId) (pos:String) (bF:Array Edge) (g:Option (Nat×Bool)),lV P bh ops hs K 0 ⟨d,op,ty,pos,bF,g⟩ r s .skip=fv P bh ops hs K r (s.put d (.v undef)))∧
 (∀ (P:Program) (bh:Nat→Option TI) (ops:Array Oper) (hs:List Nat) (K:St→Prop) (r:Sc) (s:St) (d:Option Tmp) (op:Op) (ty:TypeId) (pos:String) (bF:Array Edge) (g:Option (Nat×Bool)),lV P bh ops hs K 2 ⟨d,op,ty,pos,bF,g⟩ r s .skip=fv P bh ops hs K r (s.put d (.v undef)))∧
 (∀ (P:Program) (bh:Nat→Option TI) (ops:Array Oper) (hs:List Nat) (K:St→Prop) (r:Sc) (s:St) (d:Option Tmp) (op:Op) (ty:TypeId) (pos:String) (bF:Array Edge) (g:Option (Nat×Bool)),lV P bh ops hs K 0 ⟨d,op,ty,pos,bF,g⟩ r s .run=MG P bh ops hs K d r s (oZ bh op s))∧
 (∀ (P:Program) (bh:Nat→Option TI) (ops:Array Oper) (hs:List Nat) (K:St→Prop) (r:Sc) (s:St) (d:Option Tmp) (op:Op) (ty:TypeId) (pos:String) (bF:Array Edge) (g:Option (Nat×Bool)),lV P bh ops hs K 2 ⟨d,op,ty,pos,bF,g⟩ r s .run=iG P ops hs ⟨d,op,ty,pos,bF,none⟩ r s K)∧
 (∀ (P:Program) (bh:Nat→Option TI) (ops:Array Oper) (hs:List Nat) (K:St→Prop) (d:Option Tmp) (r:Sc) (s:St) (x:AV),MG P bh ops hs K d r s (.ok x)=fv P bh ops hs K r (s.put d x))∧
 (∀ (P:Program) (bh:Nat→Option TI) (ops:Array Oper) (hs:List Nat) (K:St→Prop) (d:Option Tmp) (r:Sc) (s:St) (c:Prop) [Decidable c] (f:c→AV),MG P bh ops hs K d r s (.ex c f)=∃ h:c,fv P bh ops hs K r (s.put d (f h)))∧
 (∀ (bh:Nat→Option TI) (d:Option Tmp) (s:St) (x:Operand),nO bh (.move x) d s=wq d s (.ok (s.eval x)))∧
 (∀ (bh:Nat→Option TI) (s:St) (x:Operand),oZ bh (.move x) s= .ok (s.eval x))∧
 (∀ (bh:Nat→Option TI) (d:Option Tmp) (s:St) (x:Operand),nO bh (.assign x) d s=wq d s (.ok (s.eval x)))∧
 (∀ (bh:Nat→Option TI) (s:St) (x:Operand),oZ bh (.assign x) s= .ok (s.eval x))∧
 (∀ (bh:Nat→Option TI) (d:Option Tmp) (s:St) (c x y:Operand),nO bh (.pick c x y) d s=wq d s (xe (s.eval c) (s.eval x) (s.eval y)))∧
 (∀ (bh:Nat→Option TI) (s:St) (c x y:Operand),oZ bh (.pick c x y) s=xe (s.eval c) (s.eval x) (s.eval y))∧
 (∀ (bh:Nat→Option TI) (d:Option Tmp) (s:St) (b:BinOp) (t u:TypeId) (x y:Operand),nO bh (.binOp b t x y u) d s=wq d s (fP bh b t (s.eval x) (s.eval y)))∧
 (∀ (bh:Nat→Option TI) (s:St) (b:BinOp) (t u:TypeId) (x y:Operand),oZ bh (.binOp b t x y u) s=fP bh b t (s.eval x) (s.eval y))∧
 (∀ (bh:Nat→Option TI) (d:Option Tmp) (s:St) (t:TypeId) (x:Operand),nO bh (.unOp .not t x) d s=wq d s (BJ (s.eval x))):=by
 refine ⟨?_,?_,?_,?_,?_,?_,?_,?_,?_,?_,?_,?_,?_,?_,?_,?_,?_,?_,?_,?_,?_,?_,?_,?_,?_⟩<;>intros<;>first|rfl|(rw [dP];done)|exact ji|exact iF|exact qv _ _ _|(rw [fv];done)|(rw [kf,qa0,bS];done)|(rw [qw,qa0,qa0,bS,bS];done)|(rw [ni,qa0,qa0,bS,bS];done)|(rw [nj,qa0,qa0,qa0,bS,bS,bS];done)|(rw [nk,qa0,qa0,qa0,bS,bS,bS];done)|(cases ‹AV›<;>rfl)|(simp [eR];done)|(simp [fP,s6,s7,s9];done)|(rename_i ti _ _ _ _ _ _;cases ti<;>simp [s9];done)|(simp [uJ,gj,hJ,lW,ou];done)|(rename_i a b;cases a<;>cases b<;>rfl)|(rename_i a b;simp only [eR];split<;>simp_all)
theorem Vi:(∀ (bh:Nat→Option TI) (s:St) (t:TypeId) (x:Operand),oZ bh (.unOp .not t x) s=BJ (s.eval x))∧
 (∀ (bh:Nat→Option TI) (d:Option Tmp) (s:St) (t:TypeId) (x:Operand),nO bh (.unOp .neg t x) d s=wq d s (BL (s.eval x)))∧
 (∀ (bh:Nat→Option TI) (s:St) (t:TypeId) (x:Operand),oZ bh (.unOp .neg t x) s=BL (s.eval x))∧
 (∀ (bh:Nat→Option TI) (d:Option Tmp) (s:St) (x:Operand) (i:Nat),nO bh (.extract x i) d s=wq d s (ot i (s.eval x)))∧
 (∀ (bh:Nat→Option TI) (s:St) (x:Operand) (i:Nat),oZ bh (.extract x i) s=ot i (s.eval x))∧
 (∀ (bh:Nat→Option TI) (d:Option Tmp) (s:St) (t:TypeId) (x:Operand),nO bh (.load t x) d s=wq d s (pd s.hp (bh t) (s.eval x)))∧
 (∀ (bh:Nat→Option TI) (s:St) (t:TypeId) (x:Operand),oZ bh (.load t x) s=pd s.hp (bh t) (s.eval x))∧
 (∀ (bh:Nat→Option TI) (d:Option Tmp) (s:St) (t:TypeId) (x:Operand) (f:Nat),nO bh (.fieldAddr t x f) d s=wq d s (I9 f (bh t) (s.eval x)))∧
 (∀ (bh:Nat→Option TI) (s:St) (t:TypeId) (x:Operand) (f:Nat),oZ bh (.fieldAddr t x f) s=I9 f (bh t) (s.eval x))∧
 (∀ (bh:Nat→Option TI) (d:Option Tmp) (s:St) (t:TypeId) (x i:Operand),nO bh (.indexAddr t x i) d s=wq d s (y9 bh (bh t) (s.eval x) (s.eval i)))∧
 (∀ (bh:Nat→Option TI) (s:St) (t:TypeId) (x i:Operand),oZ bh (.indexAddr t x i) s=y9 bh (bh t) (s.eval x) (s.eval i))∧
 (∀ (bh:Nat→Option TI) (d:Option Tmp) (s:St) (t:TypeId) (ps:Array (Nat×Operand)),nO bh (.build t ps) d s=wq d s (qZ bh (bM s ps) (bh t)))∧
 (∀ (bh:Nat→Option TI) (s:St) (t:TypeId) (ps:Array (Nat×Operand)),oZ bh (.build t ps) s=qZ bh (bM s ps) (bh t))∧
 (∀ (bh:Nat→Option TI) (d:Option Tmp) (s:St) (x:Operand),nO bh (.nilCheck x) d s=wq d s (xf (s.eval x)))∧
 (∀ (bh:Nat→Option TI) (s:St) (x:Operand),oZ bh (.nilCheck x) s=xf (s.eval x))∧
 (∀ (bh:Nat→Option TI) (d:Option Tmp) (s:St) (f:FuncId) (caps:Array Operand),nO bh (.makeFunc (.func f) #[] caps) d s=wq d s (GZ f (cv s caps) (AV.cu (cv s caps))))∧
 (∀ (bh:Nat→Option TI) (s:St) (f:FuncId) (caps:Array Operand),oZ bh (.makeFunc (.func f) #[] caps) s=GZ f (cv s caps) (AV.cu (cv s caps)))∧
 (∀ (bh:Nat→Option TI) (d:Option Tmp) (s:St) (t:TypeId) (x:Operand) (lo hi:Option Operand),nO bh (.slice t x lo hi none) d s=wq d s (gj s.hp bh (yL (bh t)) (s.eval x) (lo.map s.eval) (hi.map s.eval)))∧
 (∀ (bh:Nat→Option TI) (s:St) (t:TypeId) (x:Operand) (lo hi:Option Operand),oZ bh (.slice t x lo hi none) s=gj s.hp bh (yL (bh t)) (s.eval x) (lo.map s.eval) (hi.map s.eval))∧
 (∀ (bh:Nat→Option TI) (d:Option Tmp) (s:St) (t:TypeId) (x m:Operand) (lo hi:Option Operand),nO bh (.slice t x lo hi (some m)) d s=wq d s (hJ bh (yL (bh t)) (s.eval x) (lo.map s.eval) (hi.map s.eval) (some (s.eval m))))∧
 (∀ (bh:Nat→Option TI) (s:St) (t:TypeId) (x m:Operand) (lo hi:Option Operand),oZ bh (.slice t x lo hi (some m)) s=hJ bh (yL (bh t)) (s.eval x) (lo.map s.eval) (hi.map s.eval) (some (s.eval m)))∧
 (∀ (bh:Nat→Option TI) (d:Option Tmp) (s:St) (x:Operand) (t:TypeId),nO bh (.call {callee:=.builtin .len,args:=#[x],argTypes:=#[t]}) d s=wq d s (vE (bh t) (s.eval x)))∧
 (∀ (bh:Nat→Option TI) (s:St) (x:Operand) (t:TypeId),oZ bh (.call {callee:=.builtin .len,args:=#[x],argTypes:=#[t]}) s=vE (bh t) (s.eval x))∧
 (∀ (bh:Nat→Option TI) (d:Option Tmp) (s:St) (x y:Operand) (fx:Array TypeId),nO bh (.call {callee:=.builtin .min,args:=#[x,y],argTypes:=fx}) d s=wq d s (rJ (fun a b=>.ok (.int (min a b))) (s.eval x) (s.eval y)))∧
 (∀ (bh:Nat→Option TI) (s:St) (x y:Operand) (fx:Array TypeId),oZ bh (.call {callee:=.builtin .min,args:=#[x,y],argTypes:=fx}) s=rJ (fun a b=>.ok (.int (min a b))) (s.eval x) (s.eval y)):=by
 refine ⟨?_,?_,?_,?_,?_,?_,?_,?_,?_,?_,?_,?_,?_,?_,?_,?_,?_,?_,?_,?_,?_,?_,?_,?_,?_⟩<;>intros<;>first|rfl|(rw [dP];done)|exact ji|exact iF|exact qv _ _ _|(rw [fv];done)|(rw [kf,qa0,bS];done)|(rw [qw,qa0,qa0,bS,bS];done)|(rw [ni,qa0,qa0,bS,bS];done)|(rw [nj,qa0,qa0,qa0,bS,bS,bS];done)|(rw [nk,qa0,qa0,qa0,bS,bS,bS];done)|(cases ‹AV›<;>rfl)|(simp [eR];done)|(simp [fP,s6,s7,s9];done)|(rename_i ti _ _ _ _ _ _;cases ti<;>simp [s9];done)|(simp [uJ,gj,hJ,lW,ou];done)|(rename_i a b;cases a<;>cases b<;>rfl)|(rename_i a b;simp only [eR];split<;>simp_all)
theorem Vj:(∀ (bh:Nat→Option TI) (d:Option Tmp) (s:St) (x y:Operand) (fx:Array TypeId),nO bh (.call {callee:=.builtin .max,args:=#[x,y],argTypes:=fx}) d s=wq d s (rJ (fun a b=>.ok (.int (max a b))) (s.eval x) (s.eval y)))∧
 (∀ (bh:Nat→Option TI) (s:St) (x y:Operand) (fx:Array TypeId),oZ bh (.call {callee:=.builtin .max,args:=#[x,y],argTypes:=fx}) s=rJ (fun a b=>.ok (.int (max a b))) (s.eval x) (s.eval y))∧
 (∀ (bh:Nat→Option TI) (d:Option Tmp) (s:St) (a b:TypeId) (x:Operand),nO bh (.convert a b x) d s=wq d s (xb (bh a) (bh b) (s.eval x)))∧
 (∀ (bh:Nat→Option TI) (s:St) (a b:TypeId) (x:Operand),oZ bh (.convert a b x) s=xb (bh a) (bh b) (s.eval x))∧
 (∀ (bh:Nat→Option TI) (d:Option Tmp) (s:St) (t:TypeId) (x i:Operand),nO bh (.index t x i) d s=wq d s (qY bh (bh t) (s.eval x) (s.eval i)))∧
 (∀ (bh:Nat→Option TI) (s:St) (t:TypeId) (x i:Operand),oZ bh (.index t x i) s=qY bh (bh t) (s.eval x) (s.eval i))∧
 (∀ (bh:Nat→Option TI) (d:Option Tmp) (s:St) (t:TypeId) (p x:Operand),nO bh (.store t p x) d s=Ag s (s.eval x) d (bh t) (s.eval p))∧
 (∀ (bh:Nat→Option TI) (d:Option Tmp) (s:St) (e:TypeId),nO bh (.alloc e) d s=Ah s e d (bh e))∧
 (∀ (bh:Nat→Option TI) (d:Option Tmp) (s:St) (e:TypeId) (x:Operand),nO bh (.box e x) d s=MZ s e (s.eval x) d)∧
 (∀ (bh:Nat→Option TI) (d:Option Tmp) (s:St) (t:TypeId) (len:Nat) (ps:Array (Nat×Operand)),nO bh (.buildSlice t len ps) d s=M0 bh s len (bM s ps) d (yL (bh t)))∧
 (∀ (bh:Nat→Option TI) (d:Option Tmp) (s:St) (f:Operand) (args:Array Operand) (fx:Array TypeId),nO bh (.call {callee:=.value f,args:=args,argTypes:=fx}) d s= .no)∧
 (∀ (bh:Nat→Option TI) (d:Option Tmp) (s:St) (args:Array Operand) (fx:Array TypeId),nO bh (.call {callee:=.builtin .append,args:=args,argTypes:=fx}) d s= .no)∧
 (∀ (bh:Nat→Option TI) (d:Option Tmp) (s:St) (args:Array Operand) (fx:Array TypeId),nO bh (.call {callee:=.builtin .copy,args:=args,argTypes:=fx}) d s= .no)∧
 (∀ (bh:Nat→Option TI) (d:Option Tmp) (s:St) (args:Array Operand) (fx:Array TypeId),nO bh (.call {callee:=.builtin .clear,args:=args,argTypes:=fx}) d s= .no)∧
 (∀ (bh:Nat→Option TI) (d:Option Tmp) (s:St) (t:TypeId) (x y:Operand),nO bh (.makeSlice t x y) d s= .no)∧
 (∀ (bh:Nat→Option TI) (d:Option Tmp) (s:St) (t:TypeId) (x:Operand) (f:Nat),nO bh (.field t x f) d s= .no)∧
 (∀ (d:Option Tmp) (s:St) (x:AV),wq d s (.ok x)= .ok (s.put d x))∧
 (∀ (d:Option Tmp) (s:St) (c:Prop) [Decidable c] (f:c→AV),wq d s (.ex c f)= .ex c fun h=>s.put d (f h))∧
 (∀ (d:Option Tmp) (s:St),wq d s .no= .no)∧
 (∀ (s:St) (x:AV) (id off:Nat) (i:TI),Ag s x none (some i) (.ptr id off)=TN i s id off x (bp s.hp id))∧
 (∀ (s:St) (x:AV) (id off:Nat) (T:TypeId) (cs:List AV) (fl:Bool) (ag:Bool) (n b:Nat) (z:List AV) (k:Af),TN (⟨ag,n,b,z,k⟩:TI) s id off x (some ⟨T,cs,fl⟩)= .ex ((PN x&&jx x.cells)=true∧x.cells.length=n∧off+n≤cs.length) fun _=>⟨s.fr,cP s.hp id ⟨T,gM cs off x.cells,fl⟩⟩)∧
 (∀ (s:St) (e d:Nat) (ag:Bool) (n b:Nat) (z:List AV) (k:Af),Ah s e (some d) (some ⟨ag,n,b,z,k⟩)= .ex (s.free d=true) fun _=>⟨s.fr.set d (.ptr d 0),cP s.hp d ⟨e,z,true⟩⟩)∧
 (∀ (s:St) (e d:Nat) (x:AV),MZ s e x (some d)= .ex ((s.free d&&PN x&&!AV.bz d x.cells)=true) fun _=>⟨s.fr.set d (.ptr d 0),cP s.hp d ⟨e,x.cells,true⟩⟩)∧
 (∀ (bh:Nat→Option TI) (s:St) (len:Nat) (ps:List (Nat×AV)) (d:Option Tmp) (e:Nat),M0 bh s len ps d (some e)=SI s e len ps d (bh e))∧
 (∀ (s:St) (e d:Nat) (ag:Bool) (n b:Nat) (z:List AV) (k:Af),SI s e 0 [] (some d) (some ⟨ag,n,b,z,k⟩)= .ex (s.free d=true) fun _=>⟨s.fr.set d (.sl n b d 0 0),cP s.hp d ⟨e,[],true⟩⟩):=by
 refine ⟨?_,?_,?_,?_,?_,?_,?_,?_,?_,?_,?_,?_,?_,?_,?_,?_,?_,?_,?_,?_,?_,?_,?_,?_,?_⟩<;>intros<;>first|rfl|(rw [dP];done)|exact ji|exact iF|exact qv _ _ _|(rw [fv];done)|(rw [kf,qa0,bS];done)|(rw [qw,qa0,qa0,bS,bS];done)|(rw [ni,qa0,qa0,bS,bS];done)|(rw [nj,qa0,qa0,qa0,bS,bS,bS];done)|(rw [nk,qa0,qa0,qa0,bS,bS,bS];done)|(cases ‹AV›<;>rfl)|(simp [eR];done)|(simp [fP,s6,s7,s9];done)|(rename_i ti _ _ _ _ _ _;cases ti<;>simp [s9];done)|(simp [uJ,gj,hJ,lW,ou];done)|(rename_i a b;cases a<;>cases b<;>rfl)|(rename_i a b;simp only [eR];split<;>simp_all)
theorem Vk:(∀ (s:St) (e d l:Nat) (ps:List (Nat×AV)) (ag:Bool) (n b:Nat) (z:List AV) (k:Af),SI s e (l+1) ps (some d) (some ⟨ag,n,b,z,k⟩)= .ex (Qz (l+1) n b ps=true) fun _=>s.put (some d) (.cD n b (ps.map (·.2))))∧
 (∀ (f:Int→Int→PR) (n m:Int),rJ f (.int n) (.int m)=f n m)∧
 (∀ (bh:Nat→Option TI) (t:TypeId) (k:IntKind) (n m:Int),fP bh .lss t (.v (.int k n)) (.v (.int k m))= .ok (.bool (decide (n < m))))∧
 (∀ (bh:Nat→Option TI) (t:TypeId) (k:IntKind) (n m:Int),fP bh .leq t (.v (.int k n)) (.v (.int k m))= .ok (.bool (decide (n≤m))))∧
 (∀ (bh:Nat→Option TI) (t:TypeId) (k:IntKind) (n m:Int),fP bh .gtr t (.v (.int k n)) (.v (.int k m))= .ok (.bool (decide (m < n))))∧
 (∀ (bh:Nat→Option TI) (t:TypeId) (k:IntKind) (n m:Int),fP bh .geq t (.v (.int k n)) (.v (.int k m))= .ok (.bool (decide (m≤n))))∧
 (∀ (bh:Nat→Option TI) (t:TypeId) (n m:Int),fP bh .add t (.int n) (.int m)= .ex (-9223372036854775808≤n+m∧n+m≤9223372036854775807) fun _=>.int (n+m))∧
 (∀ (bh:Nat→Option TI) (t:TypeId) (n m:Int),fP bh .sub t (.int n) (.int m)= .ex (-9223372036854775808≤n - m∧n - m≤9223372036854775807) fun _=>.int (n - m))∧
 (∀ (bh:Nat→Option TI) (t:TypeId) (n m:Int),fP bh .mul t (.int n) (.int m)= .ex (-9223372036854775808≤n * m∧n * m≤9223372036854775807) fun _=>.int (n * m))∧
 (∀ (bh:Nat→Option TI) (t:TypeId) (n m:Int),fP bh .quo t (.int n) (.int m)= .ex (m≠0∧-9223372036854775808≤n.tdiv m∧n.tdiv m≤9223372036854775807) fun _=>.int (n.tdiv m))∧
 (∀ (bh:Nat→Option TI) (t:TypeId) (n m:Int),fP bh .rem t (.int n) (.int m)= .ex (m≠0) fun _=>.int (n.tmod m))∧
 (∀ (bh:Nat→Option TI) (t:TypeId) (k:IntKind) (n m:Int),fP bh .and t (.v (.int k n)) (.v (.int k m))= .ok (.v (.int k (bits .and k n m))))∧
 (∀ (bh:Nat→Option TI) (t:TypeId) (k:IntKind) (n m:Int),fP bh .or t (.v (.int k n)) (.v (.int k m))= .ok (.v (.int k (bits .or k n m))))∧
 (∀ (bh:Nat→Option TI) (t:TypeId) (k:IntKind) (n m:Int),fP bh .xor t (.v (.int k n)) (.v (.int k m))= .ok (.v (.int k (bits .xor k n m))))∧
 (∀ (bh:Nat→Option TI) (t:TypeId) (k:IntKind) (n m:Int),fP bh .andNot t (.v (.int k n)) (.v (.int k m))= .ok (.v (.int k (bits .andNot k n m))))∧
 (∀ (bh:Nat→Option TI) (t:TypeId) (k k':IntKind) (n m:Int),fP bh .shl t (.v (.int k n)) (.v (.int k' m))= .ex ((0≤m∧m≤kb k)∧yK k (n * 2 ^ m.toNat)) fun _=>.v (.int k (n * 2 ^ m.toNat)))∧
 (∀ (bh:Nat→Option TI) (t:TypeId) (k k':IntKind) (n m:Int),fP bh .shr t (.v (.int k n)) (.v (.int k' m))= .ex (0≤m∧m≤kb k) fun _=>.v (.int k (n / 2 ^ m.toNat)))∧
 (∀ (n:Int),yK .i64 n=(-9223372036854775808≤n∧n≤9223372036854775807))∧
 (kb .i64=64)∧
 (∀ (n:Int),yK .u64 n=(0≤n∧n≤18446744073709551615))∧
 (kb .u64=64)∧
 (∀ (n:Int),yK .i32 n=(-2147483648≤n∧n≤2147483647))∧
 (kb .i32=32)∧
 (∀ (n:Int),yK .u32 n=(0≤n∧n≤4294967295))∧
 (kb .u32=32):=by
 refine ⟨?_,?_,?_,?_,?_,?_,?_,?_,?_,?_,?_,?_,?_,?_,?_,?_,?_,?_,?_,?_,?_,?_,?_,?_,?_⟩<;>intros<;>first|rfl|(rw [dP];done)|exact ji|exact iF|exact qv _ _ _|(rw [fv];done)|(rw [kf,qa0,bS];done)|(rw [qw,qa0,qa0,bS,bS];done)|(rw [ni,qa0,qa0,bS,bS];done)|(rw [nj,qa0,qa0,qa0,bS,bS,bS];done)|(rw [nk,qa0,qa0,qa0,bS,bS,bS];done)|(cases ‹AV›<;>rfl)|(simp [eR];done)|(simp [fP,s6,s7,s9];done)|(rename_i ti _ _ _ _ _ _;cases ti<;>simp [s9];done)|(simp [uJ,gj,hJ,lW,ou];done)|(rename_i a b;cases a<;>cases b<;>rfl)|(rename_i a b;simp only [eR];split<;>simp_all)
theorem Vl:(∀ (n:Int),yK .i16 n=(-32768≤n∧n≤32767))∧
 (kb .i16=16)∧
 (∀ (n:Int),yK .u16 n=(0≤n∧n≤65535))∧
 (kb .u16=16)∧
 (∀ (n:Int),yK .i8 n=(-128≤n∧n≤127))∧
 (kb .i8=8)∧
 (∀ (n:Int),yK .u8 n=(0≤n∧n≤255))∧
 (kb .u8=8)∧
 (∀ (n:Int),n / 2 ^ (1:Int).toNat=n / 2)∧
 (∀ (n:Int),n / 2 ^ (2:Int).toNat=n / 4)∧
 (∀ (ti:TI) (ag:Bool) (n b:Nat) (z:List AV) (k k':IntKind) (m:Int),xb (some ti) (some ⟨ag,n,b,z,.int k⟩) (.v (.int k' m))= .ex (yK k m) fun _=>.v (.int k m))∧
 (∀ (bh:Nat→Option TI) (t:TypeId) (x y:AV),fP bh .eql t x y=s9 false (bh t) x y)∧
 (∀ (bh:Nat→Option TI) (t:TypeId) (x y:AV),fP bh .neq t x y=s9 true (bh t) x y)∧
 (∀ (ti:Option TI) (k:IntKind) (n m:Int),s9 false ti (.v (.int k n)) (.v (.int k m))= .ok (.bool (n == m)))∧
 (∀ (ti:Option TI) (k:IntKind) (n m:Int),s9 true ti (.v (.int k n)) (.v (.int k m))= .ok (.bool (n != m)))∧
 (∀ (ng:Bool) (ti:Option TI) (a b:ByteArray),s9 ng ti (.v (.string a)) (.v (.string b))=ME ng (a.toList == b.toList))∧
 (∀ (ag:Bool) (n b:Nat) (z:List AV) (x:ByteArray),vE (some ⟨ag,n,b,z,.str⟩) (.v (.string x))= .ok (.int x.size))∧
 (∀ (bh:Nat→Option TI) (ag:Bool) (n b:Nat) (z:List AV) (x:ByteArray) (i:Int),qY bh (some ⟨ag,n,b,z,.str⟩) (.v (.string x)) (.int i)= .ex (0≤i∧i.toNat < x.size) fun h=>.v (.int .u8 (x[i.toNat]'h.2).toNat))∧
 (∀ (bh:Nat→Option TI) (ag:Bool) (n b:Nat) (z:List AV) (N e:Nat) (i2:Bool) (cs:List AV) (i:Int),qY bh (some ⟨ag,n,b,z,.ar N e i2⟩) (.agg cs) (.int i)=Fy N cs i (bh e))∧
 (∀ (N:Nat) (cs:List AV) (i:Int) (b:Nat) (z:List AV) (k:Af),Fy N cs i (some ⟨false,1,b,z,k⟩)= .ex (0≤i∧i < N∧i.toNat < cs.length) fun h=>cs[i.toNat]'h.2.2)∧
 (∀ (ng ag:Bool) (n b:Nat) (z:List AV) (x y:Bool),s9 ng (some ⟨ag,n,b,z,.bool⟩) (.bool x) (.bool y)=ME ng (x == y))∧
 (∀ (ng ag:Bool) (n m:Nat) (z:List AV) (pl:List (Nat×Nat)) (a b c d:Int),s9 ng (some ⟨ag,n,m,z,.st pl true⟩) (.agg [.int a,.int b]) (.agg [.int c,.int d])=ME ng (a == c&&b == d))∧
 (∀ (ng ag:Bool) (n m:Nat) (z:List AV) (N e:Nat) (a b c d:Int),s9 ng (some ⟨ag,n,m,z,.ar N e true⟩) (.agg [.int a,.int b]) (.agg [.int c,.int d])=ME ng (a == c&&b == d))∧
 (∀ (ng:Bool) (ti:Option TI) (sz bw:Nat) (es:List AV) (A:Option Addr) (n c:Nat),s9 ng ti (.cD sz bw es) (.v (.slice A n c))= .no)∧
 (∀ (b:Bool),ME false b= .ok (.bool b)):=by
 refine ⟨?_,?_,?_,?_,?_,?_,?_,?_,?_,?_,?_,?_,?_,?_,?_,?_,?_,?_,?_,?_,?_,?_,?_,?_,?_⟩<;>intros<;>first|rfl|(rw [dP];done)|exact ji|exact iF|exact qv _ _ _|(rw [fv];done)|(rw [kf,qa0,bS];done)|(rw [qw,qa0,qa0,bS,bS];done)|(rw [ni,qa0,qa0,bS,bS];done)|(rw [nj,qa0,qa0,qa0,bS,bS,bS];done)|(rw [nk,qa0,qa0,qa0,bS,bS,bS];done)|(cases ‹AV›<;>rfl)|(simp [eR];done)|(simp [fP,s6,s7,s9];done)|(rename_i ti _ _ _ _ _ _;cases ti<;>simp [s9];done)|(simp [uJ,gj,hJ,lW,ou];done)|(rename_i a b;cases a<;>cases b<;>rfl)|(rename_i a b;simp only [eR];split<;>simp_all)
theorem Vm:(∀ (b:Bool),ME true b= .ok (.bool (!b)))∧
 (∀ (b:Bool),BJ (.bool b)= .ok (.bool (!b)))∧
 (∀ (n:Int),BL (.int n)= .ex (-9223372036854775808≤-n∧-n≤9223372036854775807) fun _=>.int (-n))∧
 (∀ (b:Bool) (x y:AV),xe (.bool b) x y=eR b x y)∧
 (∀ (x y:AV),eR true x y= .ok x)∧
 (∀ (x y:AV),eR false x y= .ok y)∧
 (∀ (b p q:Bool),eR b (.bool p) (.bool q)= .ok (.bool (if b then p else q)))∧
 (∀ (c:AV),Fx (some c)= .ok c)∧
 (∀ (i:Nat) (cs:List AV),ot i (.dC cs)=Fx cs[i]?)∧
 (∀ (hp:Hp) (i:TI) (id off:Nat),pd hp (some i) (.ptr id off)=R2 i off (bp hp id))∧
 (∀ (hp:Hp) (i:TI) (cs:List AV),pd hp (some i) (.bC cs)=R3 i cs)∧
 (∀ (n b:Nat) (z:List AV) (k:Af) (off:Nat) (T:TypeId) (cs:List AV) (fl:Bool),R2 ⟨true,n,b,z,k⟩ off (some ⟨T,cs,fl⟩)= .ex (off+n≤cs.length) fun _=>.agg ((cs.drop off).take n))∧
 (∀ (n b:Nat) (z:List AV) (k:Af) (off:Nat) (T:TypeId) (cs:List AV) (fl:Bool),R2 ⟨false,n,b,z,k⟩ off (some ⟨T,cs,fl⟩)= .ex (off < cs.length) fun h=>cs[off]'h)∧
 (∀ (n b:Nat) (z:List AV) (k:Af) (cs:List AV),R3 ⟨true,n,b,z,k⟩ cs= .ex (n≤cs.length) fun _=>.agg (cs.take n))∧
 (∀ (n b:Nat) (z:List AV) (k:Af) (cs:List AV),R3 ⟨false,n,b,z,k⟩ cs= .ex (0 < cs.length) fun h=>cs[0]'h)∧
 (∀ (f:Nat) (ag:Bool) (n b:Nat) (z:List AV) (pl:List (Nat×Nat)) (e:Bool) (x:AV),I9 f (some ⟨ag,n,b,z,.st pl e⟩) x=ou x pl[f]?)∧
 (∀ (id off o n:Nat),ou (.ptr id off) (some (o,n+1))= .ok (.ptr id (off+o)))∧
 (∀ (cs:List AV) (o n:Nat),ou (.bC cs) (some (o,n+1))= .ok (.bC (cs.drop o)))∧
 (∀ (bh:Nat→Option TI) (ag:Bool) (n b:Nat) (z:List AV) (e:Nat) (x:AV) (i:Int),y9 bh (some ⟨ag,n,b,z,.sl e⟩) x (.int i)=uJ (bh e) i x)∧
 (∀ (bh:Nat→Option TI) (ag:Bool) (n b:Nat) (z:List AV) (N e:Nat) (i2:Bool) (x:AV) (i:Int),y9 bh (some ⟨ag,n,b,z,.ar N e i2⟩) x (.int i)=lP N (bh e) i x)∧
 (∀ (ag:Bool) (sz b:Nat) (z:List AV) (k:Af) (bw:Nat) (n:Int) (es:List AV),uJ (some ⟨ag,sz,b,z,k⟩) n (.cD sz bw es)= .ex (0≤n∧n.toNat < es.length) fun h=>.bC (es[n.toNat]'h.2).cells)∧
 (∀ (ag:Bool) (sz b:Nat) (z:List AV) (k:Af) (bw id off len:Nat) (n:Int),uJ (some ⟨ag,sz,b,z,k⟩) n (.sl sz bw id off len)= .ex (0≤n∧n.toNat < len) fun _=>.ptr id (off+n.toNat * sz))∧
 (∀ (N:Nat) (ag:Bool) (sz b:Nat) (z:List AV) (k:Af) (n:Int) (id off:Nat),lP N (some ⟨ag,sz,b,z,k⟩) n (.ptr id off)= .ex (0≤n∧n.toNat < N) fun _=>.ptr id (off+n.toNat * sz))∧
 (∀ (N:Nat) (ag:Bool) (sz b:Nat) (z:List AV) (k:Af) (n:Int) (cs:List AV),lP N (some ⟨ag,sz,b,z,k⟩) n (.bC cs)= .ex (0≤n∧n.toNat < N) fun _=>.bC (cs.drop (n.toNat * sz)))∧
 (∀ (ag:Bool) (n b:Nat) (z:List AV) (e:Nat) (sz bw:Nat) (es:List AV),vE (some ⟨ag,n,b,z,.sl e⟩) (.cD sz bw es)= .ok (.int es.length)):=by
 refine ⟨?_,?_,?_,?_,?_,?_,?_,?_,?_,?_,?_,?_,?_,?_,?_,?_,?_,?_,?_,?_,?_,?_,?_,?_,?_⟩<;>intros<;>first|rfl|(rw [dP];done)|exact ji|exact iF|exact qv _ _ _|(rw [fv];done)|(rw [kf,qa0,bS];done)|(rw [qw,qa0,qa0,bS,bS];done)|(rw [ni,qa0,qa0,bS,bS];done)|(rw [nj,qa0,qa0,qa0,bS,bS,bS];done)|(rw [nk,qa0,qa0,qa0,bS,bS,bS];done)|(cases ‹AV›<;>rfl)|(simp [eR];done)|(simp [fP,s6,s7,s9];done)|(rename_i ti _ _ _ _ _ _;cases ti<;>simp [s9];done)|(simp [uJ,gj,hJ,lW,ou];done)|(rename_i a b;cases a<;>cases b<;>rfl)|(rename_i a b;simp only [eR];split<;>simp_all)
theorem Vn:(∀ (ag:Bool) (n b:Nat) (z:List AV) (e:Nat) (sz bw id off m:Nat),vE (some ⟨ag,n,b,z,.sl e⟩) (.sl sz bw id off m)= .ok (.int m))∧
 (∀ (ag:Bool) (n b:Nat) (z:List AV) (e:Nat) (A:Option Addr) (m c:Nat),vE (some ⟨ag,n,b,z,.sl e⟩) (.v (.slice A m c))= .ok (.int m))∧
 (∀ (bh:Nat→Option TI) (ps:List (Nat×AV)) (ag:Bool) (n b:Nat) (z:List AV) (pl:List (Nat×Nat)) (e:Bool),qZ bh ps (some ⟨ag,n,b,z,.st pl e⟩)= .ex (eU (fun i=>pl[i]?) z.length ps=true) fun _=>.agg (iu (fun i=>(pl[i]?).map (·.1)) z ps))∧
 (∀ (bh:Nat→Option TI) (ps:List (Nat×AV)) (ag:Bool) (n b:Nat) (z:List AV) (N e:Nat) (i2:Bool),qZ bh ps (some ⟨ag,n,b,z,.ar N e i2⟩)=BX ps z (bh e))∧
 (∀ (ps:List (Nat×AV)) (ag:Bool) (n b:Nat) (z w:List AV) (k:Af),BX ps w (some ⟨ag,n,b,z,k⟩)= .ex (eU (fun k=>some (k * n,n)) w.length ps=true) fun _=>.agg (iu (fun k=>some (k * n)) w ps))∧
 (∀ (i o:Nat),xf (.ptr i o)= .ok (.ptr i o))∧
 (∀ (cs:List AV),xf (.bC cs)= .ok (.bC cs))∧
 (∀ (f:FuncId) (cs:List AV),xf (.fn f cs)= .ok (.fn f cs))∧
 (∀ (f:FuncId) (cs:List AV),GZ f cs true=if f≤999999999 then .ok (.fn f cs) else .no)∧
 (∀ (f:FuncId) (cs:List AV),GZ f cs false= .no)∧
 (∀ (ag:Bool) (n b:Nat) (z:List AV) (e:Nat),yL (some ⟨ag,n,b,z,.sl e⟩)=some e)∧
 (∀ (hp:Hp) (bh:Nat→Option TI) (e sz bw:Nat) (es:List AV) (n:Int),gj hp bh (some e) (.cD sz bw es) (some (.int n)) none=lW sz (bh e) (0≤n∧n≤es.length) (.cD sz bw (es.drop n.toNat)))∧
 (∀ (hp:Hp) (bh:Nat→Option TI) (e sz bw:Nat) (es:List AV) (n:Int),gj hp bh (some e) (.cD sz bw es) none (some (.int n))=lW sz (bh e) (0≤n∧n≤es.length) (.cD sz bw (es.take n.toNat)))∧
 (∀ (hp:Hp) (bh:Nat→Option TI) (e sz bw:Nat) (es:List AV) (n m:Int),gj hp bh (some e) (.cD sz bw es) (some (.int n)) (some (.int m))=lW sz (bh e) (0≤n∧n≤m∧m≤es.length) (.cD sz bw ((es.take m.toNat).drop n.toNat)))∧
 (∀ (hp:Hp) (bh:Nat→Option TI) (e sz bw id off k:Nat) (n:Int),gj hp bh (some e) (.sl sz bw id off k) (some (.int n)) none=lW sz (bh e) (0 < sz∧0≤n∧n≤k) (Fz sz bw id (off+n.toNat * sz) (k - n.toNat)))∧
 (∀ (hp:Hp) (bh:Nat→Option TI) (e sz bw id off k:Nat) (n m:Int),gj hp bh (some e) (.sl sz bw id off k) (some (.int n)) (some (.int m))=lW sz (bh e) (0 < sz∧0≤n∧n≤m∧qq off (m.toNat * sz) (bp hp id)∧m.toNat * bw≤140737488355328) (Fz sz bw id (off+n.toNat * sz) (m.toNat - n.toNat)))∧
 (∀ (bh:Nat→Option TI) (e sz bw id off k:Nat) (n m x:Int),hJ bh (some e) (.sl sz bw id off k) (some (.int n)) (some (.int m)) (some (.int x))=lW sz (bh e) (0≤n∧n≤m∧m≤x∧x≤k) .any)∧
 (∀ (off k:Nat) (T:TypeId) (cs:List AV) (fl:Bool),qq off k (some ⟨T,cs,fl⟩)=(off+k≤cs.length))∧
 (∀ (hp:Hp) (bh:Nat→Option TI) (e sz bw id off k:Nat) (m:Int),gj hp bh (some e) (.sl sz bw id off k) none (some (.int m))=lW sz (bh e) (0≤m∧m≤k) (.sl sz bw id off m.toNat))∧
 (∀ (ag:Bool) (sz b:Nat) (z:List AV) (k:Af) (c:Prop) [Decidable c] (x:AV),lW sz (some ⟨ag,sz,b,z,k⟩) c x= .ex c fun _=>x)∧
 (∀ (P:Program) (bh:Nat→Option TI) (ops:Array Oper) (hs:List Nat) (K:St→Prop) (r:Sc) (s':St),TP P bh ops hs K r (.ok s')=fv P bh ops hs K r s')∧
 (∀ (P:Program) (bh:Nat→Option TI) (ops:Array Oper) (hs:List Nat) (K:St→Prop) (r:Sc) (c:Prop) [Decidable c] (f:c→St),TP P bh ops hs K r (.ex c f)=∃ h:c,fv P bh ops hs K r (f h)):=by
 refine ⟨?_,?_,?_,?_,?_,?_,?_,?_,?_,?_,?_,?_,?_,?_,?_,?_,?_,?_,?_,?_,?_,?_⟩<;>intros<;>first|rfl|(rw [dP];done)|exact ji|exact iF|exact qv _ _ _|(rw [fv];done)|(rw [kf,qa0,bS];done)|(rw [qw,qa0,qa0,bS,bS];done)|(rw [ni,qa0,qa0,bS,bS];done)|(rw [nj,qa0,qa0,qa0,bS,bS,bS];done)|(rw [nk,qa0,qa0,qa0,bS,bS,bS];done)|(cases ‹AV›<;>rfl)|(simp [eR];done)|(simp [fP,s6,s7,s9];done)|(rename_i ti _ _ _ _ _ _;cases ti<;>simp [s9];done)|(simp [uJ,gj,hJ,lW,ou];done)|(rename_i a b;cases a<;>cases b<;>rfl)|(rename_i a b;simp only [eR];split<;>simp_all)
theorem ww:type_of% (And.intro Vg (And.intro Vh (And.intro Vi (And.intro Vj (And.intro Vk (And.intro Vl (And.intro Vm Vn))))))):=And.intro Vg (And.intro Vh (And.intro Vi (And.intro Vj (And.intro Vk (And.intro Vl (And.intro Vm Vn))))))
theorem Vo:(∀ (p:Prop),(True∧p)=p)∧
 (∀ (p:Prop),(p∧True)=p)∧
 (∀ (n:Nat),(n≤n)=True)∧
 (∀ (α:Type) (a:α),(a=a)=True)∧
 (∀ (n:Nat),(0≤(n:Int))=True)∧
 (∀ (n:Nat),(0 < n+1)=True)∧
 (∀ (α:Type) (a b:α) (l:List α),(a::l).set 0 b=b::l)∧
 (∀ (α:Type) (a b:α) (l:List α) (n:Nat),(a::l).set (n+1) b=a::l.set n b)∧
 (∀ (α:Type) (a d:α) (l:List α),(a::l).getD 0 d=a)∧
 (∀ (α:Type) (a d:α) (l:List α) (n:Nat),(a::l).getD (n+1) d=l.getD n d)∧
 (∀ (α:Type) (a:α) (l:List α),(a::l)[0]?=some a)∧
 (∀ (α:Type) (a:α) (l:List α) (n:Nat),(a::l)[n+1]?=l[n]?)∧
 (∀ (α:Type) (a:α) (l:List α) (h:0 < (a::l).length),(a::l)[0]'h=a)∧
 (∀ (α:Type) (a:α) (l:List α) (n:Nat) (h:n+1 < (a::l).length),(a::l)[n+1]'h=l[n]'(Nat.lt_of_succ_lt_succ h))∧
 (∀ (α β:Type) (f:α→β) (l:List α) (n:Nat) (h:n < (l.map f).length),(l.map f)[n]'h=f (l[n]'(by simpa using h)))∧
 (∀ (α β:Type) (f:α→β) (a:α) (l:List α),(a::l).map f=f a::l.map f)∧
 (∀ (α β:Type) (f:α→β),([]:List α).map f=[])∧
 (∀ (α:Type) (l:List α),l.drop 0=l)∧
 (∀ (α:Type) (a:α) (l:List α) (n:Nat),(a::l).drop (n+1)=l.drop n)∧
 (∀ (α:Type) (l:List α),l.take 0=[])∧
 (∀ (α:Type) (a:α) (l:List α) (n:Nat),(a::l).take (n+1)=a::l.take n)∧
 (∀ (n:Nat),0+n=n)∧
 (∀ (n:Nat),n+0=n)∧
 (∀ (n:Nat),n * 1=n)∧
 (∀ (n:Nat),1 * n=n)∧
 (∀ (n:Nat),0 * n=0)∧
 (∀ (α β:Type) (f:α→β) (a:α),(some a).map f=some (f a))∧
 (∀ (α β:Type) (f:α→β),(none:Option α).map f=none)∧
 (∀ (α:Type) (l:List α),l.toArray.toList=l)∧
 ((!true)=false):=by
 refine ⟨?_,?_,?_,?_,?_,?_,?_,?_,?_,?_,?_,?_,?_,?_,?_,?_,?_,?_,?_,?_,?_,?_,?_,?_,?_,?_,?_,?_,?_,?_⟩<;>intros<;>first|rfl|(simp;done)|exact toNat_pred _|exact toNat_succ _|exact oo _ _ _|exact qo _ _ _ _ _ _|exact np _ _|exact mc _ _|(cases ‹Bool›<;>rfl)|(rename_i a b;cases a<;>cases b<;>rfl)|(simp [AV.dY];done)|exact o7 _ _|exact nh _ _|exact jM _ _ _|exact l7 _ _ _|exact An aE|(rename_i hle;simp only [St.free,hle,decide_true,qf4])
theorem Vp:((!false)=true)∧
 ((false=true)=False)∧
 ((true=true)=True)∧
 (∀ (α:Type) (a b:α),(if true=true then a else b)=a)∧
 (∀ (α:Type) (a b:α),(if false=true then a else b)=b)∧
 (∀ (α:Type) (a b:α),(if True then a else b)=a)∧
 (∀ (α:Type) (a b:α),(if False then a else b)=b)∧
 (∀ (b c:Bool),(if b=true then true else c)=(b|| c))∧
 (∀ (b c:Bool),(if b=true then c else false)=(b&&c))∧
 (∀ (n:Nat),(n:Int).toNat=n)∧
 ((0:Int).toNat=0)∧
 (∀ (k:Nat),((k:Int) - 1).toNat=k - 1)∧
 (∀ (k:Nat),((k:Int)+1).toNat=k+1)∧
 (∀ (α β:Type) (f:α→β) (l:List α),(l.map f).length=l.length)∧
 (∀ (id:Nat),AV.dN id .any= .any)∧
 (∀ (id:Nat) (x:Value),AV.dN id (.v x)= .v x)∧
 (∀ (id a b:Nat) (es:List AV),AV.dN id (.cD a b es)= .cD a b es)∧
 (∀ (id:Nat) (es:List AV),AV.dN id (.bC es)= .bC es)∧
 (∀ (id i o:Nat),AV.dN id (.ptr i o)=if i=id then .any else .ptr i o)∧
 (∀ (id a b i o n:Nat),AV.dN id (.sl a b i o n)=if i=id then .any else .sl a b i o n)∧
 (∀ (α β:Type) (f:α→List β) (a:α) (l:List α),(a::l).flatMap f=f a++l.flatMap f)∧
 (∀ (α β:Type) (f:α→List β),([]:List α).flatMap f=[])∧
 (∀ (α:Type) (l:List α),l++[]=l)∧
 (∀ (α:Type) (a:α) (l m:List α),a::l++m=a::(l++m))∧
 (∀ (α:Type) (l:List α),[]++l=l)∧
 (∀ (α:Type) (a:α) (l:List α),(a::l).length=l.length+1)∧
 (∀ (α:Type),([]:List α).length=0)∧
 (∀ (α β:Type) (f:α→β) (l m:List α),(l++m).map f=l.map f++m.map f)∧
 (∀ (α:Type) (l m:List α),(l++m).length=l.length+m.length)∧
 (∀ (id:Nat) (xs:List Int),AV.cG id (xs.map AV.int)=xs.map AV.int):=by
 refine ⟨?_,?_,?_,?_,?_,?_,?_,?_,?_,?_,?_,?_,?_,?_,?_,?_,?_,?_,?_,?_,?_,?_,?_,?_,?_,?_,?_,?_,?_,?_⟩<;>intros<;>first|rfl|(simp;done)|exact toNat_pred _|exact toNat_succ _|exact oo _ _ _|exact qo _ _ _ _ _ _|exact np _ _|exact mc _ _|(cases ‹Bool›<;>rfl)|(rename_i a b;cases a<;>cases b<;>rfl)|(simp [AV.dY];done)|exact o7 _ _|exact nh _ _|exact jM _ _ _|exact l7 _ _ _|exact An aE|(rename_i hle;simp only [St.free,hle,decide_true,qf4])
theorem Vq:(∀ (id:Nat) (xs:List Bool),AV.cG id (xs.map AV.bool)=xs.map AV.bool)∧
 (∀ (b:Bool),(true&&b)=b)∧
 (∀ (b:Bool),(false&&b)=false)∧
 (∀ (b:Bool),(b&&true)=b)∧
 (∀ (b:Bool),(b&&false)=false)∧
 (∀ (b:Bool),(true|| b)=true)∧
 (∀ (b:Bool),(false|| b)=b)∧
 (∀ (b:Bool),(b|| true)=true)∧
 (∀ (b:Bool),(b|| false)=b)∧
 (∀ (p:True→Prop),(∃ h:True,p h)=p trivial)∧
 (∀ (s:St) (x:AV),s.put none x=s)∧
 (∀ (f:List AV) (h:Hp) (d:Nat) (x:AV),St.put ⟨f,h⟩ (some d) x=⟨f.set d x,h⟩)∧
 (∀ (s:St) (t:Nat),s.eval (.tmp t)=s.fr.getD t .any)∧
 (∀ (s:St) (x:Value),s.eval (.const x)=AV.dY x)∧
 (∀ (s:St) (f:FuncId),f≤999999999→s.eval (.func f)= .fn f [])∧
 (∀ (s:St) (ps:Array (Nat×Operand)),bM s ps=ps.toList.map fun p=>(p.1,s.eval p.2))∧
 (∀ (s:St) (args:Array Operand),cv s args=args.toList.map s.eval)∧
 (∀ (k:IntKind) (n:Int),AV.dY (.int k n)= .v (.int k n))∧
 (∀ (b:Bool),AV.dY (.bool b)= .v (.bool b))∧
 (∀ (b:ByteArray),AV.dY (.string b)= .v (.string b))∧
 (∀ (A:Option Addr) (n c:Nat),AV.dY (.slice A n c)= .v (.slice A n c))∧
 (∀ (A:Option Addr),AV.dY (.pointer A)= .v (.pointer A))∧
 (∀ (l:List Value),AV.dY (.agg l.toArray)= .agg (l.map AV.v))∧
 (∀ (α:Type) (l m:List α),l.append m=l++m)∧
 (∀ (id:Nat) (l:List AV),AV.dN id (.agg l)=if AV.bz id l then .any else .agg l)∧
 (∀ (id:Nat) (l:List AV),AV.dN id (.dC l)=if AV.bz id l then .any else .dC l)∧
 (∀ (id:Nat) (f:FuncId) (l:List AV),AV.dN id (.fn f l)=if AV.bz id l then .any else .fn f l)∧
 (∀ (f:List AV) (h:Hp) (id:Nat),id≤999999999→St.free ⟨f,h⟩ id= !(AV.bz id f|| cz id h))∧
 (∀ (id:Nat),AV.bz id []=false)∧
 (∀ (id:Nat) (x:AV) (r:List AV),AV.bz id (x::r)=(AV.cq id x|| AV.bz id r)):=by
 refine ⟨?_,?_,?_,?_,?_,?_,?_,?_,?_,?_,?_,?_,?_,?_,?_,?_,?_,?_,?_,?_,?_,?_,?_,?_,?_,?_,?_,?_,?_,?_⟩<;>intros<;>first|rfl|(simp;done)|exact toNat_pred _|exact toNat_succ _|exact oo _ _ _|exact qo _ _ _ _ _ _|exact np _ _|exact mc _ _|(cases ‹Bool›<;>rfl)|(rename_i a b;cases a<;>cases b<;>rfl)|(simp [AV.dY];done)|exact o7 _ _|exact nh _ _|exact jM _ _ _|exact l7 _ _ _|exact An aE|(rename_i hle;simp only [St.free,hle,decide_true,qf4])
theorem Vr:(∀ (id:Nat),AV.cq id .any=false)∧
 (∀ (id:Nat) (x:Value),AV.cq id (.v x)=false)∧
 (∀ (id a b:Nat) (es:List AV),AV.cq id (.cD a b es)=false)∧
 (∀ (id:Nat) (es:List AV),AV.cq id (.bC es)=false)∧
 (∀ (id i o:Nat),AV.cq id (.ptr i o)=(i == id))∧
 (∀ (id a b i o n:Nat),AV.cq id (.sl a b i o n)=(i == id))∧
 (∀ (id:Nat) (cs:List AV),AV.cq id (.agg cs)=AV.bz id cs)∧
 (∀ (id:Nat) (cs:List AV),AV.cq id (.dC cs)=AV.bz id cs)∧
 (∀ (id:Nat) (f:FuncId) (cs:List AV),AV.cq id (.fn f cs)=AV.bz id cs)∧
 (∀ (id:Nat),cz id []=false)∧
 (∀ (id i:Nat) (b:iB) (r:Hp),cz id ((i,b)::r)=(i == id|| AV.bz id b.cs|| cz id r))∧
 (∀ (id:Nat) (xs:List Int),AV.bz id (xs.map AV.int)=false)∧
 (∀ (id:Nat) (xs:List Bool),AV.bz id (xs.map AV.bool)=false)∧
 (∀ (id n:Nat) (x:Value),AV.bz id (List.replicate n (.v x))=false)∧
 (∀ (id:Nat) (a b:List AV),AV.bz id (a++b)=(AV.bz id a|| AV.bz id b)):=by
 refine ⟨?_,?_,?_,?_,?_,?_,?_,?_,?_,?_,?_,?_,?_,?_,?_⟩<;>intros<;>first|rfl|(simp;done)|exact toNat_pred _|exact toNat_succ _|exact oo _ _ _|exact qo _ _ _ _ _ _|exact np _ _|exact mc _ _|(cases ‹Bool›<;>rfl)|(rename_i a b;cases a<;>cases b<;>rfl)|(simp [AV.dY];done)|exact o7 _ _|exact nh _ _|exact jM _ _ _|exact l7 _ _ _|exact An aE|(rename_i hle;simp only [St.free,hle,decide_true,qf4])
theorem nn:type_of% (And.intro Vo (And.intro Vp (And.intro Vq Vr))):=(And.intro Vo (And.intro Vp (And.intro Vq Vr)))
end Go.Ab
namespace Go.Ab
variable {P:Program}
def TS:List (Nat×TI)→Nat→Option TI
 |[],_=>none
 |(i,x)::r,t=>if i=t then some x else TS r t
def Jm (P:Program):List (Nat×TI)→Prop
 |[]=>True
 |(t,i)::r=>D8 P t i∧Jm P r
theorem Jn:∀ {L:List (Nat×TI)} {t:Nat} {i:TI},Jm P L→TS L t=some i→D8 P t i
 |[],_,_,_,h=>by cases h
 |(k,x)::r,t,i,h,hl=>by
  simp only [TS] at hl;split at hl
  ·rename_i hk;subst hk;injection hl with hl;subst hl;exact h.1
  exact Jn h.2 hl
variable {t:TypeId} {d:TypeDesc}
theorem Jo {z:Value} {n b:Nat} {ag:Bool} {zs:List AV} {k:Af} (hu:cT P t d) (hi:dI P t z n b) (h1:l8 d=ag) (h2:(AV.dY z).cells=zs) (h3:GY P t d k):D8 P t ⟨ag,n,b,zs,k⟩:=
 ⟨d,z,hu,hi,h1,h2,h3⟩
variable {pl:List (Nat×Nat)}
theorem QD (h:n8 P t pl):GY P t d (.st pl false):=⟨h,fun h=>by cases h⟩
theorem FJ {f1 f2:Field} {k1 k2:IntKind} (h:n8 P t pl) (g1:cT P f1.type (.int k1)) (g2:cT P f2.type (.int k2)) (g3:PJ P t f1 f2=true):GY P t (.struct #[f1,f2]) (.st pl true):=
 ⟨h,fun _=>⟨f1,f2,k1,k2,rfl,g1,g2,g3⟩⟩
end Go.Ab
namespace Go.Ab
open Go.RowKit
variable {P:Program}
theorem SL {c:Prop} {p:c→Prop} (hc:c):(∃ h:c,p h)=p hc:=propext ⟨fun ⟨_,k⟩=>k,fun k=>⟨hc,k⟩⟩
attribute [go_sem] SL PN jx AV.one Value.oneCell' ww nn bp cP gM AV.cells iu AV.cG eQ AV.gq AV.cu AV.js AV.fC me fg vG Eg
variable {bh:Nat→Option TI} {id:Nat} {l:List Oper} {s:St} {Q:Exit→St→Prop} {p:Prop}
theorem bY [hT:Tb P bh] (h:p) (e:dP P bh l.toArray (Q .normal) l s=p:=by (first|(simp only [go_sem,seval];exact rfl)|exact rfl)) (hd:iL l=true:=by rfl):AW P (.region id l.toArray false) s Q:=QA (e ▸ h) hd
variable {all:Array Oper} {K:St→Prop} {r:List Oper}
theorem eo (h:p) (e:dP P bh all K r s=p:=by (first|(simp only [go_sem,seval];exact rfl)|exact rfl)):dP P bh all K r s:=e ▸ h
variable {ops:Array Oper} {hs:List Nat}
theorem nQ {r:Sc} (h:p) (e:fv P bh ops hs K r s=p:=by (first|(simp only [go_sem,seval];exact rfl)|exact rfl)):fv P bh ops hs K r s:=e ▸ h
theorem iv {c q:Prop} (k:q) (h:c:=by first|(show _=true;exact rfl)|omega|exact ⟨rfl,rfl,by first|omega|(simp;done)|(simp;omega)⟩|(simp;done)|(simp;omega)|(simp only [go_sem,seval];omega)|(simp [*];done)|(simp [*];omega)):∃ _h:c,q:=⟨h,k⟩
theorem nc {c:Prop} {p:c→Prop} (k:∀ h,p h) (h:c:=by first|(show _=true;exact rfl)|omega|exact ⟨rfl,rfl,by first|omega|(simp;done)|(simp;omega)⟩|(simp;done)|(simp;omega)|(simp only [go_sem,seval];omega)|(simp [*];done)|(simp [*];omega)):∃ h,p h:=⟨h,k h⟩
variable {d:Option Tmp} {f:FuncId} {args:Array Operand}
theorem bg [hT:Tb P bh] {fx:Array TypeId} {ty:TypeId} {pos:String} {bF:Array Edge} {x:AV} [hc:cI P f]
 (h:bm P f (cv s args) (fun y=>y=x)) (k:p) (hp:AV.cu (cv s args)=true:=by rfl) (e:dP P bh all K r (s.put d x)=p:=by (first|(simp only [go_sem,seval];exact rfl)|exact rfl)):eV P all ⟨d,.call {callee:=.value (.func f),args,argTypes:=fx},ty,pos,bF,none⟩ r s K:=
 Jg h hp (e ▸ k)
theorem bB [hT:Tb P bh] {r:Sc} {fx:Array TypeId} {ty:TypeId} {pos:String} {bF:Array Edge} {x:AV} [hc:cI P f]
 (h:bm P f (cv s args) (fun y=>y=x)) (k:p) (hp:AV.cu (cv s args)=true:=by rfl) (e:fv P bh ops hs K r (s.put d x)=p:=by (first|(simp only [go_sem,seval];exact rfl)|exact rfl)):iG P ops hs ⟨d,.call {callee:=.value (.func f),args,argTypes:=fx},ty,pos,bF,none⟩ r s K:=
 Jl h hp (e ▸ k)
theorem fb (h:p) (e:Q (.exit id) s=p:=by (first|(simp only [go_sem,seval];exact rfl)|exact rfl)):AW P (.exit id) s Q:=FK (e ▸ h)
theorem eY (h:p) (e:Q .ret s=p:=by (first|(simp only [go_sem,seval];exact rfl)|exact rfl)):AW P .ret s Q:=Jp (e ▸ h)
theorem cS (h:p) (e:Q .normal s=p:=by (first|(simp only [go_sem,seval];exact rfl)|exact rfl)):AW P .skip s Q:=FL (e ▸ h)
variable {o:Oper} {b:Bool} {p1 p2 q1 q2:Prop}
theorem hZ {c:Bool}
 (k1:q1→p1) (k2:q2→p2) (e1:c=true→mu P bh all K o r s (rT (.bool c) b)=p1:=by (intro hc;first|(simp only [hc,go_sem,seval];exact rfl)|exact rfl)) (e2:c=false→mu P bh all K o r s (rT (.bool c) b)=p2:=by (intro hc;first|(simp only [hc,go_sem,seval];exact rfl)|exact rfl)) (f1:(c=true)=q1:=by (first|(simp only [go_sem,decide_eq_true_eq,decide_eq_false_iff_not,Int.not_lt,Int.not_le,beq_iff_eq,bne_iff_ne,ne_eq,beq_eq_false_iff_ne,bne_eq_false_iff_eq,qg1,qb7,qj5,decide_true,qf4,Bool.and_true,qc1,qc5,qa1,qe0,qj2,qg7];exact rfl)|exact rfl)) (f2:(c=false)=q2:=by (first|(simp only [go_sem,decide_eq_true_eq,decide_eq_false_iff_not,Int.not_lt,Int.not_le,beq_iff_eq,bne_iff_ne,ne_eq,beq_eq_false_iff_ne,bne_eq_false_iff_eq,qg1,qb7,qj5,decide_true,qf4,Bool.and_true,qc1,qc5,qa1,qe0,qj2,qg7];exact rfl)|exact rfl)):mu P bh all K o r s (rT (.bool c) b):=
 Ha (fun hc=>e1 hc ▸ k1 (f1 ▸ hc)) (fun hc=>e2 hc ▸ k2 (f2 ▸ hc))
variable {m:Nat}
theorem lQ {r:Sc} {c:Bool}
 (k1:q1→p1) (k2:q2→p2) (e1:c=true→lV P bh ops hs K m o r s (rT (.bool c) b)=p1:=by (intro hc;first|(simp only [hc,go_sem,seval];exact rfl)|exact rfl)) (e2:c=false→lV P bh ops hs K m o r s (rT (.bool c) b)=p2:=by (intro hc;first|(simp only [hc,go_sem,seval];exact rfl)|exact rfl)) (f1:(c=true)=q1:=by (first|(simp only [go_sem,decide_eq_true_eq,decide_eq_false_iff_not,Int.not_lt,Int.not_le,beq_iff_eq,bne_iff_ne,ne_eq,beq_eq_false_iff_ne,bne_eq_false_iff_eq,qg1,qb7,qj5,decide_true,qf4,Bool.and_true,qc1,qc5,qa1,qe0,qj2,qg7];exact rfl)|exact rfl)) (f2:(c=false)=q2:=by (first|(simp only [go_sem,decide_eq_true_eq,decide_eq_false_iff_not,Int.not_lt,Int.not_le,beq_iff_eq,bne_iff_ne,ne_eq,beq_eq_false_iff_ne,bne_eq_false_iff_eq,qg1,qb7,qj5,decide_true,qf4,Bool.and_true,qc1,qc5,qa1,qe0,qj2,qg7];exact rfl)|exact rfl)):lV P bh ops hs K m o r s (rT (.bool c) b):=
 Hc (fun hc=>e1 hc ▸ k1 (f1 ▸ hc)) (fun hc=>e2 hc ▸ k2 (f2 ▸ hc))
variable {c:Operand} {x y:Code} {s1:St}
theorem cZ {s2:St}
 (k1:q1→AW P x s1 Q) (k2:q2→AW P y s2 Q) (hc:s.eval c= .bool b:=by rfl) (e1:b=true→s=s1:=by (intro hc;first|(simp only [hc,go_sem,seval];exact rfl)|exact rfl)) (e2:b=false→s=s2:=by (intro hc;first|(simp only [hc,go_sem,seval];exact rfl)|exact rfl)) (f1:(b=true)=q1:=by (first|(simp only [go_sem,decide_eq_true_eq,decide_eq_false_iff_not,Int.not_lt,Int.not_le,beq_iff_eq,bne_iff_ne,ne_eq,beq_eq_false_iff_ne,bne_eq_false_iff_eq,qg1,qb7,qj5,decide_true,qf4,Bool.and_true,qc1,qc5,qa1,qe0,qj2,qg7];exact rfl)|exact rfl)) (f2:(b=false)=q2:=by (first|(simp only [go_sem,decide_eq_true_eq,decide_eq_false_iff_not,Int.not_lt,Int.not_le,beq_iff_eq,bne_iff_ne,ne_eq,beq_eq_false_iff_ne,bne_eq_false_iff_eq,qg1,qb7,qj5,decide_true,qf4,Bool.and_true,qc1,qc5,qa1,qe0,qj2,qg7];exact rfl)|exact rfl)):AW P (.cond c x y) s Q:=
 Ao hc (fun h=>by have:=e1 h;subst this;exact k1 (f1 ▸ h)) (fun h=>by have:=e2 h;subst this;exact k2 (f2 ▸ h))
theorem fc (h:AW P x s Q) (hc:s.eval c= .bool true:=by rfl):AW P (.cond c x y) s Q:=BY hc h
theorem ed (h:AW P y s Q) (hc:s.eval c= .bool false:=by rfl):AW P (.cond c x y) s Q:=BZ hc h
theorem DZ [hT:Tb P bh] (sc:Sc) (hs:List Nat)
 (h:p) (hok:(P.follows .mixedOrders&&kQ l hs sc)=true:=by kernel_rfl) (e:fv P bh l.toArray hs (Q .normal) sc s=p:=by (first|(simp only [go_sem,seval];exact rfl)|exact rfl)) (hd:iL l=true:=by rfl):AW P (.region id l.toArray true) s Q:=PX sc hs hok (e ▸ h) hd
theorem Na {c:Code} (h:AW P c s (fun e s'=>e= .normal∧Le s' s1)) (k:Q .normal s1):AW P c s Q:=
 fun ro ho R β G a w hr=>wpIn_mono (h ro ho R β G a w hr) (fun e a' w' ⟨β',G',s',⟨he,hle⟩,hr'⟩=>by
  subst he;obtain ⟨β2,G2,hr2⟩:=hle R β' G' a' w' hr';exact ⟨β2,G2,s1,k,hr2⟩)
theorem Vs [hT:Tb P bh] {p:(St→Prop)→Prop} (sc:Sc) (hs:List Nat)
 (h:p (fun s'=>Le s' s1)) (k:Q .normal s1) (hok:(P.follows .mixedOrders&&kQ l hs sc)=true:=by kernel_rfl) (e:∀ K:St→Prop,fv P bh l.toArray hs K sc s=p K:=by (intro K;(first|(simp only [go_sem,seval];exact rfl)|exact rfl))) (hd:iL l=true:=by rfl):AW P (.region id l.toArray true) s Q:=
 Na (s1:=s1) (jN (PX (Q:=fun e s'=>e= .normal∧Le s' s1) sc hs hok (by
  have h2:fv P bh l.toArray hs (fun s'=>Le s' s1) sc s:=e _ ▸ h
  have:(fun s'=>Le s' s1)=(fun s'=>Exit.normal=Exit.normal∧Le s' s1):=by funext s';simp
  rw [this] at h2;exact h2) hd) (fun _ _ h=>h)) k
variable {fn:Func} {fr:List AV} {n:Nat} {rs:Array ResultVar}
theorem bc {c:Code} {args:List AV} {Q:AV→Prop} (hf:P.funcs[f]?=some fn) (hn:fn.ntmps=n)
 (h:AW P c ⟨fr,[]⟩ (Fin P rs Q)) (hb:fn.body=some c:=by rfl) (hrs:fn.results=rs:=by rfl) (he:args++List.replicate (n - args.length) .any=fr:=by simp only [go_sem,Nat.reduceAdd,Nat.reduceSub,qg6,qh3];exact rfl):bm P f args Q:=B0 hf hb hn hrs (by rw [he];exact h)
theorem xr {c:Code} {args:List AV} {ids:List Nat} {Q:AV→Hp→Prop} (hf:P.funcs[f]?=some fn) (hn:fn.ntmps=n)
 (h:AW P c ⟨fr,[]⟩ (fi P rs ids Q)) (hb:fn.body=some c:=by rfl) (hrs:fn.results=rs:=by rfl) (he:args++List.replicate (n - args.length) .any=fr:=by simp only [go_sem,Nat.reduceAdd,Nat.reduceSub,qg6,qh3];exact rfl):da P f args ids Q:=I7 hf hb hn hrs (by rw [he];exact h)
variable {s':St}
theorem gL (h:Le s s'):Le s s':=h
theorem tu {d:Bool} (k:Nat) (_hk:(id == k)=false) (h:AW P (.region id ops d) s Q):AW P (.region id ops d) s Q:=h
theorem gR {l:Array Oper} (h:AW P (.region id l false) s Q):AW P (.region id l false) s Q:=h
theorem gD (id:Nat) {l:Array Oper} (h:AW P (.region id l true) s Q):AW P (.region id l true) s Q:=h
theorem gE {c:Prop} {p:c→Prop} (h:∃ x,p x):∃ x,p x:=h
variable {fx:Array TypeId} {ty:TypeId} {pos:String} {bF:Array Edge} {g:Option (Nat×Bool)}
theorem gC (f:FuncId)
 (h:eV P all ⟨d,.call {callee:=.value (.func f),args,argTypes:=fx},ty,pos,bF,g⟩ r s K):eV P all ⟨d,.call {callee:=.value (.func f),args,argTypes:=fx},ty,pos,bF,g⟩ r s K:=h
theorem dH (f:FuncId) {r:Sc}
 (h:iG P ops hs ⟨d,.call {callee:=.value (.func f),args,argTypes:=fx},ty,pos,bF,g⟩ r s K):iG P ops hs ⟨d,.call {callee:=.value (.func f),args,argTypes:=fx},ty,pos,bF,g⟩ r s K:=h
theorem gW (h:dP P bh all K r s):dP P bh all K r s:=h
theorem yO {r:Sc} (h:fv P bh ops hs K r s):fv P bh ops hs K r s:=h
theorem gG {x:GT} (h:mu P bh all K o r s x):mu P bh all K o r s x:=h
theorem I0 {r:Sc} {x:GT} (h:lV P bh ops hs K m o r s x):lV P bh ops hs K m o r s x:=h
theorem gQ (h:AW P (.cond c x y) s Q):AW P (.cond c x y) s Q:=h
theorem gX (h:AW P (.exit id) s Q):AW P (.exit id) s Q:=h
theorem gT (h:AW P .ret s Q):AW P .ret s Q:=h
theorem gS (h:AW P .skip s Q):AW P .skip s Q:=h
variable {i:Nat} {l':Hp}
theorem xu {b:iB} {l:Hp} (hn:bp l i=some b) (h:iE l l'):iE l ((i,b)::l'):=by
 intro k c hk;simp only [bp] at hk;split at hk
 ·rename_i hik
  subst hik;injection hk with hk
  subst hk;exact hn
 exact h k c hk
theorem aZ {f f':List AV} {h h':Hp} (hf:oh f f':=by (repeat (first|exact .nil|refine .drop ?_|refine .keep ?_))) (hh:iE h h':=by first|exact Hk _|((repeat refine xu aR ?_);exact fR _)):Le ⟨f,h⟩ ⟨f',h'⟩:=ea hf hh
theorem ia {T:TypeId} {cs cs':List AV} {fl:Bool} {l:Hp} (hn:bp l i=some ⟨T,cs,fl⟩) (hc:cs=cs') (h:iE l l'):iE l ((i,⟨T,cs',fl⟩)::l'):=by
 subst hc;exact xu hn h
theorem gO {r:Sc} (h:kM P ops hs o r s K):kM P ops hs o r s K:=h
variable {op:Op}
theorem kJ [hT:Tb P bh] {r:Sc} (h:p)
 (e:TP P bh ops hs K r (nO bh op d s)=p:=by (first|(simp only [go_sem,seval];exact rfl)|exact rfl)):kM P ops hs ⟨d,op,ty,pos,bF,g⟩ r s K:=M5 (e ▸ h)
theorem yP {r:Sc} (h:iG P ops hs o r s K):iG P ops hs o r s K:=h
theorem nR [hT:Tb P bh] {r:Sc} (h:p)
 (e:MG P bh ops hs K d r s (oZ bh op s)=p:=by (first|(simp only [go_sem,seval];exact rfl)|exact rfl)):iG P ops hs ⟨d,op,ty,pos,bF,g⟩ r s K:=M6 (e ▸ h)
theorem ck {d:Tmp} {t el:TypeId} {x y:Operand} {sz bw:Nat} {z:Value} {bk:iB} {es:List AV} {ty:TypeId} {pos:String} {bF:Array Edge} {g:Option (Nat×Bool)}
 [hu:cT P t (.slice el)] [hi:dI P el z sz bw]
 (hk:K ⟨(AV.cG id s.fr).set d (.sl sz bw id 0 (n+es.length)),cP (eQ id s.hp) id ⟨el,AV.cG id bk.cs++es.flatMap AV.cells,false⟩⟩)
 (hx:s.eval x= .sl sz bw id 0 n:=by rfl) (hb:bp s.hp id=some bk:=by rfl) (hT:bk.T=el:=by rfl) (hl:bk.cs.length=n * sz:=by first|rfl|(simp only [go_sem,seval,qc0,qa2]<;>omega)|simp) (hy:s.eval y= .cD sz bw es:=by rfl) (h1:zc es:=by first|exact Hl rfl|exact Hm (fun _=>rfl))
 (hz:z.cells.size=sz:=by rfl) (hs:0 < sz:=by first|decide|(simp;done)|(simp;omega)) (hw:0 < bw:=by first|decide|(simp;done)|(simp;omega)) (hbytes:(n+es.length) * bw≤140737488355328:=by first|omega|(simp only [go_sem,seval];omega)):
 ff P ⟨some d,.call {callee:=.builtin .append,args:=#[x,y],argTypes:=#[t,t]},ty,pos,bF,g⟩ s K:=xv hx hb hT hl hy h1 hz hs hw hbytes hk
variable {hp:Hp}
theorem xw {f:List AV} (i id sz bw:Nat) (T:TypeId) (h:ff P o s' K) (hx:f[i]?=some .fO:=by rfl) (hf:St.free ⟨f,hp⟩ id=true:=by first|rfl|(simp only [go_sem,seval];done)|(simp only [go_sem,seval];rfl)|(simp [St.free,cz,AV.bz,AV.cq]))
 (e:(⟨f.set i (.sl sz bw id 0 0),cP hp id ⟨T,[],false⟩⟩:St)=s':=by (simp only [go_sem,seval];exact rfl)):ff P o ⟨f,hp⟩ K:=fy (e ▸ wI i id sz bw T hx hf) h
theorem fD {c:Code} {f:List AV} (i id sz bw:Nat) (T:TypeId) (h:AW P c s' Q) (hx:f[i]?=some .fO:=by rfl) (hf:St.free ⟨f,hp⟩ id=true:=by first|rfl|(simp only [go_sem,seval];done)|(simp only [go_sem,seval];rfl)|(simp [St.free,cz,AV.bz,AV.cq]))
 (e:(⟨f.set i (.sl sz bw id 0 0),cP hp id ⟨T,[],false⟩⟩:St)=s':=by (simp only [go_sem,seval];exact rfl)):AW P c ⟨f,hp⟩ Q:=cE (e ▸ wI i id sz bw T hx hf) h
theorem bA {a b:Prop} (h:b) (e:a=b:=by (simp only [ib,kN,go_sem,seval];exact rfl)):a:=e ▸ h
end Go.Ab
