/- Part of a proof: of two right answers both have a plan, at one cost, or none. No condition. -/
import Derived.ChangeKeysEq
import Derived.CheckFast
import Derived.KernelRfl
import Derived.Test.YtkbiagkbmodgdaaGreatZaba
set_option linter.unusedSimpArgs false
set_option linter.unusedVariables false
namespace Go.Ab
open Go.RowKit
variable {P:Program}
def fY (ids:List Nat) (x:AV) (hp:Hp):Prop:=∀ id,id ∉ ids→AV.cv id x=false∧cI id hp=false
def dn (P:Program) (f:FuncId) (args:List AV) (ids:List Nat) (Q:AV→Hp→Prop):Prop:=
  (∀ id∈ids,id≤999999999)→∀ G w vals,kD G w→uc G args vals→Calls P f vals.toArray w fun e w'=>∃ y G' β' x hp,e= .returned y∧Q x hp∧fY ids x hp∧Conc G' β' x y∧c9 ⟨w,fun _=>False,G,fun _=>none,ln.no⟩ β' G' hp w'
def ft (P:Program) (rs:Array ResultVar) (ids:List Nat) (Q:AV→Hp→Prop):Exit→St→Prop
  | .normal,s| .ret,s=>∃ s' x,Le s s'∧RV P rs s' x∧fY ids x s'.hp∧Q x s'.hp
  |_,_=>False
theorem Fe {f:FuncId} {fn:Func} {c:Code} {args:List AV} {ids:List Nat} {Q:AV→Hp→Prop} {n:Nat} {rs:Array ResultVar} (hf:P.funcs[f]?=some fn) (hb:fn.body=some c) (hn:fn.ntmps=n) (hrs:fn.results=rs)
    (h:AW P c ⟨args++List.replicate (n - args.length) .any,[]⟩ (ft P rs ids Q)):dn P f args ids Q:=by
  intro _ G w vals hG ⟨hl,hc⟩
  subst hn
  refine fU (R:=⟨w,fun _=>False,G,fun _=>none,ln.no⟩) (β:=lj) (G:=G) hf hb hrs (iR hl hc ⟨hG,fun id bk h=>by simp [aW] at h,fun i j b t t' h=>by simp [aW] at h,⟨rfl,rfl,rfl,Nat.le_refl _,fun _ _ _=>rfl⟩,fun b h=>.inl h,qz,iy.nil⟩) h fun e s' hq=>?_
  have key:(∃ s'' x,Le s' s''∧RV P rs s'' x∧fY ids x s''.hp∧Q x s''.hp)→∃ s'' x,Le s' s''∧RV P rs s'' x∧∀ β2 G2 y w2,Conc G2 β2 x y→c9 ⟨w,fun _=>False,G,fun _=>none,ln.no⟩ β2 G2 s''.hp w2→
      (fun (e:Ending) (w':World)=>∃ y G' β' x hp,e=Ending.returned y∧Q x hp∧fY ids x hp∧Conc G' β' x y∧c9 ⟨w,fun _=>False,G,fun _=>none,ln.no⟩ β' G' hp w') (.returned y) w2:=by
    rintro ⟨s'',x,hle,hrv,hp,hQ⟩
    exact ⟨s'',x,hle,hrv,fun β2 G2 y w2 hcy hH=>⟨y,G2,β2,x,s''.hp,rfl,hQ,hp,hcy,hH⟩⟩
  cases e with
  |normal=>exact ⟨.inl rfl,key hq⟩
  |ret=>exact ⟨.inr rfl,key hq⟩
  |_=>exact hq.elim
theorem dF (a b:Hp) (i:Nat):aW (a++b) i=(aW a i).or (aW b i):=by
  induction a with
  |nil=>simp [aW]
  |cons p r ih=>
    obtain ⟨j,x⟩:=p
    simp only [List.cons_append,aW]
    split
    · simp
    · exact ih
theorem dU {hp:Hp} {i:Nat} {bk:fZ} (h:aW hp i=some bk):cI i hp=true:=by
  induction hp with
  |nil=>simp [aW] at h
  |cons p r ih=>
    obtain ⟨j,x⟩:=p
    simp only [aW] at h
    simp only [cI]
    split at h
    · rename_i e;simp [e]
    · simp [ih h]
theorem fu {hp:Hp} {i k:Nat} {bk:fZ} (h:aW hp k=some bk) (hm:AV.bz i bk.cs=true):cI i hp=true:=by
  induction hp with
  |nil=>simp [aW] at h
  |cons p r ih=>
    obtain ⟨j,x⟩:=p
    simp only [aW] at h
    simp only [cI]
    split at h
    · injection h with h;subst h;simp [hm]
    · simp [ih h]
theorem eE.K7 {R:Rg} {β:cM} {G G':bE} {s:St} {a:Act} {w w':World} (h:eE R β G s a w) (he:Ext w w') (hG':kD G' w') (hd:∀ b,G' b≠none→G b≠none∨w.heap.size≤b) :
    ∃ G'',eE R β G'' s a w'∧(∀ b o,G' b=some o→G'' b=some o)∧∀ b,G'' b≠none→G b≠none∨G' b≠none:=by
  obtain ⟨G'',h1,h2⟩:=h.later he hG' hd
  let G3:bE:=fun b=>match G b with|some o=>some o|none=>G' b
  have hgs:kD G w':=pN h.hp.gs he
  have m1:∀ b o,G b=some o→G3 b=some o:=fun b o hb=>by simp [G3,hb]
  have m2:∀ b o,G' b=some o→G3 b=some o:=fun b o hb=>by
    cases hg:G b with
    |none=>simp [G3,hg,hb]
    |some o'=>
      have e1:=hgs b o' hg
      have e2:=hG' b o hb
      rw [e1] at e2;injection e2 with e2;subst e2
      exact m1 b _ hg
  refine ⟨G3,⟨h.defers.mono m1,h1.size,fun i x y hx hy=>(h.fr i x y hx hy).mono m1,⟨fun b o hb=>?_,fun id bk hi=>?_,h1.hp.inj,h1.hp.keeps,fun b hb=>?_,h1.hp.jv,h1.hp.ga⟩⟩,m2,fun b hb=>?_⟩
  · simp only [G3] at hb
    split at hb
    · rename_i o' hg;injection hb with hb;subst hb;exact hgs b _ hg
    · exact hG' b o hb
  · have:=h.hp.blk id bk hi
    unfold bW at this ⊢
    cases hβ:β id with
    |no=>rw [hβ] at this;exact this
    |nil=>rw [hβ] at this;exact this
    |«at» b t=>
      rw [hβ] at this
      obtain ⟨g1,g2,arr',g3,g4,g5,g6,g7⟩:=this
      refine ⟨?_,g2,arr',by rw [he.block b (cN g3)];exact g3,g4,g5,g6,fun j x y hx hy=>(g7 j x y hx hy).mono m1⟩
      simp only [G3,g1]
      cases hq:G' b with
      |none=>rfl
      |some o=>
        rcases hd b (by rw [hq];simp) with h1|h1
        · exact absurd g1 h1
        · have:=cN g3;omega
    |gh o=>rw [hβ] at this;exact fv this m1 fun x _ y hc=>hc.mono m1
  · simp only [G3] at hb
    cases hg:G b with
    |some o=>exact h.hp.js b (by rw [hg];simp)
    |none=>
      rw [hg] at hb
      rcases hd b hb with h1|h1
      · exact absurd hg h1
      · exact .inr (.inl (Nat.le_trans h.hp.keeps.size h1))
  · simp only [G3] at hb
    cases hg:G b with
    |none=>rw [hg] at hb;exact .inr hb
    |some o=>exact .inl ax
theorem c9.ext {β:cM} {G G':bE} {hp:Hp} {w w':World} (h:c9 ⟨w,fun _=>False,G,fun _=>none,ln.no⟩ β G' hp w'):Ext w w':=
  have hk:=h.keeps
  ⟨hk.os,hk.tape,hk.output,hk.size,fun k hk'=>hk.block k hk' ax⟩
theorem ud {d:Option Tmp} {s:St} {ids:List Nat} {R:Rg} {β:cM} {G:bE} {a:Act} {w:World} (hr:eE R β G s a w) (hfree:∀ id∈ids,s.free id=true)
    {y:Value} {G':bE} {β':cM} {x:AV} {hp':Hp} {w':World} (hwi:fY ids x hp') (hcx:Conc G' β' x y) (hrh:c9 ⟨w,fun _=>False,G,fun _=>none,ln.no⟩ β' G' hp' w') :
    ∃ β2 G2,eE R β2 G2 ⟨(s.put d x).fr,hp'++s.hp⟩ (a.put d y) w':=by
  have hext:Ext w w':=c9.ext hrh
  obtain ⟨G'',hr',hm,hback⟩:=hr.K7 hext hrh.gs (fun b hb=>(hrh.js b hb).imp id (fun h=>h.elim id (fun h=>h.elim)))
  let β2:cM:=fun id=>if id∈ids then β' id else β id
  have b1:∀ id,id∈ids→β2 id=β' id:=fun id h=>by simp [β2,h]
  have b2:∀ id,id ∉ ids→β2 id=β id:=fun id h=>by simp [β2,h]
  have hin:∀ id,AV.cv id x=true∨cI id hp'=true→id∈ids:=fun id hm=>by
    by_cases hi:id∈ids
    · exact hi
    · have:=hwi id hi;rcases hm with hm|hm
      · rw [this.1] at hm;cases hm
      · rw [this.2] at hm;cases hm
  have hout:∀ id,id∈ids→(∀ (i:Nat) x,s.fr[i]?=some x→AV.cv id x=false)∧aW s.hp id=none∧∀ k bk (j:Nat) x,aW s.hp k=some bk→bk.cs[j]?=some x→AV.cv id x=false:=fun id h=>ja (hfree id h)
  have hput:(eE R β G'' (s.put d .any) (a.put d y) w'):=hr'.put d .any
  have hold:∀ x y,(∀ id,id∈ids→AV.cv id x=false)→Conc G'' β x y→Conc G'' β2 x y:=fun x y hx hc=>hc.ext (fun id hm=>by
    by_cases hi:id∈ids
    · rw [hx id hi] at hm;cases hm
    · exact b2 id hi) (fun _ _ h=>h)
  have hnew:∀ x y,(∀ id,AV.cv id x=true→id∈ids)→Conc G' β' x y→Conc G'' β2 x y:=fun x y hx hc=>hc.ext (fun id hm=>b1 id (hx id hm)) hm
  have hxc:=hnew x y (fun id h=>hin id (.inl h)) hcx
  have hpre:eE R β2 G'' ⟨s.fr,hp'++s.hp⟩ a w':=by
    refine ⟨hr'.defers,hr'.size,fun i u v hu hv=>hold u v (fun id hi=>(hout id hi).1 i u hu) (hr'.fr i u v hu hv),⟨hr'.hp.gs,fun i bk hi=>?_,fun i j b t t' hi hj hbi hbj=>?_,hr'.hp.keeps,hr'.hp.js,fun i hi=>?_,hr'.hp.ga.ext fun i h1 hi=>?_⟩⟩
    rotate_right
    · have hni:i ∉ ids:=fun h=>by have:=gg (hfree i h);omega
      refine ⟨?_,b2 i hni⟩
      rw [dF] at hi
      cases hq:aW hp' i with
      |some bk'=>exact absurd (hin i (.inr (dU hq))) hni
      |none=>rw [hq] at hi;simpa using hi
    · rw [dF] at hi
      cases hq:aW hp' i with
      |some bk'=>
        rw [hq] at hi;simp at hi;subst hi
        have hii:=hin i (.inr (dU hq))
        have:=hrh.blk i bk' hq
        unfold bW at this ⊢
        rw [b1 i hii]
        cases hβ:β' i with
        |no=>rw [hβ] at this;exact this
        |nil=>rw [hβ] at this;exact this
        |gh o=>
          rw [hβ] at this
          rcases this with ⟨_,h0,_⟩|⟨b,es,clock,e0,e1,e2,e3,e4,e5⟩
          · cases h0
          · exact .inr ⟨b,es,clock,e0,e1,.inl (Nat.le_trans hr.hp.keeps.size (e2.elim (fun h=>h) (fun h=>h.elim))),hm _ _ e3,e4,fun j u v hu hv=>hnew u v (fun id hmm=>hin id (.inr (fu hq (ig hu hmm)))) (e5 j u v hu hv)⟩
        |«at» b t=>
          rw [hβ] at this
          obtain ⟨g1,g2,arr',g3,g4,g5,g6,g7⟩:=this
          have hge:w.heap.size≤b:=g2.elim (fun h=>h) (fun h=>h.elim)
          refine ⟨?_,.inl (Nat.le_trans hr.hp.keeps.size hge),arr',g3,g4,g5,g6,fun j u v hu hv=>hnew u v (fun id hm=>hin id (.inr (fu hq ?_))) (g7 j u v hu hv)⟩
          · cases hg:G'' b with
            |none=>rfl
            |some o=>
              rcases hback b (by rw [hg];simp) with h1|h1
              · cases hg1:G b with
                |none=>exact absurd hg1 h1
                |some o1=>have:=cN (hr.hp.gs b o1 hg1);omega
              · exact absurd g1 h1
          · exact ig hu hm
      |none=>
        rw [hq] at hi;simp at hi
        have hni:i ∉ ids:=fun h=>by rw [(hout i h).2.1] at hi;cases hi
        have:=hr'.hp.blk i bk hi
        unfold bW at this ⊢
        rw [b2 i hni]
        cases hβ:β i with
        |no=>rw [hβ] at this;exact this
        |nil=>rw [hβ] at this;exact this
        |gh o=>
          rw [hβ] at this
          exact fv this (fun _ _ h=>h) fun u hu v hc=>by
            obtain ⟨j,hj⟩:=List.getElem?_of_mem hu
            exact hold u v (fun id hi'=>(hout id hi').2.2 i bk j u hi hj) hc
        |«at» b t=>
          rw [hβ] at this
          obtain ⟨g1,g2,arr',g3,g4,g5,g6,g7⟩:=this
          exact ⟨g1,g2,arr',g3,g4,g5,g6,fun j u v hu hv=>hold u v (fun id hi'=>(hout id hi').2.2 i bk j u hi hu) (g7 j u v hu hv)⟩
    · have key:∀ i b t,(aW (hp'++s.hp) i).isSome→β2 i= .at b t→((aW hp' i).isSome∧β' i= .at b t∧w.heap.size≤b)∨((aW s.hp i).isSome∧β i= .at b t∧b < w.heap.size):=by
        intro i b t his hb
        rw [dF] at his
        cases hq:aW hp' i with
        |some bk'=>
          have hii:=hin i (.inr (dU hq))
          rw [b1 i hii] at hb
          have:=hrh.blk i bk' hq
          unfold bW at this
          rw [hb] at this
          exact .inl ⟨rfl,hb,this.2.1.elim (fun h=>h) (fun h=>h.elim)⟩
        |none=>
          rw [hq] at his;simp at his
          obtain ⟨bk',hq'⟩:=Option.isSome_iff_exists.1 his
          have hni:i ∉ ids:=fun h=>by rw [(hout i h).2.1] at hq';cases hq'
          rw [b2 i hni] at hb
          obtain ⟨_,_,arr',g3,_⟩:=hr.hp.block hq' hb
          exact .inr ⟨his,hb,cN g3⟩
      rcases key i b t hi hbi with ⟨a1,a2,a3⟩|⟨a1,a2,a3⟩<;>rcases key j b t' hj hbj with ⟨c1,c2,c3⟩|⟨c1,c2,c3⟩
      · exact hrh.inj i j b t t' a1 c1 a2 c2
      · omega
      · omega
      · exact hr.hp.inj i j b t t' a1 c1 a2 c2
    · by_cases hii:i∈ids
      · rw [b1 i hii] at hi;exact hrh.jv i hi
      · rw [b2 i hii] at hi;exact hr.hp.jv i hi
  refine ⟨β2,G'',?_⟩
  have:=hpre.put d hxc
  cases d<;>exact this
theorem na {d:Option Tmp} {f:FuncId} {args:Array Operand} {eQ:Array TypeId} {ty:TypeId} {pos:String} {bC:Array Edge} {g:Option (Nat×Bool)} {s:St} {K:St→Prop} {ids:List Nat} {Q:AV→Hp→Prop} [hc:cS P f]
    (h:dn P f (cn s args) ids Q) (hp:AV.cj (cn s args)=true) (hfree:∀ id∈ids,s.free id=true) (hk:∀ x hp,Q x hp→K ⟨(s.put d x).fr,hp++s.hp⟩) :
    dz P ⟨d,.call {callee:=.value (.func f),args,argTypes:=eQ},ty,pos,bC,g⟩ s K:=by
  intro R β G a w Q' hr
  have hrun:(execOp a.eval ⟨d,.call {callee:=.value (.func f),args,argTypes:=eQ},ty,pos,bC,g⟩).run P w= .ok (.enter f (args.map a.eval)) w:=by
    simp [execOp,resolve,Act.eval,Deferred.ofValue,invoke,hc.ok]
  unfold Oper.wp
  rw [hrun,Oper.upon_enter]
  have:=h (fun id hid=>gg (hfree id hid)) G w (args.map a.eval).toList hr.hp.gs (nb hr args hp)
  simp only [Array.toArray_toList] at this
  refine this.mono fun e w' ⟨y,G',β',x,hp',he,hQ,hwi,hcx,hrh⟩=>?_
  subst he
  obtain ⟨β2,G2,h2⟩:=ud (d:=d) hr hfree hwi hcx hrh
  exact ⟨c9.ext hrh,β2,G2,_,hk x hp' hQ,h2⟩
theorem Dp {i sz bw off n:Nat} {T:TypeId} {cs:List AV} {full:Bool} (h:AV.cj cs=true):fY [i] (.sl sz bw i off n) [(i,⟨T,cs,full⟩)]:=by
  intro id hid
  have hne:¬i=id:=fun e=>hid (by simp [e])
  have hm:AV.bz id cs=false:=by
    cases hq:AV.bz id cs with
    |false=>rfl
    |true=>
      have:=kE (id:=id) h
      exfalso
      have key:∀ l:List AV,AV.cj l=true→AV.bz id l=true→False:=by
        intro l
        induction l with
        |nil=>intro _ h;simp [AV.bz] at h
        |cons x r ih=>
          intro hp hm
          simp only [AV.cj,Bool.and_eq_true] at hp
          simp only [AV.bz,Bool.or_eq_true] at hm
          rcases hm with hm|hm
          · have:=nc (id:=id) hp.1
            unfold AV.dJ at this
            rw [if_pos hm] at this
            subst this
            simp [AV.cv] at hm
          · exact ih hp.2 hm
      exact key cs h hq
  exact ⟨by simp [AV.cv,hne],by simp [cI,hne,hm]⟩
end Go.Ab
namespace Go.Ab
open Go.RowKit
variable {P:Program}
theorem mi {d:Tmp} {t el:TypeId} {z:Value} {m bw:Nat} {ty:TypeId} {pos:String} {bC:Array Edge} {g:Option (Nat×Bool)} {s:St} {K:St→Prop}
    [hu:cJ P t (.slice el)] [hi:dm P el z m bw] (id:Nat) (hf:s.free id=true) (hk:K ⟨s.fr.set d (.sl m bw id 0 0),cK s.hp id ⟨el,[],true⟩⟩) :
    dz P ⟨some d,.buildSlice t 0 #[],ty,pos,bC,g⟩ s K:=by
  intro R β G a w Q hr
  have h1:=hr.nY hf el [] #[] true ax ax ax (by simp [AV.bz])
  obtain ⟨i,hi1,hi2,hi3,hi4⟩:=hi.ok
  have hrun:(execOp a.eval ⟨some d,.buildSlice t 0 #[],ty,pos,bC,g⟩).run P w= .ok (.value (.slice (some ⟨w.heap.size,0,none⟩) 0 0)) (w.alloc (.cells #[] el (0,0))):=by
    have he:∀ f:Nat→Value,(Array.range 0).map f=#[]:=fun f=>by apply Array.ext<;>simp
    simp [execOp,Instr.buildSlice,run_underlying hu.ok,sizeOf,typeInfo,hi1,newRow,Instr.fill,he]
  unfold Oper.wp
  rw [hrun,Oper.upon_value]
  exact ⟨(Below.refl _ _).alloc (Nat.le_refl _) _,_,_,_,hk,h1.put (some d) (.sl (t:=0) (c:=0) aG (Nat.le_refl _) ax (by simp [maxLen]) ax)⟩
theorem tq {d:Tmp} {t el:TypeId} {z:Value} {m bw:Nat} {ty:TypeId} {pos:String} {bC:Array Edge} {g:Option (Nat×Bool)} {s:St} {K:St→Prop}
    [hu:cJ P t (.slice el)] [hi:dm P el z m bw] (id:Nat) (hf:s.free id=true) (hk:K ⟨s.fr.set d (.sl m bw id 0 0),cK s.hp id ⟨el,[],true⟩⟩) :
    eR P ⟨some d,.buildSlice t 0 #[],ty,pos,bC,g⟩ s K:=mj (mi id hf hk)
theorem fJ {d:Tmp} {t el:TypeId} {x y:Operand} {n:Int} {z:Value} {bw:Nat} {ty:TypeId} {pos:String} {bC:Array Edge} {g:Option (Nat×Bool)} {s:St} {K:St→Prop}
    [hu:cJ P t (.slice el)] [hi:dm P el z 1 bw] (hx:s.eval x= .int n) (hy:s.eval y= .int n) (h0:0≤n) (hb:n.toNat * bw≤140737488355328) (hw:0 < bw) (hz:z.cells=#[z]) (id:Nat) (hf:s.free id=true)
    (hk:K ⟨s.fr.set d (.sl 1 bw id 0 n.toNat),cK s.hp id ⟨el,List.replicate n.toNat (.v z),true⟩⟩) :
    dz P ⟨some d,.makeSlice t x y,ty,pos,bC,g⟩ s K:=by
  intro R β G a w Q hr
  have hmr:∀ (id:Nat) (z:Value) (n:Nat),AV.bz id (List.replicate n (.v z))=false:=by
    intro id z n;induction n with
    |zero=>rfl
    |succ n ih=>simp [List.replicate_succ,AV.bz,AV.cv,ih]
  have h1:=hr.nY hf el (List.replicate n.toNat (.v z)) ((Array.range n.toNat).map fun _=>z) true ax ax (by
    intro j u v hu hv
    rw [List.getElem?_replicate] at hu
    split at hu<;>simp at hu
    subst hu
    rw [Array.getElem?_map] at hv
    rw [Option.map_eq_some_iff] at hv
    obtain ⟨_,_,rfl⟩:=hv
    exact .v) (hmr _ _ _)
  obtain ⟨i,hi1,hi2,hi3,hi4⟩:=hi.ok
  have e1:=hr.eval x;rw [hx] at e1
  have e2:=hr.eval y;rw [hy] at e2
  have hnm:n.toNat≤maxLen:=by
    have:n.toNat * 1≤n.toNat * bw:=Nat.mul_le_mul_left _ hw
    have h2:n.toNat≤140737488355328:=by omega
    exact Nat.le_trans h2 aw
  have hwr:IntKind.i64.wrap n=n:=by
    have:n.toNat * 1≤n.toNat * bw:=Nat.mul_le_mul_left _ hw
    exact oO aj aj
  have n2:¬(281474976710656 < (bw:Int) * n):=by
    have:((n.toNat * bw:Nat):Int)≤140737488355328:=by omega
    rw [Int.natCast_mul,Int.toNat_of_nonneg h0,Int.mul_comm] at this
    omega
  have hrun:(execOp a.eval ⟨some d,.makeSlice t x y,ty,pos,bC,g⟩).run P w= .ok (.value (.slice (some ⟨w.heap.size,0,none⟩) n.toNat n.toNat)) (w.alloc (.cells ((Array.range n.toNat).map fun _=>z) el (0,0))):=by
    have nr:¬(140737488355328 < n.toNat * bw):=by omega
    simp only [execOp,cX e1,cX e2]
    have he:∀ f:Nat→Value,(Array.range 0).map f=#[]:=fun f=>by apply Array.ext<;>simp
    by_cases hz0:n.toNat=0
    · simp [Instr.makeSlice,run_underlying hu.ok,sizeOf,typeInfo,hi1,hi3,hi4,newRow,asInt,asIntOf,hwr,n2,Int.not_lt.2 h0,askRoom,roomBytes,nr,hz0,he]
    · simp [Instr.makeSlice,run_underlying hu.ok,sizeOf,typeInfo,hi1,hi3,hi4,newRow,asInt,asIntOf,hwr,n2,Int.not_lt.2 h0,askRoom,roomBytes,nr,hz0,zeroValue,hi2,hz,Nat.mod_one]
  unfold Oper.wp
  rw [hrun,Oper.upon_value]
  exact ⟨(Below.refl _ _).alloc (Nat.le_refl _) _,_,_,_,hk,h1.put (some d) (.sl (t:=n.toNat) (c:=n.toNat) aG (Nat.le_refl _) ax hnm hb)⟩
theorem pt {d:Tmp} {t el:TypeId} {x y:Operand} {n:Int} {z:Value} {bw:Nat} {ty:TypeId} {pos:String} {bC:Array Edge} {g:Option (Nat×Bool)} {s:St} {K:St→Prop}
    [hu:cJ P t (.slice el)] [hi:dm P el z 1 bw] (hx:s.eval x= .int n) (hy:s.eval y= .int n) (h0:0≤n) (hb:n.toNat * bw≤140737488355328) (hw:0 < bw) (hz:z.cells=#[z]) (id:Nat) (hf:s.free id=true)
    (hk:K ⟨s.fr.set d (.sl 1 bw id 0 n.toNat),cK s.hp id ⟨el,List.replicate n.toNat (.v z),true⟩⟩) :
    eR P ⟨some d,.makeSlice t x y,ty,pos,bC,g⟩ s K:=mj (fJ hx hy h0 hb hw hz id hf hk)
theorem Ff {G:bE} {β:cM} {sz bw l h:Nat} {es:List AV} {A:Option Addr} {c:Nat} (hc:Conc G β (.cr sz bw es) (.slice A es.length c)) (h1:l≤h) (h2:h≤es.length) :
    Conc G β (.cr sz bw ((es.take h).drop l)) (.slice (if c=l then A else A.map (·.add (l * sz))) (h - l) (c - l)):=by
  cases hc with
  |cr ys hu hl hcc hb hA hr hs=>
    have hlen:((es.take h).drop l).length=h - l:=by simp;omega
    have hu':∀ e∈(es.take h).drop l,e.cells.length=sz:=fun e he=>hu e (List.mem_of_mem_take (List.mem_of_mem_drop he))
    have gi:∀ (j:Nat) x,(((es.take h).drop l).flatMap AV.cells)[j]?=some x→(es.flatMap AV.cells)[l * sz+j]?=some x:=by
      intro j x hx
      have e1:es=es.take l++((es.take h).drop l++es.drop h):=by
        have a1:es.take l=(es.take h).take l:=by rw [List.take_take,Nat.min_eq_left h1]
        rw [a1,← List.append_assoc,List.take_append_drop,List.take_append_drop]
      have hl1:((es.take l).flatMap AV.cells).length=l * sz:=by
        rw [jb (fun e he=>hu e (List.mem_of_mem_take he)),List.length_take,Nat.min_eq_left aj]
      rw [e1,List.flatMap_append,List.flatMap_append,List.getElem?_append_right aj,hl1,Nat.add_sub_cancel_left,List.getElem?_append_left (bS hx)]
      exact hx
    have key:=Conc.cr (G:=G) (β:=β) (sz:=sz) (bw:=bw) (es:=(es.take h).drop l) (A:=if c=l then A else A.map (·.add (l * sz))) (c:=c - l) ((ys.drop (l * sz)).take ((h - l) * sz)) hu'
      (by rw [hlen];simp only [List.length_take,List.length_drop,hl]
          have:(h - l) * sz+l * sz≤es.length * sz:=by rw [← Nat.add_mul];exact Nat.mul_le_mul_right _ aj
          omega)
      (by rw [hlen];omega) (by rw [hlen];exact Nat.le_trans (Nat.mul_le_mul_right _ aj) hb)
      (fun h0=>by
        rw [hlen] at h0
        have hne:=hA aj
        split
        · exact hne
        · cases A with
          |none=>exact absurd rfl hne
          |some a=>simp)
      (fun j y hy=>by
        have hjl:j < (h - l) * sz:=by have:=bS hy;simp at this;omega
        rw [List.getElem?_take,if_pos hjl,List.getElem?_drop] at hy
        obtain ⟨a,ha,hg⟩:=hr _ y hy
        have hcl:¬c=l:=by
          intro e;have:0 < h - l:=by rcases Nat.eq_zero_or_pos (h - l) with h0|h0;rw [h0] at hjl;omega;exact h0
          omega
        rw [if_neg hcl,ha]
        refine ⟨_,rfl,?_⟩
        have:(a.add (l * sz)).add j=a.add (l * sz+j):=by
          unfold Addr.add
          by_cases e1:l * sz=0
          · simp [e1]
          · by_cases e2:j=0
            · simp [e1,e2]
            · simp [e1,e2,Nat.add_assoc]
        rw [this];exact hg)
      (fun j x y hx hy=>by
        have hjl:j < (h - l) * sz:=by have:=bS hy;simp at this;omega
        rw [List.getElem?_take,if_pos hjl,List.getElem?_drop] at hy
        exact hs _ x y (gi j x hx) hy)
    rw [hlen] at key
    exact key
theorem kF {t el:TypeId} {z:Value} {sz b:Nat} (hu:cJ P t (.slice el)) (hi:dm P el z sz b) (A:Option Addr) (len c:Nat) (lo hi':Option Int) (w:World)
    (h1:0≤lo.getD 0) (h2:lo.getD 0≤hi'.getD len) (h3:hi'.getD len≤c) :
    (Instr.sliceAt t (.slice A len c) (lo.map (.int .i64)) (hi'.map (.int .i64)) none).run P w= .ok (.slice (if c=(lo.getD 0).toNat then A else A.map (·.add ((lo.getD 0).toNat * sz))) ((hi'.getD len).toNat - (lo.getD 0).toNat) (c - (lo.getD 0).toNat)) w:=by
  cases lo with
  |none=>
    cases hi' with
    |none=>simp [Instr.sliceAt,Instr.slice,run_underlying hu.ok,Instr.sliceBounds,dV hi]
    |some m=>
      simp only [Option.getD_none,Option.getD_some] at h1 h2 h3
      simp [Instr.sliceAt,Instr.slice,run_underlying hu.ok,Instr.sliceBounds,Instr.sliceBound,dV hi,asIntOf,h2,h3]
  |some l=>
    cases hi' with
    |none=>
      simp only [Option.getD_none,Option.getD_some] at h1 h2 h3
      simp [Instr.sliceAt,Instr.slice,run_underlying hu.ok,Instr.sliceBounds,Instr.sliceBound,dV hi,asIntOf,h1,h2]
    |some m=>
      simp only [Option.getD_some] at h1 h2 h3
      have h0:0≤m:=Int.le_trans h1 h2
      have hl:max m 0=m:=Int.max_eq_left h0
      have hnl:¬m < l:=by omega
      simp [Instr.sliceAt,Instr.slice,run_underlying hu.ok,Instr.sliceBounds,Instr.sliceBound,dV hi,asIntOf,h1,h3,hl,h0,h2,hnl]
theorem rZ {s:St} {t el:TypeId} {x:Operand} {lo hi:Option Operand} {L H:Option Int} {z:Value} {sz bw b:Nat} {es:List AV} [hu:cJ P t (.slice el)] [hT:dm P el z sz b]
    (hx:s.eval x= .cr sz bw es) (hlo:lo.map s.eval=L.map AV.int) (hhi:hi.map s.eval=H.map AV.int) (h1:0≤L.getD 0) (h2:L.getD 0≤H.getD es.length) (h3:H.getD es.length≤es.length) :
    PV P (.slice t x lo hi none) s (.cr sz bw ((es.take (H.getD es.length).toNat).drop (L.getD 0).toNat)):=
  dv fun R β G a w hr=>by
    have e1:=hr.eval x;rw [hx] at e1
    have key:∀ (o:Option Operand) (X:Option Int),o.map s.eval=X.map AV.int→o.map a.eval=X.map (Value.int .i64):=by
      intro o X h
      cases o with
      |none=>cases X with
        |none=>rfl
        |some _=>simp at h
      |some o=>cases X with
        |none=>simp at h
        |some n=>
          simp only [Option.map_some,Option.some.injEq] at h ⊢
          have:=hr.eval o;rw [h] at this;exact cX this
    generalize hxv:a.eval x=vx at e1
    have e1':=e1
    cases e1' with
    |@cr _ _ _ _ A c ys hu' hl hc hb hA hrd hs=>
      have hcut:=Ff (l:=(L.getD 0).toNat) (h:=(H.getD es.length).toNat) e1 aj aj
      refine ⟨_,hcut,fun w' d ty pos bC g=>?_⟩
      have:=kF (P:=P) hu hT A es.length c L H w' h1 h2 aj
      simp only [execOp,hxv,key lo L hlo,key hi H hhi,Option.map_none,Sem.run_bind,this,Result.andThen_ok,Sem.run_pure]
theorem AM {s:St} {t el:TypeId} {x l:Operand} {n:Int} {z:Value} {sz bw b:Nat} {es:List AV} [hu:cJ P t (.slice el)] [hT:dm P el z sz b]
    (hx:s.eval x= .cr sz bw es) (hl:s.eval l= .int n) (h1:0≤n) (h2:n≤es.length):PV P (.slice t x (some l) none none) s (.cr sz bw (es.drop n.toNat)):=by
  have:=rZ (P:=P) (t:=t) (b:=b) (lo:=some l) (hi:=none) (L:=some n) (H:=none) hx (by simp [hl]) ax (by simpa using h1) (by simpa using h2) ax
  simpa using this
theorem AN {s:St} {t el:TypeId} {x l:Operand} {n:Int} {z:Value} {sz bw b:Nat} {es:List AV} [hu:cJ P t (.slice el)] [hT:dm P el z sz b]
    (hx:s.eval x= .cr sz bw es) (hl:s.eval l= .int n) (h1:0≤n) (h2:n≤es.length):PV P (.slice t x none (some l) none) s (.cr sz bw (es.take n.toNat)):=by
  have:=rZ (P:=P) (t:=t) (b:=b) (lo:=none) (hi:=some l) (L:=none) (H:=some n) hx ax (by simp [hl]) ax (by simpa using h1) (by simpa using h2)
  simpa using this
theorem Dq {s:St} {t el:TypeId} {x l h:Operand} {n m:Int} {z:Value} {sz bw b:Nat} {es:List AV} [hu:cJ P t (.slice el)] [hT:dm P el z sz b]
    (hx:s.eval x= .cr sz bw es) (hl:s.eval l= .int n) (hh:s.eval h= .int m) (h1:0≤n) (h2:n≤m) (h3:m≤es.length):PV P (.slice t x (some l) (some h) none) s (.cr sz bw ((es.take m.toNat).drop n.toNat)):=by
  have:=rZ (P:=P) (t:=t) (b:=b) (lo:=some l) (hi:=some h) (L:=some n) (H:=some m) hx (by simp [hl]) (by simp [hh]) (by simpa using h1) (by simpa using h2) (by simpa using h3)
  simpa using this
end Go.Ab
namespace Go.Ab
theorem iS {id:Nat} {l:List AV} (h:AV.cj l=true):AV.bz id l=false:=by
  have h2:=kE (id:=id) h
  induction l with
  |nil=>rfl
  |cons x r ih=>
    simp only [AV.cj,Bool.and_eq_true] at h
    simp only [AV.ct,List.cons.injEq] at h2
    simp only [AV.bz,ih h.2 h2.2,Bool.or_false]
    cases hm:AV.cv id x with
    |false=>rfl
    |true=>
      have:=h2.1
      unfold AV.dJ at this
      rw [if_pos hm] at this
      subst this
      simp [AV.cv] at hm
theorem wm {α:Type} (id:Nat) (f:α→AV) (xs:List α) (h:∀ a,(f a).fm=true):AV.bz id (xs.map f)=false:=iS (dK f xs h)
@[simp] theorem nf (id:Nat) (xs:List Int):AV.bz id (xs.map AV.int)=false:=wm id _ xs (fun _=>rfl)
@[simp] theorem lu (id:Nat) (xs:List Bool):AV.bz id (xs.map AV.bool)=false:=wm id _ xs (fun _=>rfl)
@[simp] theorem ka (id:Nat) (a b:List AV):AV.bz id (a++b)=(AV.bz id a|| AV.bz id b):=by
  induction a with
  |nil=>rfl
  |cons x r ih=>simp [AV.bz,ih,Bool.or_assoc]
@[simp] theorem iJ (id n:Nat) (x:Value):AV.bz id (List.replicate n (.v x))=false:=by
  induction n with
  |zero=>rfl
  |succ n ih=>simp [List.replicate_succ,AV.bz,AV.cv,ih]
theorem fK {α:Type} (f:α→List AV) (xs:List α) (h:∀ a,AV.cj (f a)=true):AV.cj (xs.flatMap f)=true:=by
  induction xs with
  |nil=>rfl
  |cons x l ih=>simp [nZ,ih,h x]
theorem eU {α:Type} (id:Nat) (f:α→List AV) (xs:List α) (h:∀ a,AV.cj (f a)=true):AV.bz id (xs.flatMap f)=false:=iS (fK f xs h)
theorem gY {α:Type} (id:Nat) (f:α→List AV) (xs:List α) (h:∀ a,AV.cj (f a)=true):AV.ct id (xs.flatMap f)=xs.flatMap f:=kE (fK f xs h)
theorem qA {s:St} {i:Nat} (h:s.free i=true):∀ id∈[i],s.free id=true:=by
  intro id hid;simp only [List.mem_singleton] at hid;subst hid;exact h
end Go.Ab
namespace Go.Ab
variable {P:Program}
theorem fD {o:Oper} {s s':St} {K:St→Prop} (hle:Le s s') (h:eR P o s' K):eR P o s K:=
  fun R β G a w Q hr=>let ⟨β',G',hr'⟩:=hle R β G a w hr;h R β' G' a w Q hr'
end Go.Ab
namespace Go.Ab
end Go.Ab
namespace Go.Ab
open Go.RowKit
variable {P:Program}
theorem yD {α β:Type} {g:α→Option β}:∀ {l:List α} {ys:List β},l.mapM g=some ys→∀ {j:Nat} {y:β},ys[j]?=some y→∃ x,l[j]?=some x∧g x=some y
  |[],ys,h,j,y,hy=>by simp at h;subst h;simp at hy
  |x::l,ys,h,j,y,hy=>by
    rw [List.mapM_cons] at h
    cases hg:g x with
    |none=>rw [hg] at h;simp at h
    |some y0=>
      cases hm:l.mapM g with
      |none=>rw [hg,hm] at h;simp at h
      |some ys0=>
        rw [hg,hm] at h
        simp at h
        subst h
        cases j with
        |zero=>simp at hy;subst hy;exact ⟨x,rfl,hg⟩
        |succ j=>simpa using yD hm (by simpa using hy)
theorem Iu {t:TypeId} {pl:List (Nat×Nat)} (h:mf P t pl) {f off n:Nat} (hf:pl[f]?=some (off,n)):∃ (fs:Array Field) (fl:Field) (z:Option Value) (b:Nat),P.underlying t=some (.struct fs)∧fs[f]?=some fl∧fl.offset=off∧∃ i,P.info? fl.type=some i∧i.size=n:=by
  obtain ⟨fs,h1,h2⟩:=h.ok
  obtain ⟨fl,h3,h4⟩:=yD h2 hf
  cases hi:P.info? fl.type with
  |none=>rw [hi] at h4;simp at h4
  |some i=>
    rw [hi] at h4
    simp at h4
    exact ⟨fs,fl,none,0,h1,by simpa using h3,h4.1,i,hi,h4.2⟩
theorem qB {t:TypeId} {pl:List (Nat×Nat)} (h:mf P t pl) {f off n:Nat} (hf:pl[f]?=some (off,n)) (hn:n≠0)
    (ad:Addr) (w:World):(Instr.fieldAt t (.pointer (some ad)) f).run P w= .ok (.pointer (some (ad.add off))) w:=by
  obtain ⟨fs,fl,_,_,h1,h2,h3,i,h4,h5⟩:=Iu h hf
  subst h3
  simp [Instr.fieldAt,run_underlying h1,h2,Instr.sureAddr,fieldPlace,sizeOf,typeInfo,h4,h5,hn]
theorem bl {s:St} {x:Operand} {t:TypeId} {pl:List (Nat×Nat)} {f o n id off:Nat} [hF:mf P t pl] (hx:s.eval x= .ptr id off)
    (hf:pl[f]?=some (o,n)) (hn:n≠0):PV P (.fieldAddr t x f) s (.ptr id (off+o)):=
  dv fun _ _ _ a _ h=>by
    have h1:=h.eval x;rw [hx] at h1
    generalize he:a.eval x=y at h1
    cases h1 with
    |ptr hb=>exact ⟨_,.ptr hb,fun w' _ _ _ _ _=>by simp [execOp,he,qB hF hf hn,Addr.eV]⟩
theorem bm {s:St} {x:Operand} {t:TypeId} {pl:List (Nat×Nat)} {f o n:Nat} {cs:List AV} [hF:mf P t pl] (hx:s.eval x= .bx cs)
    (hf:pl[f]?=some (o,n)) (hn:n≠0):PV P (.fieldAddr t x f) s (.bx (cs.drop o)):=
  dv fun _ _ _ a _ h=>by
    have h1:=h.eval x;rw [hx] at h1
    generalize he:a.eval x=y at h1
    cases h1 with
    |bx ys hl hr hs=>exact ⟨_,n5 (.bx ys hl hr hs) _,fun w' _ _ _ _ _=>by simp [execOp,he,qB hF hf hn]⟩
end Go.Ab
namespace Go.Ab
variable {P:Program}
theorem r8 {c:Code} {s:St} {Q:Exit→St→Prop} {id j sz bw:Nat} {bk:fZ} {es:List AV} (hb:aW s.hp id=some bk) (hx:bk.cs[j]?=some (.cr sz bw es)) (h:es.length * bw≤140737488355328→AW P c s Q):AW P c s Q:=by
  intro ro ho R β G a w hr
  have h0:=hr.hp.blk id bk hb
  unfold bW at h0
  cases hβ:β id with
  |no=>rw [hβ] at h0;exact h0.elim
  |nil=>rw [hβ] at h0;rw [h0.1] at hx;simp at hx
  |gh o=>
    rw [hβ] at h0
    obtain ⟨outs,g5,g7,_⟩:=sM.view h0
    have hj:j < outs.length:=by have:=bS hx;omega
    have hc:=g7 j _ _ hx (List.getElem?_eq_getElem hj)
    generalize outs[j]=y at hc
    cases hc with
    |cr ys hu hl hcc hbb hA hrd hs=>exact h hbb ro ho R β G a w hr
  |«at» b t=>
    rw [hβ] at h0
    obtain ⟨_,_,arr,_,g4,g5,_,g7⟩:=h0
    have hj:j < arr.size:=by have:=bS hx;omega
    have hc:=g7 j _ _ hx (Array.getElem?_eq_getElem hj)
    generalize arr[j]=y at hc
    cases hc with
    |cr ys hu hl hcc hbb hA hrd hs=>exact h hbb ro ho R β G a w hr
end Go.Ab
namespace Go.Ab
theorem n1:type_of% @List.set_cons_zero:=@List.set_cons_zero
theorem n2:type_of% @List.set_cons_succ:=@List.set_cons_succ
theorem n3:type_of% @List.getD_cons_zero:=@List.getD_cons_zero
end Go.Ab
namespace Go.Ab
open Go.RowKit
variable {P:Program}
mutual
def AV.n9 (m:Nat):AV→AV
  | .ptr i o=>.ptr (i+m) o
  | .sl a b i o n=>.sl a b (i+m) o n
  | .yl i y=>.yl (i+m) y
  | .agg cs=>.agg (AV.lT m cs)
  | .dr cs=>.dr (AV.lT m cs)
  | .fn f cs=>.fn f (AV.lT m cs)
  | .any=>.any
  | .v x=>.v x
  | .cr a b es=>.cr a b es
  | .bx cs=>.bx cs
def AV.lT (m:Nat):List AV→List AV
  |[]=>[]
  |x::r=>AV.n9 m x::AV.lT m r
end
def lA (m:Nat):Hp→Hp
  |[]=>[]
  |(i,b)::r=>(i+m,{b with cs:=AV.lT m b.cs})::lA m r
def AO (m:Nat) (β:cM):cM:=fun j=>if m≤j then β (j - m) else .no
theorem kG (m:Nat) (β:cM) (i:Nat):AO m β (i+m)=β i:=by simp [AO]
theorem ml (m:Nat):∀ (l:List AV) (i:Nat),(AV.lT m l)[i]?=l[i]?.map (AV.n9 m)
  |[],i=>by simp [AV.lT]
  |x::l,0=>by simp [AV.lT]
  |x::l,i+1=>by simp [AV.lT,ml m l i]
theorem mm (m:Nat) (l:List AV):(AV.lT m l).length=l.length:=by
  induction l with
  |nil=>rfl
  |cons x l ih=>simp [AV.lT,ih]
theorem Iv {m:Nat} {x:AV} (h:x.fm=true):AV.n9 m x=x:=by
  induction x using AV.rec (motive_2:=fun cs=>AV.cj cs=true→AV.lT m cs=cs) with
  |agg cs ih=>simp only [AV.fm] at h;simp only [AV.n9,ih h]
  |dr cs ih=>simp only [AV.fm] at h;simp only [AV.n9,ih h]
  |fn f cs ih=>simp only [AV.fm] at h;simp only [AV.n9,ih h]
  |ptr=>simp [AV.fm] at h
  |sl=>simp [AV.fm] at h
  |yl=>simp [AV.fm] at h
  |nil=>rfl
  |cons x r h1 h2=>rename_i h;simp only [AV.cj,Bool.and_eq_true] at h;simp only [AV.lT,h1 h.1,h2 h.2]
  |_=>rfl
theorem Fg {m:Nat} {l:List AV} (h:AV.cj l=true):AV.lT m l=l:=by
  induction l with
  |nil=>rfl
  |cons x l ih=>simp only [AV.cj,Bool.and_eq_true] at h;simp only [AV.lT,Iv h.1,ih h.2]
theorem Conc.n9 {G:bE} {β:cM} {x:AV} {y:Value} (h:Conc G β x y) (m:Nat):Conc G (AO m β) (x.n9 m) y:=by
  induction h with
  |any=>exact .any
  |v=>exact .v
  |agg xs hl _ ih=>
    refine .agg xs (by rw [mm];exact hl) (fun j x y hx hy=>?_)
    rw [ml,Option.map_eq_some_iff] at hx
    obtain ⟨x0,hx0,rfl⟩:=hx
    exact ih j x0 y hx0 hy
  |dr xs hl _ ih=>
    refine .dr xs (by rw [mm];exact hl) (fun j x y hx hy=>?_)
    rw [ml,Option.map_eq_some_iff] at hx
    obtain ⟨x0,hx0,rfl⟩:=hx
    exact ih j x0 y hx0 hy
  |fn xs hf hl _ ih=>
    refine .fn xs hf (by rw [mm];exact hl) (fun j x y hx hy=>?_)
    rw [ml,Option.map_eq_some_iff] at hx
    obtain ⟨x0,hx0,rfl⟩:=hx
    exact ih j x0 y hx0 hy
  |qC _ ih=>simp only [AV.n9,AV.lT];exact .qC ih
  |ptr h=>exact .ptr (by rw [kG];exact h)
  |j5 h=>exact .j5 (by rw [kG];exact h)
  |yl h=>exact .yl (by rw [kG];exact h)
  |sl h hn ht hm hb=>exact .sl (by rw [kG];exact h) hn ht hm hb
  |cr ys hu hl hc hb hA hr hs _=>exact .cr ys hu hl hc hb hA hr hs
  |bx ys hl hr hs _=>exact .bx ys hl hr hs
theorem ue {m id:Nat} {x:AV}:AV.cv id (x.n9 m)=(decide (m≤id)&&AV.cv (id - m) x):=by
  induction x using AV.rec (motive_2:=fun cs=>AV.bz id (AV.lT m cs)=(decide (m≤id)&&AV.bz (id - m) cs)) with
  |agg cs ih=>simpa only [AV.n9,AV.cv] using ih
  |dr cs ih=>simpa only [AV.n9,AV.cv] using ih
  |fn f cs ih=>simpa only [AV.n9,AV.cv] using ih
  |ptr i o=>
    simp only [AV.n9,AV.cv]
    by_cases h:m≤id
    · simp only [h,decide_true,Bool.true_and]
      by_cases h2:i=id - m
      · have:i+m=id:=by omega
        rw [beq_iff_eq.2 this,beq_iff_eq.2 h2]
      · have:¬i+m=id:=by omega
        rw [beq_eq_false_iff_ne.2 this,beq_eq_false_iff_ne.2 h2]
    · have:¬i+m=id:=by omega
      simp [h,this]
  |yl i y=>
    simp only [AV.n9,AV.cv]
    by_cases h:m≤id
    · simp only [h,decide_true,Bool.true_and]
      by_cases h2:i=id - m
      · have:i+m=id:=by omega
        rw [beq_iff_eq.2 this,beq_iff_eq.2 h2]
      · have:¬i+m=id:=by omega
        rw [beq_eq_false_iff_ne.2 this,beq_eq_false_iff_ne.2 h2]
    · have:¬i+m=id:=by omega
      simp [h,this]
  |sl a b i o n=>
    simp only [AV.n9,AV.cv]
    by_cases h:m≤id
    · simp only [h,decide_true,Bool.true_and]
      by_cases h2:i=id - m
      · have:i+m=id:=by omega
        rw [beq_iff_eq.2 this,beq_iff_eq.2 h2]
      · have:¬i+m=id:=by omega
        rw [beq_eq_false_iff_ne.2 this,beq_eq_false_iff_ne.2 h2]
    · have:¬i+m=id:=by omega
      simp [h,this]
  |nil=>simp [AV.lT,AV.bz]
  |cons x r h1 h2=>simp only [AV.lT,AV.bz,h1,h2,Bool.and_or_distrib_left]
  |any=>simp [AV.n9,AV.cv]
  |v=>simp [AV.n9,AV.cv]
  |cr=>simp [AV.n9,AV.cv]
  |bx=>simp [AV.n9,AV.cv]
theorem Dr {m id:Nat} {cs:List AV}:AV.bz id (AV.lT m cs)=(decide (m≤id)&&AV.bz (id - m) cs):=by
  have:=ue (m:=m) (id:=id) (x:=.agg cs)
  simpa only [AV.n9,AV.cv] using this
theorem pO {m id:Nat}:∀ {hp:Hp},cI id (lA m hp)=(decide (m≤id)&&cI (id - m) hp)
  |[]=>by simp [lA,cI]
  |(i,b)::r=>by
    have h:=pO (m:=m) (id:=id) (hp:=r)
    simp only [lA,cI,Dr,h]
    by_cases hm:m≤id
    · simp only [hm,decide_true,Bool.true_and]
      by_cases h2:i=id - m
      · have:i+m=id:=by omega
        rw [beq_iff_eq.2 this,beq_iff_eq.2 h2]
      · have:¬i+m=id:=by omega
        rw [beq_eq_false_iff_ne.2 this,beq_eq_false_iff_ne.2 h2]
    · have:¬i+m=id:=by omega
      simp [hm,this]
theorem mn {m:Nat}:∀ {hp:Hp} {j:Nat} {bk:fZ},aW (lA m hp) j=some bk→∃ i bk0,j=i+m∧aW hp i=some bk0∧bk={bk0 with cs:=AV.lT m bk0.cs}
  |[],j,bk,h=>by simp [lA,aW] at h
  |(i,b)::r,j,bk,h=>by
    simp only [lA,aW] at h
    split at h
    · rename_i e;injection h with h;exact ⟨i,b,e.symm,by simp [aW],h.symm⟩
    · obtain ⟨i',bk0,h1,h2,h3⟩:=mn h
      refine ⟨i',bk0,h1,?_,h3⟩
      simp only [aW]
      rw [if_neg aj];exact h2
theorem c9.n9 {R:Rg} {β:cM} {G:bE} {hp:Hp} {w:World} (h:c9 R β G hp w) (m:Nat) (hno:∀ id,R.out id=none) (hidr:Iw (AO m β)):c9 R (AO m β) G (lA m hp) w:=by
  refine ⟨h.gs,fun id bk hi=>?_,fun i j b t t' hi hj hbi hbj=>?_,h.keeps,h.js,hidr,fun i j b y y' h1 h2 hi hj hbi hbj=>?_⟩
  rotate_right
  · obtain ⟨bi,hi0⟩:=Option.isSome_iff_exists.1 hi
    obtain ⟨bj,hj0⟩:=Option.isSome_iff_exists.1 hj
    obtain ⟨i0,c1,rfl,k1,_⟩:=mn hi0
    obtain ⟨j0,c2,rfl,k2,_⟩:=mn hj0
    rw [kG] at hbi hbj
    have hbig:∀ i c b y,aW hp i=some c→β i= .gh (some (b,y))→2000000000≤i:=fun i c b y hc hb=>by
      have:=h.blk i c hc
      unfold bW at this
      rw [hb] at this
      rcases this with ⟨_,h0,_⟩|⟨_,_,_,_,⟨_,_,h9⟩,_⟩
      · rw [hno] at h0;cases h0
      · exact h9
    rw [h.ga i0 j0 b y y' (hbig _ _ _ _ k1 hbi) (hbig _ _ _ _ k2 hbj) (by rw [k1];rfl) (by rw [k2];rfl) hbi hbj]
  · obtain ⟨i,bk0,rfl,hi0,rfl⟩:=mn hi
    have:=h.blk i bk0 hi0
    unfold bW at this ⊢
    rw [kG]
    cases hβ:β i with
    |no=>rw [hβ] at this;exact this
    |nil=>rw [hβ] at this;exact ⟨by rw [this.1];rfl,this.2⟩
    |gh o=>
      rw [hβ] at this
      rcases this with ⟨_,h0,_⟩|⟨b,es,clock,e0,e1,e2,e3,e4,e5⟩
      · rw [hno] at h0;cases h0
      · refine .inr ⟨b,es,clock,e0,⟨e1.1,e1.2.1,Nat.le_trans e1.2.2 (Nat.le_add_right _ _)⟩,e2,e3,by rw [mm];exact e4,fun j x y hx hy=>?_⟩
        rw [ml,Option.map_eq_some_iff] at hx
        obtain ⟨x0,hx0,rfl⟩:=hx
        exact (e5 j x0 y hx0 hy).n9 m
    |«at» b t=>
      rw [hβ] at this
      obtain ⟨g1,g2,arr',g3,g4,g5,g6,g7⟩:=this
      refine ⟨g1,g2,arr',g3,g4,by rw [mm];exact g5,by rw [mm];exact g6,fun j x y hx hy=>?_⟩
      rw [ml,Option.map_eq_some_iff] at hx
      obtain ⟨x0,hx0,rfl⟩:=hx
      exact (g7 j x0 y hx0 hy).n9 m
  · obtain ⟨bi,hbi0⟩:=Option.isSome_iff_exists.1 hi
    obtain ⟨bj,hbj0⟩:=Option.isSome_iff_exists.1 hj
    obtain ⟨i0,b0,rfl,k1,_⟩:=mn hbi0
    obtain ⟨j0,b1,rfl,k2,_⟩:=mn hbj0
    rw [kG] at hbi hbj
    rw [h.inj i0 j0 b t t' (by rw [k1];rfl) (by rw [k2];rfl) hbi hbj]
def jc (ids:List Nat) (β:cM):cM:=fun i=>if i∈ids then β i else .no
theorem nh {G:bE} {β:cM} {x:AV} {y:Value} {ids:List Nat} (h:Conc G β x y) (hm:∀ id,AV.cv id x=true→id∈ids):Conc G (jc ids β) x y:=
  h.ext (fun id h=>by simp only [jc,hm id h,if_true]) fun _ _ h=>h
theorem c9.jc {R:Rg} {β:cM} {G:bE} {hp:Hp} {w:World} {ids:List Nat} (h:c9 R β G hp w) (hm:∀ id,cI id hp=true→id∈ids) (hno:∀ id,R.out id=none):c9 R (jc ids β) G hp w:=by
  refine ⟨h.gs,fun i bk hi=>?_,fun i j b t t' hi hj hbi hbj=>?_,h.keeps,h.js,fun i hi=>?_,h.ga.ext fun i _ hi=>⟨hi,by
    obtain ⟨c,hc⟩:=Option.isSome_iff_exists.1 hi
    simp only [Ab.jc,hm i (dU hc),if_true]⟩⟩
  · have:=h.blk i bk hi
    unfold bW at this ⊢
    simp only [Ab.jc,hm i (dU hi),if_true]
    cases hβ:β i with
    |no=>rw [hβ] at this;exact this
    |nil=>rw [hβ] at this;exact this
    |gh o=>
      rw [hβ] at this
      rcases this with ⟨_,h0,_⟩|⟨b,es,clock,e0,e1,e2,e3,e4,e5⟩
      · rw [hno] at h0;cases h0
      · exact .inr ⟨b,es,clock,e0,e1,e2,e3,e4,fun j x y hx hy=>nh (e5 j x y hx hy) fun id hid=>hm id (fu hi (ig hx hid))⟩
    |«at» b t=>
      rw [hβ] at this
      obtain ⟨g1,g2,arr',g3,g4,g5,g6,g7⟩:=this
      exact ⟨g1,g2,arr',g3,g4,g5,g6,fun j x y hx hy=>nh (g7 j x y hx hy) fun id hid=>hm id (fu hi (ig hx hid))⟩
  · simp only [Ab.jc] at hbi hbj
    split at hbi
    · split at hbj
      · exact h.inj i j b t t' hi hj hbi hbj
      · cases hbj
    · cases hbi
  · simp only [Ab.jc] at hi
    split at hi
    · exact h.jv i hi
    · rcases hi with hi|⟨_,_,hi⟩<;>cases hi
theorem dn.n9 {f:FuncId} {args:List AV} {ids:List Nat} {Q:AV→Hp→Prop} (h:dn P f args ids Q) (m:Nat) {Q':AV→Hp→Prop} (hQ:∀ x hp,Q x hp→Q' (x.n9 m) (lA m hp)) :
    dn P f args (ids.map (· +m)) Q':=by
  intro hle G w vals h1 h2
  have hle':∀ id∈ids,id+m≤999999999:=fun id hid=>hle _ (List.mem_map.2 ⟨id,hid,rfl⟩)
  refine (h (fun id hid=>by have:=hle' id hid;omega) G w vals h1 h2).mono fun e w' ⟨y,G',β',x,hp,he,hq,hwi,hcx,hrh⟩=>?_
  have hin:∀ id,AV.cv id x=true∨cI id hp=true→id∈ids:=fun id hm=>by
    by_cases hi:id∈ids
    · exact hi
    · have:=hwi id hi;rcases hm with hm|hm
      · rw [this.1] at hm;cases hm
      · rw [this.2] at hm;cases hm
  have hcx:=nh hcx fun id h=>hin id (.inl h)
  have hrh:=hrh.jc (fun id h=>hin id (.inr h)) fun _=>rfl
  refine ⟨y,G',AO m (jc ids β'),x.n9 m,lA m hp,he,hQ x hp hq,fun id hid=>?_,hcx.n9 m,hrh.n9 m (fun _=>rfl) fun i hi=>?_⟩
  · by_cases hm:m≤id
    · have hni:id - m ∉ ids:=fun hi=>hid (List.mem_map.2 ⟨id - m,hi,by omega⟩)
      have:=hwi (id - m) hni
      rw [ue,pO,this.1,this.2];simp
    · rw [ue,pO];simp [hm]
  · simp only [AO] at hi
    split at hi
    · simp only [jc] at hi
      split at hi
      · rename_i h1 h2;have:=hle' _ h2;omega
      · rcases hi with hi|⟨_,_,hi⟩<;>cases hi
    · rcases hi with hi|⟨_,_,hi⟩<;>cases hi
end Go.Ab
namespace Go.Ab
variable {P:Program}
theorem kH:∀ l:List AV,mq l l
  |[]=>.nil
  |_::l=>.keep (kH l)
theorem Ix {rs:Array ResultVar} {ids:List Nat} {Q:AV→Hp→Prop} {e:Exit} {s s':St} (hle:Le s s') (h:ft P rs ids Q e s'):ft P rs ids Q e s:=by
  cases e with
  |normal=>obtain ⟨s2,x,h1,h2⟩:=h;exact ⟨s2,x,hle.trans h1,h2⟩
  |ret=>obtain ⟨s2,x,h1,h2⟩:=h;exact ⟨s2,x,hle.trans h1,h2⟩
  |_=>exact h
theorem Cc {rs:Array ResultVar} {Q:AV→Hp→Prop} {e:Exit} {fr:List AV} {hp:Hp} {i id sz bw n:Nat} {T:TypeId} {cs:List AV} {full:Bool} (hrs:rs=#[.tmp i]) (hx:fr[i]?=some (.sl sz bw id 0 n))
    (hb:aW hp id=some ⟨T,cs,full⟩) (hpu:AV.cj cs=true) (hQ:Q (.sl sz bw id 0 n) [(id,⟨T,cs,full⟩)]) (he:e= .ret∨e= .normal:=by first|exact .inl rfl|exact .inr rfl):ft P rs [id] Q e ⟨fr,hp⟩:=by
  have hh:gi hp [(id,⟨T,cs,full⟩)]:=by
    intro k b hk
    simp only [aW] at hk
    split at hk
    · rename_i e;subst e;rw [← hk];exact hb
    · cases hk
  have key:∃ s' x,Le ⟨fr,hp⟩ s'∧RV P rs s' x∧fY [id] x s'.hp∧Q x s'.hp:=
    ⟨⟨fr,[(id,⟨T,cs,full⟩)]⟩,.sl sz bw id 0 n,dW (kH fr) hh,by subst hrs;exact aQ (aO hx),Dp hpu,hQ⟩
  rcases he with rfl|rfl<;>exact key
theorem Iy {f:List AV} {hp:Hp} (i sz bw:Nat) (hx:f[i]?=some .fS):Le ⟨f,hp⟩ ⟨f.set i (.cr sz bw []),hp⟩:=by
  intro R β G a w h
  refine ⟨β,G,h.defers,by simpa using h.size,fun j x y hj hy=>?_,h.hp⟩
  rw [List.getElem?_set] at hj
  by_cases hij:i=j
  · subst hij
    simp only [if_true] at hj
    split at hj<;>simp at hj
    subst hj
    have:=eF (h.fr i _ y hx hy)
    exact this ▸ .cr (es:=[]) (c:=0) [] ax ax ax ax ax ax ax
  · simp only [hij,if_false] at hj
    exact h.fr j x y hj hy
end Go.Ab
namespace Go.Ab
open Go.RowKit
variable {P:Program}
def AV.wo (id sz bw n:Nat) (es:List AV) (x:AV):AV:=
  match x with
  | .sl a b i o k=>if i=id then (if a=sz∧b=bw∧o=0∧k=n then .cr sz bw es else .any) else .sl a b i o k
  |x=>AV.dJ id x
def AV.eG (id sz bw n:Nat) (es:List AV):List AV→List AV
  |[]=>[]
  |x::r=>AV.wo id sz bw n es x::AV.eG id sz bw n es r
theorem er (id sz bw n:Nat) (es:List AV) (i o:Nat):AV.wo id sz bw n es (.ptr i o)=if i=id then .any else .ptr i o:=mr id i o
theorem eW (id sz bw n:Nat) (es:List AV) (a b i o k:Nat):AV.wo id sz bw n es (.sl a b i o k)=if i=id then (if a=sz∧b=bw∧o=0∧k=n then .cr sz bw es else .any) else .sl a b i o k:=rfl
theorem uf (id sz bw n:Nat) (es:List AV):∀ (l:List AV) (i:Nat),(AV.eG id sz bw n es l)[i]?=l[i]?.map (AV.wo id sz bw n es)
  |[],i=>by simp [AV.eG]
  |x::l,0=>by simp [AV.eG]
  |x::l,i+1=>by simp [AV.eG,uf id sz bw n es l i]
theorem AP (id sz bw n:Nat) (es:List AV) (l:List AV):(AV.eG id sz bw n es l).length=l.length:=by
  induction l with
  |nil=>rfl
  |cons x l ih=>simp [AV.eG,ih]
theorem yE (id sz bw n:Nat) (es:List AV) (x:AV):AV.wo id sz bw n es x=AV.dJ id x∨(x= .sl sz bw id 0 n∧AV.wo id sz bw n es x= .cr sz bw es):=by
  cases x with
  |sl a b i o k=>
    rw [eW,oa]
    by_cases hi:i=id
    · rw [if_pos hi,if_pos hi]
      by_cases hq:a=sz∧b=bw∧o=0∧k=n
      · rw [if_pos hq];obtain ⟨rfl,rfl,rfl,rfl⟩:=hq;subst hi;exact .inr ⟨rfl,rfl⟩
      · rw [if_neg hq];exact .inl rfl
    · rw [if_neg hi,if_neg hi];exact .inl rfl
  |_=>exact .inl rfl
theorem AQ {f:List AV} {hp:Hp} (id sz bw n:Nat) {bk:fZ} (es:List AV) (hb:aW hp id=some bk) (hes:es.flatMap AV.cells=bk.cs)
    (hu:∀ e∈es,e.cells.length=sz) (hn:es.length=n) (hp1:AV.cj bk.cs=true) (hsz:0 < sz):Le ⟨f,hp⟩ ⟨AV.eG id sz bw n es f,dZ id hp⟩:=by
  intro R β G a w h
  have h0:=h.hp.blk id bk hb
  unfold bW at h0
  have hoth:∀ j,j≠id→(β.set id .no) j=β j:=fun j hj=>by simp [cM.set,hj]
  have fin:∀ (G':bE),(∀ b o,G b=some o→G' b=some o)→(∀ b o,G' b=some o→w.heap[b]?=some o)→(∀ b,G' b≠none→R.g0 b≠none∨R.w0.heap.size≤b∨R.ex b)→
      (∀ j bk' b t,j≠id→aW hp j=some bk'→β j= .at b t→G' b=none)→(∀ y,Conc G β (.sl sz bw id 0 n) y→Conc G' lj (.cr sz bw es) y)→∃ β' G',eE R β' G' ⟨AV.eG id sz bw n es f,dZ id hp⟩ a w:=by
    intro G' hm hgs hdom hfree hc
    refine ⟨β.set id .no,G',h.defers.mono hm,by rw [AP];exact h.size,fun j x y hj hy=>?_,⟨hgs,fun j bk' hj=>?_,fun j k b t t' hj hk hbj hbk=>?_,h.hp.keeps,hdom,h.hp.jv.gone,h.hp.ga.dJ _⟩⟩
    · rw [uf,Option.map_eq_some_iff] at hj
      obtain ⟨x0,hx0,rfl⟩:=hj
      rcases yE id sz bw n es x0 with h1|⟨rfl,h1⟩
      · rw [h1];exact ((h.fr j x0 y hx0 hy).mono hm).jY hoth
      · rw [h1];exact (hc y (h.fr j _ y hx0 hy)).free _
    · rw [eH] at hj
      by_cases hid:id=j
      · simp [hid] at hj
      · simp only [hid,if_false,Option.map_eq_some_iff] at hj
        obtain ⟨bk1,hj1,rfl⟩:=hj
        have:=h.hp.blk j bk1 hj1
        unfold bW at this ⊢
        rw [hoth j (Ne.symm hid)]
        cases hβ:β j with
        |no=>rw [hβ] at this;exact this
        |nil=>rw [hβ] at this;exact ⟨by rw [this.1];rfl,this.2⟩
        |«at» b t=>
          rw [hβ] at this
          obtain ⟨g1,g2,arr,g3,g4,g5,g6,g7⟩:=this
          refine ⟨hfree j bk1 b t (Ne.symm hid) hj1 hβ,g2,arr,g3,g4,by simpa [da] using g5,by simpa [da] using g6,fun k x y hx hy=>?_⟩
          simp only [gZ,Option.map_eq_some_iff] at hx
          obtain ⟨x0,hx0,rfl⟩:=hx
          exact ((g7 k x0 y hx0 hy).mono hm).jY hoth
        |gh o=>rw [hβ] at this;exact oP this hm (AV.dJ id) (fun x _ y hc=>(hc.mono hm).jY hoth) _ (r9 _ _)
    · have key:∀ j b t,(β.set id .no) j= .at b t→j≠id:=fun j b t hb e=>by subst e;simp [cM.set] at hb
      have n1:=key j b t hbj
      have n2:=key k b t' hbk
      rw [hoth j n1] at hbj
      rw [hoth k n2] at hbk
      rw [eH,if_neg (Ne.symm n1)] at hj
      rw [eH,if_neg (Ne.symm n2)] at hk
      exact h.hp.inj j k b t t' (by simpa using hj) (by simpa using hk) hbj hbk
  cases hβ:β id with
  |no=>rw [hβ] at h0;exact h0.elim
  |gh o=>
    refine fin G (fun _ _ h=>h) h.hp.gs h.hp.js (fun j bk' b t _ hj hbj=>(h.hp.block hj hbj).1) fun y hc=>?_
    cases hc with
    |j5 hb'=>rw [hβ] at hb';cases hb'
    |sl hb'=>rw [hβ] at hb';cases hb'
  |nil=>
    rw [hβ] at h0
    have he:es=[]:=by
      cases es with
      |nil=>rfl
      |cons e es=>
        have h1:=hes
        rw [h0.1,List.flatMap_cons] at h1
        have h2:e.cells=[]:=(List.append_eq_nil_iff.1 h1).1
        have:=hu e ax
        rw [h2] at this;simp at this;omega
    refine fin G (fun _ _ h=>h) h.hp.gs h.hp.js (fun j bk' b t _ hj hbj=>(h.hp.block hj hbj).1) fun y hc=>?_
    subst he
    cases hc with
    |j5 _=>exact .cr (es:=[]) [] ax ax ax ax ax ax ax
    |sl hb'=>rw [hβ] at hb';cases hb'
  |«at» b t=>
    rw [hβ] at h0
    obtain ⟨g1,g2,arr,g3,g4,g5,g6,g7⟩:=h0
    have hm:∀ k o,G k=some o→(G.set b (.cells arr bk.T (0,0))) k=some o:=fun k o hk=>by
      simp only [bE.set];rw [if_neg (by rintro rfl;rw [g1] at hk;cases hk)];exact hk
    refine fin (G.set b (.cells arr bk.T (0,0))) hm (fun k o hk=>?_) (fun k hk=>?_) (fun j bk' b' t' hne hj hbj=>?_) fun y hc=>?_
    · simp only [bE.set] at hk
      split at hk
      · rename_i e;subst e;injection hk with hk;subst hk;exact g3
      · exact h.hp.gs k o hk
    · simp only [bE.set] at hk
      split at hk
      · rename_i e;subst e;exact .inr g2
      · exact h.hp.js k hk
    · have hbb:b'≠b:=fun e=>by subst e;exact hne (h.hp.inj j id b' t' t (by rw [hj];rfl) (by rw [hb];rfl) hbj hβ)
      simp only [bE.set];rw [if_neg hbb]
      exact (h.hp.block hj hbj).1
    · cases hc with
      |j5 hb'=>rw [hβ] at hb';cases hb'
      |@sl _ _ _ _ _ _ c b' t' hb' hnc ht hcm hbw=>
        rw [hβ] at hb';injection hb' with e1 e2;subst e1;subst e2
        subst hn
        have hfl:(es.flatMap AV.cells).length=es.length * sz:=jb hu
        have hle:es.length * sz≤arr.size:=by rw [← hfl,hes,g4];exact g5
        refine .cr (arr.toList.take (es.length * sz)) hu aE hnc hbw (fun _=>by simp) (fun j v hv=>⟨_,rfl,?_⟩) (fun j u v hu' hv=>?_)
        · have hj:j < es.length * sz:=by have:=bS hv;simp at this;omega
          simp only [List.getElem?_take,hj,if_true,Array.getElem?_toList] at hv
          rw [Addr.eV]
          simpa [dO,bE.set] using hv
        · have hj:j < es.length * sz:=by have:=bS hv;simp at this;omega
          simp only [List.getElem?_take,hj,if_true,Array.getElem?_toList] at hv
          rw [hes] at hu'
          exact ((g7 j u v hu' hv).mu (fw hp1 hu') lj).mono hm
end Go.Ab
namespace Go.Ab
open Go.RowKit
variable {P:Program}
mutual
def AV.plain:AV→Bool
  | .any=>true
  | .v _=>true
  | .agg cs=>AV.oc cs
  | .dr cs=>AV.oc cs
  | .fn _ cs=>AV.oc cs
  | .cr _ _ _=>false
  | .bx _=>false
  | .ptr _ _=>false
  | .yl _ _=>false
  | .sl _ _ _ _ _=>false
def AV.oc:List AV→Bool
  |[]=>true
  |x::r=>AV.plain x&&AV.oc r
end
theorem ni:∀ {cs:List AV} {j:Nat} {x:AV},AV.oc cs=true→cs[j]?=some x→AV.plain x=true
  |[],_,_,_,h=>by simp at h
  |c::cs,0,x,h,hx=>by simp at hx;subst hx;simp [AV.oc] at h;exact h.1
  |c::cs,j+1,x,h,hx=>by simp at hx;simp [AV.oc] at h;exact ni h.2 hx
theorem Conc.plain {G G':bE} {β β':cM} {x:AV} {y:Value} (h:Conc G β x y) (hp:x.plain=true):Conc G' β' x y:=by
  induction h with
  |any=>exact .any
  |v=>exact .v
  |agg xs hl _ ih=>exact .agg xs hl fun j x y hx hy=>ih j x y hx hy (ni (by simpa [AV.plain] using hp) hx)
  |dr xs hl _ ih=>exact .dr xs hl fun j x y hx hy=>ih j x y hx hy (ni (by simpa [AV.plain] using hp) hx)
  |fn xs hf hl _ ih=>exact .fn xs hf hl fun j x y hx hy=>ih j x y hx hy (ni (by simpa [AV.plain] using hp) hx)
  |qC _ ih=>exact .qC (ih (by simpa [AV.plain,AV.oc] using hp))
  |_=>simp [AV.plain] at hp
theorem AS {d:Option Tmp} {f:FuncId} {args:Array Operand} {eQ:Array TypeId} {ty:TypeId} {pos:String} {bC:Array Edge} {g:Option (Nat×Bool)} {s s':St} {K:St→Prop} {Q:AV→Prop} [hc:cS P f]
    (hle:Le s s') {L:List AV} (hev:cn s' args=L) (h:bg P f L Q) (hp:AV.cj L=true) (hk:∀ x,Q x→x.plain=true∧K (s.put d x)):dz P ⟨d,.call {callee:=.value (.func f),args,argTypes:=eQ},ty,pos,bC,g⟩ s K:=by
  intro R β G a w Q' hr
  have hrun:(execOp a.eval ⟨d,.call {callee:=.value (.func f),args,argTypes:=eQ},ty,pos,bC,g⟩).run P w= .ok (.enter f (args.map a.eval)) w:=by
    simp [execOp,resolve,Act.eval,Deferred.ofValue,invoke,hc.ok]
  unfold Oper.wp
  rw [hrun,Oper.upon_enter]
  subst hev
  obtain ⟨β1,G1,hr1⟩:=hle R β G a w hr
  have:=h G1 w (args.map a.eval).toList hr1.hp.gs (nb hr1 args hp)
  simp only [Array.toArray_toList] at this
  refine this.mono fun e w' ⟨y,G',x,he,hQ,hcx,hd,hG',hext⟩=>?_
  subst he
  obtain ⟨hpl,hK⟩:=hk x hQ
  obtain ⟨G'',hr',hm⟩:=hr.later hext (pN hr.hp.gs hext) (fun b hb=>.inl hb)
  exact ⟨hext,β,G'',_,hK,hr'.put d (hcx.plain hpl)⟩
theorem mv {d:Option Tmp} {f:FuncId} {args:Array Operand} {eQ:Array TypeId} {ty:TypeId} {pos:String} {bC:Array Edge} {g:Option (Nat×Bool)} {s s':St} {K:St→Prop} {Q:AV→Prop} [hc:cS P f]
    (hle:Le s s') {L:List AV} (hev:cn s' args=L) (h:bg P f L Q) (hp:AV.cj L=true) (hk:∀ x,Q x→x.plain=true∧K (s.put d x)):eR P ⟨d,.call {callee:=.value (.func f),args,argTypes:=eQ},ty,pos,bC,g⟩ s K:=
  mj (AS hle hev h hp hk)
theorem fx {α:Type} {f:α→AV} {fr:List AV} {hp:Hp} (id sz bw n:Nat) {T:TypeId} {cs:List AV} {full:Bool} (xs:List α) (hb:aW hp id=some ⟨T,cs,full⟩) (hcs:(xs.map f).flatMap AV.cells=cs) (hn:xs.length=n)
    (hc:∀ a,(f a).cells.length=sz) (hpu:∀ a,AV.cj (f a).cells=true) (hs:0 < sz):Le ⟨fr,hp⟩ ⟨AV.eG id sz bw n (xs.map f) fr,dZ id hp⟩:=
  AQ id sz bw n (xs.map f) hb hcs (fun e he=>by obtain ⟨a,_,rfl⟩:=List.mem_map.1 he;exact hc a) (by simpa using hn) (by
    subst hcs;rw [List.flatMap_map];exact fK _ xs hpu) hs
end Go.Ab
namespace Go.Ab
theorem ky (xs:List Int):(xs.map AV.int).flatMap AV.cells=xs.map AV.int:=mw (fun _=>rfl) xs
end Go.Ab
namespace Go.Ab
open Go.RowKit
variable {P:Program}
inductive xr where
  |other
  |bool
  |int (k:IntKind)
  |sl (e:Nat)
  |ar (N e:Nat) (i2:Bool)
  |st (pl:List (Nat×Nat)) (e2:Bool)
  |str
structure TI where
  agg:Bool
  n:Nat
  b:Nat
  z:List AV
  k:xr
def Ky (P : Program) (t : TypeId) (f1 f2 : Field) : Bool := decide (f1.offset = 0) && decide (f2.offset = 1) && !(f1.name == "_" || f2.name == "_") && !P.stoodInHeld t && !P.eqGuardType P.depth t
def Dt (P:Program) (t:TypeId) (d:TypeDesc):xr→Prop
  | .other=>True
  | .bool=>d= .bool
  | .int k=>d= .int k
  | .str=>d= .string
  | .sl e=>d= .slice e
  | .ar N e i2=>d= .array N e∧(i2=true→N=2∧(∃ k,cJ P e (.int k))∧P.eqGuardType P.depth t=false∧P.cellsOf e=1∧(P.info? e).isSome=true)
  | .st pl e2=>mf P t pl∧(e2=true→∃ f1 f2 k1 k2,d= .struct #[f1,f2]∧cJ P f1.type (.int k1)∧cJ P f2.type (.int k2)∧Ky P t f1 f2=true)
def AT (P:Program) (t:TypeId) (i:TI):Prop:=∃ d z,cJ P t d∧dm P t z i.n i.b∧kc d=i.agg∧(AV.dA z).cells=i.z∧Dt P t d i.k
class Tb (P:Program) (aU:outParam (Nat→Option TI)):Prop where
  ok:∀ t i,aU t=some i→AT P t i
inductive PR where
  |ok (x:AV)
  |ex (c:Prop) [dc:Decidable c] (f:c→AV)
  |no
def tr (P:Program) (op:Op) (s:St):PR→Prop
  | .ok x=>PV P op s x
  |@PR.ex c _ f=>∀ h:c,PV P op s (f h)
  | .no=>True
def pk (f:Int→Int→PR):AV→AV→PR
  | .v (.int .i64 n),.v (.int .i64 m)=>f n m
  |_,_=>.no
def qD (f:Int→Int→Bool):AV→AV→PR
  | .v (.int k n),.v (.int k' m)=>if k=k' then .ok (.bool (f n m)) else .no
  |_,_=>.no
def qE (f:IntKind→Int→Int→Int):AV→AV→PR
  | .v (.int k n),.v (.int k' m)=>if k=k' then .ok (.v (.int k (f k n m))) else .no
  |_,_=>.no
def Il (neg r:Bool):PR:=.ok (.bool (if neg then !r else r))
def qG (neg:Bool):Option TI→AV→AV→PR
  |_,.v (.int k n),.v (.int k' m)=>if k=k' then .ok (.bool (if neg then n != m else n == m)) else .no
  |_,.v (.string a),.v (.string b)=>Il neg (a.toList == b.toList)
  |some ⟨_,_,_,_,.bool⟩,.v (.bool a),.v (.bool b)=>Il neg (a == b)
  |some ⟨_,_,_,_,.st _ true⟩,.agg [.v (.int .i64 a),.v (.int .i64 b)],.agg [.v (.int .i64 c),.v (.int .i64 d)]=>Il neg (a == c&&b == d)
  |some ⟨_,_,_,_,.ar _ _ true⟩,.agg [.v (.int .i64 a),.v (.int .i64 b)],.agg [.v (.int .i64 c),.v (.int .i64 d)]=>Il neg (a == c&&b == d)
  |_,_,_=>.no
def kb:IntKind→Int
  | .i64=>64
  | .u64=>64
  | .i32=>32
  | .u32=>32
  | .i16=>16
  | .u16=>16
  | .i8=>8
  | .u8=>8
theorem Cd (k:IntKind):kb k=(k.bits:Int):=by cases k<;>rfl
def yC:IntKind→Int→Prop
  | .i64,n=>-9223372036854775808≤n∧n≤9223372036854775807
  | .u64,n=>0≤n∧n≤18446744073709551615
  | .i32,n=>-2147483648≤n∧n≤2147483647
  | .u32,n=>0≤n∧n≤4294967295
  | .i16,n=>-32768≤n∧n≤32767
  | .u16,n=>0≤n∧n≤65535
  | .i8,n=>-128≤n∧n≤127
  | .u8,n=>0≤n∧n≤255
instance (k:IntKind) (n:Int):Decidable (yC k n):=by cases k<;>(simp only [yC];infer_instance)
theorem yF {k:IntKind} {n:Int} (h:yC k n):k.wrap n=n:=by
  cases k<;>simp only [yC] at h<;>simp [IntKind.wrap,IntKind.bits,IntKind.signed]<;>omega
def Kz:AV→AV→PR
  | .v (.int k a),.v (.int _ b)=>.ex ((0≤b∧b≤kb k)∧yC k (a * 2 ^ b.toNat)) fun _=>.v (.int k (a * 2 ^ b.toNat))
  |_,_=>.no
def KA:AV→AV→PR
  | .v (.int k a),.v (.int _ b)=>.ex (0≤b∧b≤kb k) fun _=>.v (.int k (a / 2 ^ b.toNat))
  |_,_=>.no
def eX (aU:Nat→Option TI) (op:BinOp) (t:TypeId) (x y:AV):PR:=
  match op with
  | .lss=>qD (fun n m=>decide (n < m)) x y
  | .leq=>qD (fun n m=>decide (n≤m)) x y
  | .gtr=>qD (fun n m=>decide (m < n)) x y
  | .geq=>qD (fun n m=>decide (m≤n)) x y
  | .add=>pk (fun n m=>.ex (-9223372036854775808≤n+m∧n+m≤9223372036854775807) fun _=>.int (n+m)) x y
  | .sub=>pk (fun n m=>.ex (-9223372036854775808≤n - m∧n - m≤9223372036854775807) fun _=>.int (n - m)) x y
  | .mul=>pk (fun n m=>.ex (-9223372036854775808≤n * m∧n * m≤9223372036854775807) fun _=>.int (n * m)) x y
  | .eql=>qG false (aU t) x y
  | .neq=>qG true (aU t) x y
  | .shl=>Kz x y
  | .shr=>KA x y
  | .quo=>pk (fun n m=>.ex (m≠0∧-9223372036854775808≤n.tdiv m∧n.tdiv m≤9223372036854775807) fun _=>.int (n.tdiv m)) x y
  | .rem=>pk (fun n m=>.ex (m≠0) fun _=>.int (n.tmod m)) x y
  | .and=>qE (fun k n m=>bits .and k n m) x y
  | .or=>qE (fun k n m=>bits .or k n m) x y
  | .xor=>qE (fun k n m=>bits .xor k n m) x y
  | .andNot=>qE (fun k n m=>bits .andNot k n m) x y
def ug:Option TI→Option TI→AV→PR
  |some _,some ⟨_,_,_,_,.int k⟩,.v (.int _ n)=>.ex (yC k n) fun _=>.v (.int k n)
  |_,_,_=>.no
def yG:AV→PR
  | .v (.bool b)=>.ok (.bool (!b))
  |_=>.no
def yH:AV→PR
  | .v (.int .i64 n)=>.ex (-9223372036854775808≤-n∧-n≤9223372036854775807) fun _=>.int (-n)
  |_=>.no
def ea (b:Bool):AV→AV→PR
  | .v (.bool p),.v (.bool q)=>.ok (.bool (if b then p else q))
  |x,y=>.ok (if b then x else y)
def uh:AV→AV→AV→PR
  | .v (.bool b),x,y=>ea b x y
  |_,_,_=>.no
def Ce:Option AV→PR
  |some c=>.ok c
  |none=>.no
def my (i:Nat):AV→PR
  | .dr cs=>Ce cs[i]?
  |_=>.no
def MK (i:TI) (off:Nat):Option fZ→PR
  |some ⟨_,cs,_⟩=>if i.agg=true then .ex (off+i.n≤cs.length) (fun _=>.agg ((cs.drop off).take i.n)) else .ex (off < cs.length) (fun h=>cs[off]'h)
  |none=>.no
def ML (i:TI) (cs:List AV):PR:=
  if i.agg=true then .ex (i.n≤cs.length) (fun _=>.agg (cs.take i.n)) else .ex (0 < cs.length) (fun h=>cs[0]'h)
def nj (hp:Hp):Option TI→AV→PR
  |some i,.ptr id off=>MK i off (aW hp id)
  |some i,.bx cs=>ML i cs
  |_,_=>.no
def mz (x:AV):Option (Nat×Nat)→PR
  |some (o,n)=>if n=0 then .no else
    match x with
    | .ptr id off=>.ok (.ptr id (off+o))
    | .bx cs=>.ok (.bx (cs.drop o))
    |_=>.no
  |none=>.no
def Fh (f:Nat):Option TI→AV→PR
  |some ⟨_,_,_,_,.st pl _⟩,x=>mz x pl[f]?
  |_,_=>.no
def sd:Option TI→Int→AV→PR
  |some i,n,.cr sz _ es=>if sz=i.n then .ex (0≤n∧n.toNat < es.length) (fun h=>.bx (es[n.toNat]'h.2).cells) else .no
  |some i,n,.sl sz _ id off len=>if sz=i.n then .ex (0≤n∧n.toNat < len) (fun _=>.ptr id (off+n.toNat * sz)) else .no
  |_,_,_=>.no
def mA (N:Nat):Option TI→Int→AV→PR
  |some i,n,.ptr id off=>.ex (0≤n∧n.toNat < N) (fun _=>.ptr id (off+n.toNat * i.n))
  |some i,n,.bx cs=>.ex (0≤n∧n.toNat < N) (fun _=>.bx (cs.drop (n.toNat * i.n)))
  |_,_,_=>.no
def wq (aU:Nat→Option TI):Option TI→AV→AV→PR
  |some ⟨_,_,_,_,.sl e⟩,x,.v (.int .i64 n)=>sd (aU e) n x
  |some ⟨_,_,_,_,.ar N e _⟩,x,.v (.int .i64 n)=>mA N (aU e) n x
  |_,_,_=>.no
def sN:Option TI→AV→PR
  |some ⟨_,_,_,_,.sl _⟩,.cr _ _ es=>.ok (.int es.length)
  |some ⟨_,_,_,_,.sl _⟩,.sl _ _ _ _ n=>.ok (.int n)
  |some ⟨_,_,_,_,.sl _⟩,.v (.slice _ n _)=>.ok (.int n)
  |some ⟨_,_,_,_,.str⟩,.v (.string b)=>.ok (.int b.size)
  |_,_=>.no
def Cg (N:Nat) (cs:List AV) (n:Int):Option TI→PR
  |some ⟨false,1,_,_,_⟩=>.ex (0≤n∧n < N∧n.toNat < cs.length) fun h=>cs[n.toNat]'h.2.2
  |_=>.no
def oQ (aU:Nat→Option TI):Option TI→AV→AV→PR
  |some ⟨_,_,_,_,.str⟩,.v (.string b),.v (.int .i64 n)=>.ex (0≤n∧n.toNat < b.size) fun h=>.v (.int .u8 (b[n.toNat]'h.2).toNat)
  |some ⟨_,_,_,_,.ar N e _⟩,.agg cs,.v (.int .i64 n)=>Cg N cs n (aU e)
  |_,_,_=>.no
def oR (aU:Nat→Option TI) (ps:List (Nat×AV)):Option TI→PR
  |some ⟨_,_,_,z,.st pl _⟩=>.ex (eb (fun i=>pl[i]?) z.length ps=true) (fun _=>.agg (fV (fun i=>(pl[i]?).map (·.1)) z ps))
  |some ⟨_,_,_,z,.ar _ e _⟩=>match aU e with
    |some i=>.ex (eb (fun k=>some (k * i.n,i.n)) z.length ps=true) (fun _=>.agg (fV (fun k=>some (k * i.n)) z ps))
    |none=>.no
  |_=>.no
def ui:AV→PR
  | .ptr i o=>.ok (.ptr i o)
  | .bx cs=>.ok (.bx cs)
  | .fn f cs=>.ok (.fn f cs)
  |_=>.no
def Du (f:FuncId) (caps:List AV):Bool→PR
  |true=>if f≤999999999 then .ok (.fn f caps) else .no
  |false=>.no
def vT:Option TI→Option Nat
  |some ⟨_,_,_,_,.sl e⟩=>some e
  |_=>none
def Ch (sz bw id off n:Nat):AV:=if n=0 then .cr sz bw [] else .sl sz bw id off n
def od (off k:Nat):Option fZ→Prop
  |some b=>off+k≤b.cs.length
  |none=>False
instance (off k:Nat) (b:Option fZ):Decidable (od off k b):=by cases b<;>(simp only [od];infer_instance)
def fc (hp:Hp) (aU:Nat→Option TI):Option Nat→AV→Option AV→Option AV→PR
  |some e,.cr sz bw es,some (.v (.int .i64 n)),none=>match aU e with
    |some i=>if sz=i.n then .ex (0≤n∧n≤es.length) (fun _=>.cr sz bw (es.drop n.toNat)) else .no
    |none=>.no
  |some e,.cr sz bw es,none,some (.v (.int .i64 n))=>match aU e with
    |some i=>if sz=i.n then .ex (0≤n∧n≤es.length) (fun _=>.cr sz bw (es.take n.toNat)) else .no
    |none=>.no
  |some e,.cr sz bw es,some (.v (.int .i64 n)),some (.v (.int .i64 m))=>match aU e with
    |some i=>if sz=i.n then .ex (0≤n∧n≤m∧m≤es.length) (fun _=>.cr sz bw ((es.take m.toNat).drop n.toNat)) else .no
    |none=>.no
  |some e,.sl sz bw id off k,none,some (.v (.int .i64 m))=>match aU e with
    |some i=>if sz=i.n then .ex (0≤m∧m≤k) (fun _=>.sl sz bw id off m.toNat) else .no
    |none=>.no
  |some e,.sl sz bw id off k,some (.v (.int .i64 n)),none=>match aU e with
    |some i=>if sz=i.n then .ex (0 < sz∧0≤n∧n≤k) (fun _=>Ch sz bw id (off+n.toNat * sz) (k - n.toNat)) else .no
    |none=>.no
  |some e,.sl sz bw id off _,some (.v (.int .i64 n)),some (.v (.int .i64 m))=>match aU e with
    |some i=>if sz=i.n then .ex (0 < sz∧0≤n∧n≤m∧od off (m.toNat * sz) (aW hp id)∧m.toNat * bw≤140737488355328) (fun _=>Ch sz bw id (off+n.toNat * sz) (m.toNat - n.toNat)) else .no
    |none=>.no
  |_,_,_,_=>.no
def fL (aU:Nat→Option TI):Option Nat→AV→Option AV→Option AV→Option AV→PR
  |some e,.sl sz _ _ _ k,some (.v (.int .i64 n)),some (.v (.int .i64 m)),some (.v (.int .i64 x))=>match aU e with
    |some i=>if sz=i.n then .ex (0≤n∧n≤m∧m≤x∧x≤k) (fun _=>.any) else .no
    |none=>.no
  |_,_,_,_,_=>.no
def mZ (aU:Nat→Option TI) (op:Op) (s:St):PR:=
  match op with
  | .move x=>.ok (s.eval x)
  | .assign x=>.ok (s.eval x)
  | .pick c x y=>uh (s.eval c) (s.eval x) (s.eval y)
  | .binOp b t x y _=>eX aU b t (s.eval x) (s.eval y)
  | .unOp .not _ x=>yG (s.eval x)
  | .unOp .neg _ x=>yH (s.eval x)
  | .extract x i=>my i (s.eval x)
  | .load t x=>nj s.hp (aU t) (s.eval x)
  | .fieldAddr t x f=>Fh f (aU t) (s.eval x)
  | .indexAddr t x i=>wq aU (aU t) (s.eval x) (s.eval i)
  | .build t ps=>oR aU (bJ s ps) (aU t)
  | .nilCheck x=>ui (s.eval x)
  | .makeFunc (.func f) ⟨[]⟩ caps=>Du f (cn s caps) (AV.cj (cn s caps))
  | .slice t x lo hi none=>fc s.hp aU (vT (aU t)) (s.eval x) (lo.map s.eval) (hi.map s.eval)
  | .slice t x lo hi (some m)=>fL aU (vT (aU t)) (s.eval x) (lo.map s.eval) (hi.map s.eval) (some (s.eval m))
  | .convert t u x=>ug (aU t) (aU u) (s.eval x)
  | .index t x i=>oQ aU (aU t) (s.eval x) (s.eval i)
  | .call ⟨.builtin .len,⟨[x]⟩,⟨[t]⟩⟩=>sN (aU t) (s.eval x)
  | .call ⟨.builtin .min,⟨[x,y]⟩,_⟩=>pk (fun a b=>.ok (.int (min a b))) (s.eval x) (s.eval y)
  | .call ⟨.builtin .max,⟨[x,y]⟩,_⟩=>pk (fun a b=>.ok (.int (max a b))) (s.eval x) (s.eval y)
  |_=>.no
theorem yI {t e:TypeId} {k:IntKind} (hu:cJ P t (.array 2 e)) (h1:cJ P e (.int k)) (hc:P.cellsOf e=1) (hs:(P.info? e).isSome=true) (a b c d:Int) (w:World) :
    (Op.equalIn 10000 t (.agg #[.int .i64 a,.int .i64 b]) (.agg #[.int .i64 c,.int .i64 d])).run P w= .ok (a == c&&b == d) w:=by
  obtain ⟨i,hi⟩:=Option.isSome_iff_exists.1 hs
  rw [run_equalIn_array w 9999 _ _ hu.ok hi,show List.range 2=[0,1] from rfl,hc]
  simp only [Op.eqItems,Sem.run_bind,part,c8 h1.ok,kc,Result.andThen_ok,Bool.false_eq_true,if_false,Nat.zero_mul,Nat.one_mul]
  simp only [List.getElem?_toArray,List.getElem?_cons_zero,List.getElem?_cons_succ,Sem.run_pure,Result.andThen_ok,run_equalIn_int w 9998 _ _ _ _ _ h1.ok]
  cases hac:(a == c)
  · rfl
  · simp only [Bool.not_true,Bool.false_eq_true,if_false,c8 h1.ok,kc,Sem.run_bind,Sem.run_pure,Result.andThen_ok,run_equalIn_int w 9998 _ _ _ _ _ h1.ok,Bool.true_and]
    cases hbd:(b == d)<;>rfl
theorem Iz {s:St} {x y:Operand} {a b c d:Int} {t u e:TypeId} {k:IntKind} (hu:cJ P t (.array 2 e)) (h1:cJ P e (.int k)) (hg:P.eqGuardType P.depth t=false) (hc:P.cellsOf e=1) (hs:(P.info? e).isSome=true)
    (hx:s.eval x= .agg [.int a,.int b]) (hy:s.eval y= .agg [.int c,.int d]):PV P (.binOp .eql t x y u) s (.bool (a == c&&b == d)):=
  dv fun _ _ _ ac _ h=>⟨_,.v,fun w' _ _ _ _ _=>by
    have e1:=h.eval x;rw [hx] at e1
    have e2:=h.eval y;rw [hy] at e2
    simp only [execOp,iT e1,iT e2,Sem.run_bind,run_eqGuard_agg w' _ t _ _ _ _ hg,Result.andThen_ok,run_eql_struct,yI hu h1 hc hs]
    rfl⟩
theorem IA {s:St} {x y:Operand} {a b c d:Int} {t u e:TypeId} {k:IntKind} (hu:cJ P t (.array 2 e)) (h1:cJ P e (.int k)) (hg:P.eqGuardType P.depth t=false) (hc:P.cellsOf e=1) (hs:(P.info? e).isSome=true)
    (hx:s.eval x= .agg [.int a,.int b]) (hy:s.eval y= .agg [.int c,.int d]):PV P (.binOp .neq t x y u) s (.bool (!(a == c&&b == d))):=
  dv fun _ _ _ ac _ h=>⟨_,.v,fun w' _ _ _ _ _=>by
    have e1:=h.eval x;rw [hx] at e1
    have e2:=h.eval y;rw [hy] at e2
    simp only [execOp,iT e1,iT e2,Sem.run_bind,run_eqGuard_agg w' _ t _ _ _ _ hg,Result.andThen_ok,run_neq_struct,yI hu h1 hc hs]
    rfl⟩
theorem yJ {s:St} {t el:TypeId} {x l:Operand} {m:Int} {z:Value} {sz bw b id off k:Nat} [hu:cJ P t (.slice el)] [hT:dm P el z sz b]
    (hx:s.eval x= .sl sz bw id off k) (hl:s.eval l= .int m) (h1:0≤m) (h2:m≤k):PV P (.slice t x none (some l) none) s (.sl sz bw id off m.toNat):=
  dv fun R β G a w hr=>by
    have e1:=hr.eval x;rw [hx] at e1
    have e2:=hr.eval l;rw [hl] at e2
    have e2:=cX e2
    generalize hxv:a.eval x=vx at e1
    cases e1 with
    |j5 hb=>
      have hm:m=0:=by omega
      subst hm
      refine ⟨_,.j5 hb,fun w' d ty pos bC g=>?_⟩
      have:=kF (P:=P) hu hT none 0 0 none (some 0) w' ax ax ax
      simp only [Option.map_none,Option.map_some] at this
      simp only [execOp,hxv,e2,Option.map_none,Option.map_some,Sem.run_bind,this,Result.andThen_ok,Sem.run_pure]
      simp
    |@sl _ _ _ _ _ _ c b' t' hb hnc ht hm hbw=>
      refine ⟨.slice (some ⟨b',off,none⟩) m.toNat c,.sl hb aj ht hm (Nat.le_trans (Nat.mul_le_mul_right _ aj) hbw),fun w' d ty pos bC g=>?_⟩
      have:=kF (P:=P) hu hT (some ⟨b',off,none⟩) k c none (some m) w' ax (by simpa using h1) aE
      simp only [Option.map_none,Option.map_some] at this
      simp only [execOp,hxv,e2,Option.map_none,Option.map_some,Sem.run_bind,this,Result.andThen_ok,Sem.run_pure,Option.getD_none,Option.getD_some,Int.toNat_zero,Nat.sub_zero,Nat.zero_mul,Addr.eV,Nat.add_zero]
      congr 2
      split<;>rfl
theorem uk {s:St} {t el:TypeId} {x l:Operand} {hi:Option Operand} {n:Int} {H:Option Int} {m:Nat} {z:Value} {sz bw b id off k:Nat} [hu:cJ P t (.slice el)] [hT:dm P el z sz b] (hp:0 < sz)
    (hx:s.eval x= .sl sz bw id off k) (hl:s.eval l= .int n) (hhi:hi.map s.eval=H.map AV.int) (hH:H.getD k=m) (h1:0≤n) (h2:n.toNat≤m) (h3:m≤k∨od off (m * sz) (aW s.hp id)) (h4:m≤k∨m * bw≤140737488355328) :
    PV P (.slice t x (some l) hi none) s (Ch sz bw id (off+n.toNat * sz) (m - n.toNat)):=
  dv fun R β G a w hr=>by
    have e1:=hr.eval x;rw [hx] at e1
    have e2:=hr.eval l;rw [hl] at e2
    have e2:=cX e2
    have e3:hi.map a.eval=H.map (Value.int .i64):=by
      cases hi with
      |none=>cases H with
        |none=>rfl
        |some _=>simp at hhi
      |some o=>cases H with
        |none=>simp at hhi
        |some q=>
          simp only [Option.map_some,Option.some.injEq] at hhi ⊢
          have:=hr.eval o;rw [hhi] at this;exact cX this
    generalize hxv:a.eval x=vx at e1
    cases e1 with
    |j5 hb=>
      have hm0:m=0:=by
        rcases h3 with h3|h3
        · omega
        · cases hq:aW s.hp id with
          |none=>rw [hq] at h3;exact h3.elim
          |some bk=>
            rw [hq] at h3
            have:=hr.hp.blk id bk hq
            unfold bW at this
            rw [hb] at this
            simp only [od,this.1,List.length_nil] at h3
            have:m * sz=0:=by omega
            rcases Nat.mul_eq_zero.1 this with h|h
            · exact h
            · omega
      subst hm0
      have hn:n=0:=by omega
      subst hn
      have hH0:H.getD 0=0:=by simpa using hH
      refine ⟨.slice none 0 0,by simp only [Ch];exact .cr (es:=[]) [] ax ax ax ax ax ax ax,fun w' d ty pos bC g=>?_⟩
      have:=kF (P:=P) hu hT none 0 0 (some 0) H w' ax (by simp [hH0]) (by simp [hH0])
      simp only [Option.map_some] at this
      simp only [execOp,hxv,e2,e3,Option.map_none,Option.map_some,Sem.run_bind,this,Result.andThen_ok,Sem.run_pure]
      simp [hH0]
    |@sl _ _ _ _ _ _ c b' t' hb hnc ht hm hbw=>
      have hmc:m≤c:=by
        rcases h3 with h3|h3
        · omega
        · cases hq:aW s.hp id with
          |none=>rw [hq] at h3;exact h3.elim
          |some bk=>
            rw [hq] at h3
            obtain ⟨_,_,arr,g3,g4,g5,_⟩:=hr.hp.block hq hb
            simp only [od] at h3
            have:m * sz≤c * sz:=by omega
            exact Nat.le_of_mul_le_mul_right this hp
      have hbm:m * bw≤reach:=by
        rcases h4 with h4|h4
        · exact Nat.le_trans (Nat.mul_le_mul_right _ h4) hbw
        · exact h4
      have hrun:=fun w'=>kF (P:=P) hu hT (some ⟨b',off,none⟩) k c (some n) H w' (by simpa using h1) (by rw [hH];simp;omega) (by rw [hH];omega)
      rw [hH] at hrun
      simp only [Option.map_some,Option.getD_some,Int.toNat_natCast] at hrun
      refine ⟨.slice (if c=n.toNat then some ⟨b',off,none⟩ else some ((⟨b',off,none⟩:Addr).add (n.toNat * sz))) (m - n.toNat) (c - n.toNat),?_,fun w' d ty pos bC g=>by
        simp only [execOp,hxv,e2,e3,Option.map_none,Option.map_some,Sem.run_bind,hrun w',Result.andThen_ok,Sem.run_pure]⟩
      unfold Ch
      split
      · rename_i hz
        rw [hz]
        exact .cr (es:=[]) [] ax ax ax ax ax ax ax
      · rename_i hz
        have hne:¬c=n.toNat:=by omega
        rw [if_neg hne]
        simp only [Addr.eV]
        refine .sl hb aj ?_ aj (Nat.le_trans (Nat.mul_le_mul_right _ aj) hbm)
        have:n.toNat * sz+(c - n.toNat) * sz=c * sz:=by rw [← Nat.add_mul];congr 1;omega
        omega
theorem AU {s:St} {t el:TypeId} {x l h y:Operand} {n m q:Int} {z:Value} {sz bw b id off k:Nat} [hu:cJ P t (.slice el)] [hT:dm P el z sz b]
    (hx:s.eval x= .sl sz bw id off k) (hl:s.eval l= .int n) (hh:s.eval h= .int m) (hy:s.eval y= .int q) (h1:0≤n) (h2:n≤m) (h3:m≤q) (h4:q≤k):PV P (.slice t x (some l) (some h) (some y)) s .any:=
  dv fun R β G a w hr=>by
    have e1:=hr.eval x;rw [hx] at e1
    have e2:=hr.eval l;rw [hl] at e2
    have e2:=cX e2
    have e3:=hr.eval h;rw [hh] at e3
    have e3:=cX e3
    have e4:=hr.eval y;rw [hy] at e4
    have e4:=cX e4
    generalize hxv:a.eval x=vx at e1
    obtain ⟨A,c,rfl,hc⟩:∃ A c,vx= .slice A k c∧k≤c:=by
      cases e1 with
      |j5 hb=>exact ⟨_,_,rfl,Nat.le_refl _⟩
      |sl hb hnc ht hm hbw=>exact ⟨_,_,rfl,hnc⟩
    refine ⟨.slice (if q.toNat=n.toNat then A else A.map (·.add (n.toNat * sz))) (m.toNat - n.toNat) (q.toNat - n.toNat),.any,fun w' d ty pos bC g=>?_⟩
    have a1:max m 0=m:=by omega
    have a2:max q 0=q:=by omega
    have h0m:0≤m:=by omega
    have h0q:0≤q:=by omega
    have hqc:q≤(c:Int):=by omega
    simp [execOp,hxv,e2,e3,e4,Instr.sliceAt,Instr.slice,run_underlying hu.ok,Instr.sliceBounds,Instr.sliceBound,dV hT,asIntOf,h1,h2,h3,h0m,h0q,hqc,a1,a2]
theorem qH {s:St} {x y:Operand} {t u:TypeId} {op:BinOp} {k k':IntKind} {a b:Int} {r:Value} (hx:s.eval x= .v (.int k a)) (hy:s.eval y= .v (.int k' b)) (he:op≠.eql∧op≠.neq)
    (hr:∀ w,(binOp op t (.int k a) (.int k' b)).run P w= .ok r w):PV P (.binOp op t x y u) s (.v r):=
  dv fun _ _ _ ac _ h=>⟨r,.v,fun w' _ _ _ _ _=>by
    have h1:=h.eval x;rw [hx] at h1
    have h2:=h.eval y;rw [hy] at h2
    have hg:(eqGuard op t x y (ac.eval x) (ac.eval y)).run P w'= .ok () w':=by
      unfold eqGuard
      cases op<;>first|(exact absurd rfl he.1)|(exact absurd rfl he.2)|simp
    simp only [execOp,Sem.run_bind,hg,Result.andThen_ok]
    rw [eF h1,eF h2,hr w']
    simp⟩
section
variable {s:St} {x y:Operand} {k:IntKind} {n m:Int} {t u:TypeId}
theorem IB {op:BinOp} {f:Int→Int→Bool} (hx:s.eval x= .v (.int k n)) (hy:s.eval y= .v (.int k m)) (he:op≠.eql∧op≠.neq) (hr:∀ w,(binOp op t (.int k n) (.int k m)).run P w= .ok (.bool (f n m)) w):PV P (.binOp op t x y u) s (.bool (f n m)):=
  qH hx hy he hr
theorem Fi {op:BinOp} {r:Bool} (hx:s.eval x= .v (.int k n)) (hy:s.eval y= .v (.int k m)) (hr:∀ w,(binOp op t (.int k n) (.int k m)).run P w= .ok (.bool r) w):PV P (.binOp op t x y u) s (.bool r):=
  dv fun _ _ _ a _ h=>⟨_,.v,fun w' _ _ _ _ _=>by
    have h1:=h.eval x;rw [hx] at h1
    have h2:=h.eval y;rw [hy] at h2
    simp only [execOp]
    rw [eF h1,eF h2]
    simp only [Sem.run_bind,nQ,Result.andThen_ok,hr]
    rfl⟩
theorem tu (op:BinOp) (a b:ByteArray) (w:World):(eqGuard op t x y (.string a) (.string b)).run P w= .ok () w:=by
  unfold eqGuard;cases op<;>simp
theorem yK {op:BinOp} {a b:ByteArray} {r:Bool} (hx:s.eval x= .v (.string a)) (hy:s.eval y= .v (.string b)) (hr:∀ w,(binOp op t (.string a) (.string b)).run P w= .ok (.bool r) w):PV P (.binOp op t x y u) s (.bool r):=
  dv fun _ _ _ ac _ h=>⟨_,.v,fun w' _ _ _ _ _=>by
    have h1:=h.eval x;rw [hx] at h1
    have h2:=h.eval y;rw [hy] at h2
    simp only [execOp]
    rw [eF h1,eF h2]
    simp only [Sem.run_bind,tu,Result.andThen_ok,hr]
    rfl⟩
theorem Dv {b:ByteArray} [hu:cJ P t .string] (hx:s.eval x= .v (.string b)):PV P (.call {callee:=.builtin .len,args:=#[x],argTypes:=#[t]}) s (.int b.size):=
  dv fun _ _ _ a _ h=>by
    have h1:=h.eval x;rw [hx] at h1
    exact ⟨_,.v,fun w' _ _ _ _ _=>by simp [execOp,resolve,invoke,builtin,eF h1,Builtin.len_,eP hu,goInt]⟩
theorem yL {b:ByteArray} [hu:cJ P t .string] (hx:s.eval x= .v (.string b)) (hy:s.eval y= .int n) (h0:0≤n) (h1:n.toNat < b.size):PV P (.index t x y) s (.v (.int .u8 (b[n.toNat]'h1).toNat)):=
  dv fun _ _ _ a _ h=>by
    have e1:=h.eval x;rw [hx] at e1
    have e2:=h.eval y;rw [hy] at e2
    have hg:b[n.toNat]?=some (b[n.toNat]'h1):=getElem?_pos b n.toNat h1
    exact ⟨_,.v,fun w' _ _ _ _ _=>by simp [execOp,eF e1,cX e2,Instr.index,run_underlying hu.ok,asIntOf,h0,hg]⟩
theorem yM {el:TypeId} {N b:Nat} {d:TypeDesc} {z:Value} {cs:List AV} {c:AV} [hu:cJ P t (.array N el)] [hd:cJ P el d] [hi:dm P el z 1 b]
    (hx:s.eval x= .agg cs) (hn:s.eval y= .int n) (h0:0≤n) (h1:n < N) (hc:cs[n.toNat]?=some c) (hda:kc d=false):PV P (.index t x y) s c:=
  dv fun R β G a w hr=>by
    have e1:=hr.eval x;rw [hx] at e1
    have e2:=hr.eval y;rw [hn] at e2
    generalize hxv:a.eval x=vx at e1
    cases e1 with
    |agg xs hl hs=>
      have hlt:n.toNat < xs.length:=by
        rw [← hl]
        exact (List.getElem?_eq_some_iff.1 hc).1
      refine ⟨xs[n.toNat],hs _ _ _ hc (List.getElem?_eq_getElem hlt),fun w' d' ty pos bC g=>?_⟩
      simp [execOp,hxv,cX e2,Instr.index,run_underlying hu.ok,asIntOf,part,c8 hd.ok,hda,dV hi,h0,h1,List.getElem?_eq_getElem hlt]
end
section
variable {s:St} {x y:Operand} {n m:Int} {t u:TypeId}
theorem K8 (hx:s.eval x= .int n) (hy:s.eval y= .int m) (h:m≠0) (h2:-9223372036854775808≤n.tdiv m∧n.tdiv m≤9223372036854775807):PV P (.binOp .quo t x y u) s (.int (n.tdiv m)):=
  sf hx hy ax fun w=>by simp [binOp,Op.intDiv,h,oO h2.1 h2.2]
theorem K9 (hx:s.eval x= .int n) (hy:s.eval y= .int m) (h:m≠0):PV P (.binOp .rem t x y u) s (.int (n.tmod m)):=
  sf hx hy ax fun w=>by simp [binOp,Op.intDiv,h]
end
theorem IC {s:St} {x:Operand} {t u:TypeId} {d:TypeDesc} {k k':IntKind} {n:Int} (hu:cJ P t d) (hv:cJ P u (.int k)) (hx:s.eval x= .v (.int k' n)) (hn:yC k n):PV P (.convert t u x) s (.v (.int k n)):=
  dv fun _ _ _ ac _ h=>⟨_,.v,fun w' _ _ _ _ _=>by
    have h1:=h.eval x;rw [hx] at h1
    simp only [execOp,convert,eF h1,Sem.run_bind,run_underlying hu.ok,run_underlying hv.ok,Result.andThen_ok,Conv.intToInt,yF hn]
    simp⟩
theorem Fj {aU:Nat→Option TI} [hT:Tb P aU] {op:BinOp} {t u:TypeId} {X Y:Operand} {s:St}:tr P (.binOp op t X Y u) s (eX aU op t (s.eval X) (s.eval Y)):=by
  have key:∀ x y,s.eval X=x→s.eval Y=y→tr P (.binOp op t X Y u) s (eX aU op t x y):=by
    intro x y hx hy
    have h2:∀ f:Int→Int→PR,(∀ n m,s.eval X= .int n→s.eval Y= .int m→tr P (.binOp op t X Y u) s (f n m))→tr P (.binOp op t X Y u) s (pk f x y):=by
      intro f hf
      unfold pk
      split
      · exact hf _ _ hx hy
      · trivial
    have hK:∀ f:Int→Int→Bool,(op≠.eql∧op≠.neq)→(∀ (k:IntKind) (n m:Int) (w:World),(binOp op t (.int k n) (.int k m)).run P w= .ok (.bool (f n m)) w)→tr P (.binOp op t X Y u) s (qD f x y):=by
      intro f he hf
      unfold qD
      split
      · split
        · rename_i hk;subst hk
          exact IB hx hy he (hf _ _ _)
        · trivial
      · trivial
    have hB:∀ f:IntKind→Int→Int→Int,(op≠.eql∧op≠.neq)→(∀ (k:IntKind) (n m:Int) (w:World),(binOp op t (.int k n) (.int k m)).run P w= .ok (.int k (f k n m)) w)→tr P (.binOp op t X Y u) s (qE f x y):=by
      intro f he hf
      unfold qE
      split
      · split
        · rename_i hk;subst hk
          exact qH hx hy he (hf _ _ _)
        · trivial
      · trivial
    have h3:∀ neg:Bool,(op=if neg then .neq else .eql)→tr P (.binOp op t X Y u) s (qG neg (aU t) x y):=by
      intro neg hop
      generalize hti:aU t=ti
      revert hti hx hy
      unfold qG
      split<;>intro hx hy hti
      · split
        · rename_i hk;subst hk
          cases neg<;>subst hop
          · exact Fi hx hy fun w=>by simp [binOp,Op.intCmp]
          · exact Fi hx hy fun w=>by simp [binOp,Op.intCmp]
        · trivial
      · cases neg<;>subst hop
        · exact yK hx hy fun w=>by simp [binOp,Op.stringOp]
        · exact yK hx hy fun w=>by simp [binOp,Op.stringOp]
      · obtain ⟨d,z,hu,_,_,_,hk⟩:=hT.ok _ _ hti
        cases hk
        cases neg<;>subst hop
        · exact tH (hu:=hu) hx hy
        · exact tI (hu:=hu) hx hy
      · obtain ⟨d,z,hu,_,_,_,_,hk⟩:=hT.ok _ _ hti
        obtain ⟨f1,f2,k1,k2,rfl,g1,g2,g3⟩:=hk rfl
        cases neg<;>subst hop
        · exact tJ (hu:=hu) (h1:=g1) (h2:=g2) hx hy g3
        · exact tK (hu:=hu) (h1:=g1) (h2:=g2) hx hy g3
      · obtain ⟨d,z,hu,_,_,_,hd,hk⟩:=hT.ok _ _ hti
        obtain ⟨rfl,⟨k,h1⟩,hg,hc,hs⟩:=hk rfl
        subst hd
        cases neg<;>subst hop
        · exact Iz hu h1 hg hc hs hx hy
        · exact IA hu h1 hg hc hs hx hy
      · trivial
    cases op<;>simp only [eX]
    case lss=>exact hK _ ax fun k n m w=>by simp [binOp,Op.intCmp]
    case leq=>exact hK _ ax fun k n m w=>by simp [binOp,Op.intCmp]
    case gtr=>exact hK _ ax fun k n m w=>by simp [binOp,Op.intCmp]
    case geq=>exact hK _ ax fun k n m w=>by simp [binOp,Op.intCmp]
    case and=>exact hB _ ax fun k n m w=>by simp [binOp,intBits_and]
    case or=>exact hB _ ax fun k n m w=>by simp [binOp,intBits_or]
    case xor=>exact hB _ ax fun k n m w=>by simp [binOp,intBits_xor]
    case andNot=>exact hB _ ax fun k n m w=>by simp [binOp,intBits_andNot]
    case add=>exact h2 _ fun n m a b=>fun h=>La a b h.1 h.2
    case sub=>exact h2 _ fun n m a b=>fun h=>Lb a b h.1 h.2
    case mul=>exact h2 _ fun n m a b=>fun h=>Lc a b h.1 h.2
    case quo=>exact h2 _ fun n m a b=>fun h=>K8 a b h.1 h.2
    case rem=>exact h2 _ fun n m a b=>fun h=>K9 a b h
    case eql=>exact h3 false rfl
    case neq=>exact h3 true rfl
    case shl=>
      unfold Kz
      split
      · refine fun h=>qH hx hy ax fun w=>?_
        obtain ⟨⟨h1,h2⟩,h3⟩:=h
        rw [Cd] at h2
        simp [binOp,shift_shl _ _ _ _ h1 h2,yF h3]
      · trivial
    case shr=>
      unfold KA
      split
      · refine fun h=>qH hx hy ax fun w=>?_
        obtain ⟨h1,h2⟩:=h
        rw [Cd] at h2
        simp [binOp,shift_shr _ _ _ _ h1 h2]
      · trivial
  exact key _ _ rfl rfl
theorem Fk {s:St} {x:Operand} {t:TypeId} {id off:Nat} {i:TI} (hti:AT P t i) (hx:s.eval x= .ptr id off):tr P (.load t x) s (MK i off (aW s.hp id)):=by
  obtain ⟨d,z,hu,hi,ha,_,_⟩:=hti
  generalize hb:aW s.hp id=ob
  unfold MK
  split
  · split
    · rename_i h
      exact fun hc=>br (hu:=hu) (hi:=hi) hx (by rw [ha,h]) hb hc
    · rename_i h
      exact fun hc=>bF (hu:=hu) hx (by rw [ha];simpa using h) hb (List.getElem?_eq_getElem hc)
  · trivial
theorem Dw {s:St} {x:Operand} {t:TypeId} {cs:List AV} {i:TI} (hti:AT P t i) (hx:s.eval x= .bx cs):tr P (.load t x) s (ML i cs):=by
  obtain ⟨d,z,hu,hi,ha,_,_⟩:=hti
  unfold ML
  split
  · rename_i h
    exact fun hc=>oS (hu:=hu) (hi:=hi) hx (by rw [ha,h]) hc
  · rename_i h
    exact fun hc=>qI (hu:=hu) hx (by rw [ha];simpa using h) (List.getElem?_eq_getElem hc)
theorem kJ {aU:Nat→Option TI} [hT:Tb P aU] (op:Op) (s:St):tr P op s (mZ aU op s):=by
  unfold mZ
  split
  · exact cR
  · exact cU
  · rename_i c x y
    unfold uh
    split
    · rename_i b _ _ hc
      unfold ea
      split
      · rename_i p q hx hy
        exact Fl hc hx hy
      · exact Ci hc
    · trivial
  · exact Fj
  · rename_i t x
    generalize hx:s.eval x=v
    unfold yG;split
    · exact pP hx
    · trivial
  · rename_i t x
    generalize hx:s.eval x=v
    unfold yH;split
    · exact fun h=>Ld hx h.1 h.2
    · trivial
  · rename_i x i
    generalize hx:s.eval x=v
    unfold my;split
    · unfold Ce;split
      · rename_i h;exact AX hx h
      · trivial
    · trivial
  · rename_i t x
    generalize hx:s.eval x=v
    generalize hti:aU t=ti
    unfold nj;split
    · exact Fk (hT.ok _ _ hti) hx
    · exact Dw (hT.ok _ _ hti) hx
    · trivial
  · rename_i t x f
    generalize hx:s.eval x=v
    generalize hti:aU t=ti
    unfold Fh;split
    · obtain ⟨d,z,hu,_,_,_,hF,_⟩:=hT.ok _ _ hti
      unfold mz;split
      · rename_i o n hf
        split
        · trivial
        · rename_i hn
          split
          · exact bl (hF:=hF) hx hf hn
          · exact bm (hF:=hF) hx hf hn
          · trivial
      · trivial
    · trivial
  · rename_i t x i
    generalize hx:s.eval x=v
    generalize hy:s.eval i=w
    generalize hti:aU t=ti
    unfold wq;split
    · rename_i e n
      obtain ⟨d,z,hu,_,_,_,hk⟩:=hT.ok _ _ hti
      cases hk
      generalize hte:aU e=te
      revert hte hx
      unfold sd;split<;>intro hx hte
      · obtain ⟨d',z',hu',hi',_⟩:=hT.ok _ _ hte
        split
        · rename_i hsz
          subst hsz
          exact fun h=>qJ (hu:=hu) (hi:=hi') hx hy h.1 (List.getElem?_eq_getElem h.2)
        · trivial
      · obtain ⟨d',z',hu',hi',_⟩:=hT.ok _ _ hte
        split
        · rename_i hsz
          subst hsz
          exact fun h=>vU (hu:=hu) (hi:=hi') hx hy h.1 h.2
        · trivial
      · trivial
    · rename_i N e i2 n
      obtain ⟨d,z,hu,_,_,_,hk,_⟩:=hT.ok _ _ hti
      subst hk
      generalize hte:aU e=te
      revert hte hx
      unfold mA;split<;>intro hx hte
      · obtain ⟨d',z',hu',hi',_⟩:=hT.ok _ _ hte
        exact fun h=>vV (hu:=hu) (hi:=hi') hx hy h.1 h.2
      · obtain ⟨d',z',hu',hi',_⟩:=hT.ok _ _ hte
        exact fun h=>um (hu:=hu) (hi:=hi') hx hy h.1 h.2
      · trivial
    · trivial
  · rename_i t ps
    generalize hti:aU t=ti
    unfold oR;split
    · obtain ⟨d,z,hu,hi,_,hz,hF,_⟩:=hT.ok _ _ hti
      simp only at hi hz
      subst hz
      exact fun h=>qL (hF:=hF) (hi:=hi) h
    · obtain ⟨d,z,hu,hi,_,hz,hk,_⟩:=hT.ok _ _ hti
      subst hk
      simp only at hi hz
      subst hz
      split
      · rename_i hte
        obtain ⟨d',z',hu',hi',_⟩:=hT.ok _ _ hte
        exact fun h=>Dx (hu:=hu) (hi:=hi) (he:=hi') h
      · trivial
    · trivial
  · rename_i x
    generalize hx:s.eval x=v
    unfold ui;split
    · exact cu hx
    · exact b8 hx
    · exact b9 hx
    · trivial
  · unfold Du;split
    · split
      · rename_i hf
        exact cD hf
      · trivial
    · trivial
  · rename_i t x lo hi
    have hs:∀ e,vT (aU t)=some e→cJ P t (.slice e):=by
      intro e he
      generalize hti:aU t=ti at he
      unfold vT at he
      split at he
      · obtain ⟨d,z,hu,_,_,_,hk⟩:=hT.ok _ _ hti
        cases hk;injection he with he;subst he;exact hu
      · cases he
    generalize hx:s.eval x=v
    generalize hl:lo.map s.eval=l
    generalize hh:hi.map s.eval=m
    generalize hse:vT (aU t)=se at *
    unfold fc;split
    · have hu:=hs _ rfl
      obtain ⟨l',rfl,hl'⟩:∃ l',lo=some l'∧s.eval l'=_:=by cases lo with|none=>simp at hl|some l'=>exact ⟨l',rfl,by simpa using hl⟩
      obtain rfl:hi=none:=by cases hi with|none=>rfl|some _=>simp at hh
      split
      · rename_i hte
        obtain ⟨d',z',hu',hi',_⟩:=hT.ok _ _ hte
        split
        · rename_i hsz;subst hsz
          exact fun h=>AM (hu:=hu) (hT:=hi') hx hl' h.1 h.2
        · trivial
      · trivial
    · have hu:=hs _ rfl
      obtain ⟨l',rfl,hl'⟩:∃ l',hi=some l'∧s.eval l'=_:=by cases hi with|none=>simp at hh|some l'=>exact ⟨l',rfl,by simpa using hh⟩
      obtain rfl:lo=none:=by cases lo with|none=>rfl|some _=>simp at hl
      split
      · rename_i hte
        obtain ⟨d',z',hu',hi',_⟩:=hT.ok _ _ hte
        split
        · rename_i hsz;subst hsz
          exact fun h=>AN (hu:=hu) (hT:=hi') hx hl' h.1 h.2
        · trivial
      · trivial
    · have hu:=hs _ rfl
      obtain ⟨l',rfl,hl'⟩:∃ l',lo=some l'∧s.eval l'=_:=by cases lo with|none=>simp at hl|some l'=>exact ⟨l',rfl,by simpa using hl⟩
      obtain ⟨h',rfl,hh'⟩:∃ l',hi=some l'∧s.eval l'=_:=by cases hi with|none=>simp at hh|some l'=>exact ⟨l',rfl,by simpa using hh⟩
      split
      · rename_i hte
        obtain ⟨d',z',hu',hi',_⟩:=hT.ok _ _ hte
        split
        · rename_i hsz;subst hsz
          exact fun h=>Dq (hu:=hu) (hT:=hi') hx hl' hh' h.1 h.2.1 h.2.2
        · trivial
      · trivial
    · have hu:=hs _ rfl
      obtain ⟨l',rfl,hl'⟩:∃ l',hi=some l'∧s.eval l'=_:=by cases hi with|none=>simp at hh|some l'=>exact ⟨l',rfl,by simpa using hh⟩
      obtain rfl:lo=none:=by cases lo with|none=>rfl|some _=>simp at hl
      split
      · rename_i hte
        obtain ⟨d',z',hu',hi',_⟩:=hT.ok _ _ hte
        split
        · rename_i hsz;subst hsz
          exact fun h=>yJ (hu:=hu) (hT:=hi') hx hl' h.1 h.2
        · trivial
      · trivial
    · have hu:=hs _ rfl
      obtain ⟨l',rfl,hl'⟩:∃ l',lo=some l'∧s.eval l'=_:=by cases lo with|none=>simp at hl|some l'=>exact ⟨l',rfl,by simpa using hl⟩
      obtain rfl:hi=none:=by cases hi with|none=>rfl|some _=>simp at hh
      split
      · rename_i hte
        obtain ⟨d',z',hu',hi',_⟩:=hT.ok _ _ hte
        split
        · rename_i hsz;subst hsz
          exact fun h=>uk (hu:=hu) (hT:=hi') (H:=none) h.1 hx hl' rfl rfl h.2.1 aj (.inl (Nat.le_refl _)) (.inl (Nat.le_refl _))
        · trivial
      · trivial
    · rename_i e sz bw id off k n m
      have hu:=hs _ rfl
      obtain ⟨l',rfl,hl'⟩:∃ l',lo=some l'∧s.eval l'=_:=by cases lo with|none=>simp at hl|some l'=>exact ⟨l',rfl,by simpa using hl⟩
      obtain ⟨h',rfl,hh'⟩:∃ l',hi=some l'∧s.eval l'=_:=by cases hi with|none=>simp at hh|some l'=>exact ⟨l',rfl,by simpa using hh⟩
      split
      · rename_i hte
        obtain ⟨d',z',hu',hi',_⟩:=hT.ok _ _ hte
        split
        · rename_i hsz;subst hsz
          exact fun h=>uk (hu:=hu) (hT:=hi') (H:=some m) h.1 hx hl' (by simp [hh']) aE h.2.1 aj (.inr h.2.2.2.1) (.inr h.2.2.2.2)
        · trivial
      · trivial
    · trivial
  · rename_i t x lo hi mx
    have hs:∀ e,vT (aU t)=some e→cJ P t (.slice e):=by
      intro e he
      generalize hti:aU t=ti at he
      unfold vT at he
      split at he
      · obtain ⟨d,z,hu,_,_,_,hk⟩:=hT.ok _ _ hti
        cases hk;injection he with he;subst he;exact hu
      · cases he
    generalize hx:s.eval x=v
    generalize hl:lo.map s.eval=l
    generalize hh:hi.map s.eval=m
    generalize hmx:some (s.eval mx)=q
    generalize hse:vT (aU t)=se at *
    unfold fL;split
    · have hu:=hs _ rfl
      obtain ⟨l',rfl,hl'⟩:∃ l',lo=some l'∧s.eval l'=_:=by cases lo with|none=>simp at hl|some l'=>exact ⟨l',rfl,by simpa using hl⟩
      obtain ⟨h',rfl,hh'⟩:∃ l',hi=some l'∧s.eval l'=_:=by cases hi with|none=>simp at hh|some l'=>exact ⟨l',rfl,by simpa using hh⟩
      injection hmx with hmx
      split
      · rename_i hte
        obtain ⟨d',z',hu',hi',_⟩:=hT.ok _ _ hte
        split
        · rename_i hsz;subst hsz
          exact fun h=>AU (hu:=hu) (hT:=hi') hx hl' hh' hmx h.1 h.2.1 h.2.2.1 h.2.2.2
        · trivial
      · trivial
    · trivial
  · rename_i t u x
    generalize hx:s.eval x=v
    generalize hti:aU t=ti
    generalize huj:aU u=uj
    unfold ug;split
    · obtain ⟨d,z,hu,_⟩:=hT.ok _ _ hti
      obtain ⟨d',z',hu',_,_,_,hk⟩:=hT.ok _ _ huj
      cases hk
      exact fun h=>IC hu hu' hx h
    · trivial
  · rename_i t x i
    generalize hx:s.eval x=v
    generalize hy:s.eval i=w
    generalize hti:aU t=ti
    unfold oQ;split
    · obtain ⟨d,z,hu,_,_,_,hk⟩:=hT.ok _ _ hti
      cases hk
      exact fun h=>yL (hu:=hu) hx hy h.1 h.2
    · obtain ⟨d,z,hu,_,_,_,hk,_⟩:=hT.ok _ _ hti
      subst hk
      unfold Cg;split
      · rename_i hte
        obtain ⟨d',z',hu',hi',ha',_⟩:=hT.ok _ _ hte
        exact fun h=>yM (hu:=hu) (hd:=hu') (hi:=hi') hx hy h.1 h.2.1 (List.getElem?_eq_getElem h.2.2) ha'
      · trivial
    · trivial
  · rename_i x t
    generalize hx:s.eval x=v
    generalize hti:aU t=ti
    unfold sN;split
    · obtain ⟨d,z,hu,_,_,_,hk⟩:=hT.ok _ _ hti
      cases hk;exact Lf (hu:=hu) hx
    · obtain ⟨d,z,hu,_,_,_,hk⟩:=hT.ok _ _ hti
      cases hk;exact ID (hu:=hu) hx
    · obtain ⟨d,z,hu,_,_,_,hk⟩:=hT.ok _ _ hti
      cases hk;exact IE (hu:=hu) hx
    · obtain ⟨d,z,hu,_,_,_,hk⟩:=hT.ok _ _ hti
      cases hk;exact Dv (hu:=hu) hx
    · trivial
  · rename_i x y eQ
    generalize hx:s.eval x=v
    generalize hy:s.eval y=w
    unfold pk;split
    · exact Lg hx hy
    · trivial
  · rename_i x y eQ
    generalize hx:s.eval x=v
    generalize hy:s.eval y=w
    unfold pk;split
    · exact Lh hx hy
    · trivial
  · trivial
end Go.Ab
namespace Go.Ab
open Go.RowKit
variable {P:Program}
inductive SR where
  |ok (s:St)
  |ex (c:Prop) [dc:Decidable c] (f:c→St)
  |no
def Nn (P:Program) (op:Op) (d:Option Tmp) (s:St):SR→Prop
  | .ok s'=>∀ (ty:TypeId) (pos:String) (bC:Array Edge) (g:Option (Nat×Bool)) (K:St→Prop),K s'→eR P ⟨d,op,ty,pos,bC,g⟩ s K
  |@SR.ex c _ f=>∀ h:c,∀ (ty:TypeId) (pos:String) (bC:Array Edge) (g:Option (Nat×Bool)) (K:St→Prop),K (f h)→eR P ⟨d,op,ty,pos,bC,g⟩ s K
  | .no=>True
def tv (d:Option Tmp) (s:St):PR→SR
  | .ok x=>.ok (s.put d x)
  |@PR.ex c _ f=>.ex c fun h=>s.put d (f h)
  | .no=>.no
def KB:AV→Bool
  | .agg _=>true
  |x=>x.one
theorem qM {x:AV} (h:KB x=true):x.one=true∨∃ cs,x= .agg cs:=by
  cases x<;>first|exact .inr ⟨_,rfl⟩|exact .inl h
def On (i:TI) (s:St) (id off:Nat) (x:AV):Option fZ→SR
  |some ⟨T,cs,fl⟩=>.ex ((KB x&&iz x.cells)=true∧x.cells.length=i.n∧off+i.n≤cs.length) fun _=>⟨s.fr,cK s.hp id ⟨T,fE cs off x.cells,fl⟩⟩
  |none=>.no
def xu (s:St) (x:AV):Option Tmp→Option TI→AV→SR
  |none,some i,.ptr id off=>On i s id off x (aW s.hp id)
  |_,_,_=>.no
def xv (s:St) (e:Nat):Option Tmp→Option TI→SR
  |some k,some i=>.ex (s.free k=true) fun _=>⟨s.fr.set k (.ptr k 0),cK s.hp k ⟨e,i.z,true⟩⟩
  |_,_=>.no
def IF (s:St) (e:Nat) (x:AV):Option Tmp→SR
  |some k=>.ex ((s.free k&&KB x&&!AV.bz k x.cells)=true) fun _=>⟨s.fr.set k (.ptr k 0),cK s.hp k ⟨e,x.cells,true⟩⟩
  |none=>.no
def Li (len m bw:Nat) (ps:List (Nat×AV)):Bool:=
  decide (0 < len * m)&&decide (len * m≤16777216)&&decide (len * bw≤140737488355328)&&pw 0 ps&&ps.length == len&&eb (fun i=>some (i * m,m)) (len * m) ps&&AV.cj (ps.map (·.2))
def Np (s:St) (e len:Nat) (ps:List (Nat×AV)):Option Tmp→Option TI→SR
  |some k,some i=>match len with
    |0=>match ps with
      |[]=>.ex (s.free k=true) fun _=>⟨s.fr.set k (.sl i.n i.b k 0 0),cK s.hp k ⟨e,[],true⟩⟩
      |_=>.no
    |n+1=>.ex (Li (n+1) i.n i.b ps=true) fun _=>s.put (some k) (.cr i.n i.b (ps.map (·.2)))
  |_,_=>.no
def IG (aU:Nat→Option TI) (s:St) (len:Nat) (ps:List (Nat×AV)) (d:Option Tmp):Option Nat→SR
  |some e=>Np s e len ps d (aU e)
  |none=>.no
def lU (aU:Nat→Option TI) (op:Op) (d:Option Tmp) (s:St):SR:=
  match op with
  | .store t p x=>xu s (s.eval x) d (aU t) (s.eval p)
  | .alloc e=>xv s e d (aU e)
  | .box e x=>IF s e (s.eval x) d
  | .buildSlice t len ps=>IG aU s len (bJ s ps) d (vT (aU t))
  |op=>tv d s (mZ aU op s)
theorem Nq {op:Op} {d:Option Tmp} {s:St} {r:PR} (h:tr P op s r):Nn P op d s (tv d s r):=by
  cases r with
  |ok x=>exact fun ty pos bC g K hk=>bK h hk
  |ex c f=>exact fun hc ty pos bC g K hk=>bK (h hc) hk
  |no=>trivial
theorem Fm {aU:Nat→Option TI} [hT:Tb P aU] (op:Op) (d:Option Tmp) (s:St):Nn P op d s (lU aU op d s):=by
  unfold lU
  split
  · rename_i t p x
    generalize hp:s.eval p=v
    generalize hti:aU t=ti
    generalize hv:s.eval x=y
    revert hti hp
    unfold xu;split<;>intro hp hti
    · rename_i i id off
      obtain ⟨d,z,hu,hi,_⟩:=hT.ok _ _ hti
      generalize hb:aW s.hp id=ob
      unfold On;split
      · intro h ty pos bC g K hk
        subst hv
        obtain ⟨h1,h2,h3⟩:=h
        simp only [Bool.and_eq_true] at h1
        exact sg (hi:=hi) hp hb h1.2 (qM h1.1) h2 h3 hk
      · trivial
    · trivial
  · rename_i e
    generalize hti:aU e=ti
    revert hti
    unfold xv;split<;>intro hti
    · intro h ty pos bC g K hk
      obtain ⟨d,z,hu,hi,_,hz,_⟩:=hT.ok _ _ hti
      simp only [← hz] at hk
      exact mB (hi:=hi) _ h hk
    · trivial
  · rename_i e x
    unfold IF;split
    · intro h ty pos bC g K hk
      simp only [Bool.and_eq_true,Bool.not_eq_true'] at h
      exact ke _ h.1.1 (qM h.1.2) h.2 hk
    · trivial
  · rename_i t len ps
    generalize hse:vT (aU t)=se
    have hs:∀ e,se=some e→cJ P t (.slice e):=by
      intro e he
      subst hse
      generalize hti:aU t=ti at he
      unfold vT at he
      split at he
      · obtain ⟨d,z,hu,_,_,_,hk⟩:=hT.ok _ _ hti
        cases hk;injection he with he;subst he;exact hu
      · cases he
    unfold IG;split
    · rename_i e
      have hu:=hs _ rfl
      generalize hte:aU e=te
      revert hte
      unfold Np;split<;>intro hte
      · obtain ⟨d',z',hu',hi',_⟩:=hT.ok _ _ hte
        split
        · split
          · rename_i hps
            intro h ty pos bC g K hk
            have:ps=#[]:=by
              unfold bJ at hps
              simpa using hps
            subst this
            exact tq (hu:=hu) (hi:=hi') _ h hk
          · trivial
        · intro h ty pos bC g K hk
          simp only [Li,Bool.and_eq_true,beq_iff_eq] at h
          obtain ⟨⟨⟨⟨⟨⟨h1,h2⟩,h3⟩,h4⟩,h5⟩,h6⟩,h7⟩:=h
          exact uo (hu:=hu) (hi:=hi') ⟨h1,h2,h3⟩ h4 h5 h6 h7 hk
      · trivial
    · trivial
  · exact Nq (kJ _ _)
inductive GT where
  |run
  |skip
  |no
def px:AV→Bool→GT
  | .v (.bool true),true=>.run
  | .v (.bool false),false=>.run
  | .v (.bool true),false=>.skip
  | .v (.bool false),true=>.skip
  | .v (.tuple ⟨[]⟩),_=>.skip
  |_,_=>.no
theorem qN {x:AV} {b:Bool} (h:px x b= .run):x= .bool b:=by
  unfold px at h;split at h<;>first|rfl|cases h
theorem og {x:AV} {b:Bool} (h:px x b= .skip):x= .bool (!b)∨x= .v undef:=by
  unfold px at h;split at h<;>first|exact .inl rfl|exact .inr rfl|cases h
def pn (all:Array Oper) (j:Nat) (s:St):AV:=match (all[j]?).bind (·.dst) with
  |some t=>s.fr.getD t .any
  |none=>.any
theorem ee {all:Array Oper} {j:Nat} {s:St} {u:Value} (h:pn all j s= .v u):∃ t,(all[j]?).bind (·.dst)=some t∧s.fr[t]?=some (.v u):=by
  unfold pn at h
  split at h
  · rename_i t ht
    refine ⟨t,ht,?_⟩
    rw [List.getD_eq_getElem?_getD] at h
    cases hq:s.fr[t]? with
    |none=>rw [hq] at h;cases h
    |some x=>rw [hq] at h;simp at h;rw [h]
  · cases h
def eI (P:Program) (all:Array Oper) (o:Oper) (rest:List Oper) (s:St) (K:St→Prop):Prop:=∀ K':St→Prop,(∀ s',ef P all rest s' K→K' s')→eR P o s K'
def fM (P:Program) (all:Array Oper) (rest:List Oper) (s:St) (K:St→Prop):Prop:=ef P all rest s K
mutual
def dE (P:Program) (aU:Nat→Option TI) (all:Array Oper) (K:St→Prop):List Oper→St→Prop
  |[],s=>K s
  |⟨d,op,ty,pos,bC,none⟩::r,s=>match lU aU op d s with
    | .ok s'=>dE P aU all K r s'
    |@SR.ex c _ f=>∃ h:c,dE P aU all K r (f h)
    | .no=>eI P all ⟨d,op,ty,pos,bC,none⟩ r s K
  |⟨d,op,ty,pos,bC,some (j,b)⟩::r,s=>match px (pn all j s) b with
    | .run=>match lU aU op d s with
      | .ok s'=>dE P aU all K r s'
      |@SR.ex c _ f=>∃ h:c,dE P aU all K r (f h)
      | .no=>eI P all ⟨d,op,ty,pos,bC,none⟩ r s K
    | .skip=>dE P aU all K r (s.put d (.v undef))
    | .no=>fM P all (⟨d,op,ty,pos,bC,some (j,b)⟩::r) s K
end
def Im (P:Program) (aU:Nat→Option TI) (all:Array Oper) (K:St→Prop) (o:Oper) (r:List Oper) (s:St):SR→Prop
  | .ok s'=>dE P aU all K r s'
  |@SR.ex c _ f=>∃ h:c,dE P aU all K r (f h)
  | .no=>eI P all o r s K
def mC (P:Program) (aU:Nat→Option TI) (all:Array Oper) (K:St→Prop) (o:Oper) (r:List Oper) (s:St):GT→Prop
  | .run=>Im P aU all K {o with guard:=none} r s (lU aU o.op o.dst s)
  | .skip=>dE P aU all K r (s.put o.dst (.v undef))
  | .no=>fM P all (o::r) s K
theorem ij {aU:Nat→Option TI} {all:Array Oper} {K:St→Prop} {d:Option Tmp} {op:Op} {ty:TypeId} {pos:String} {bC:Array Edge} {r:List Oper} {s:St} :
    dE P aU all K (⟨d,op,ty,pos,bC,none⟩::r) s=Im P aU all K ⟨d,op,ty,pos,bC,none⟩ r s (lU aU op d s):=by
  rw [dE];unfold Im;rfl
theorem gj {aU:Nat→Option TI} {all:Array Oper} {K:St→Prop} {d:Option Tmp} {op:Op} {ty:TypeId} {pos:String} {bC:Array Edge} {r:List Oper} {s:St} {j:Nat} {b:Bool} :
    dE P aU all K (⟨d,op,ty,pos,bC,some (j,b)⟩::r) s=mC P aU all K ⟨d,op,ty,pos,bC,some (j,b)⟩ r s (px (pn all j s) b):=by
  rw [dE];unfold mC Im;rfl
theorem Dy {aU:Nat→Option TI} {all:Array Oper} {K:St→Prop} {o:Oper} {r:List Oper} {s:St} {c b:Bool}
    (h1:c=true→mC P aU all K o r s (px (.bool c) b)) (h2:c=false→mC P aU all K o r s (px (.bool c) b)):mC P aU all K o r s (px (.bool c) b):=by
  cases c
  · exact h2 rfl
  · exact h1 rfl
theorem Fo {aU:Nat→Option TI} [hT:Tb P aU] {all:Array Oper} {K:St→Prop} {d:Option Tmp} {op:Op} {ty:TypeId} {pos:String} {bC:Array Edge} {r:List Oper} {s:St}
    (ih:∀ s,dE P aU all K r s→ef P all r s K) (h:Im P aU all K ⟨d,op,ty,pos,bC,none⟩ r s (lU aU op d s)):eI P all ⟨d,op,ty,pos,bC,none⟩ r s K:=by
  have hs:=Fm (P:=P) (aU:=aU) op d s
  generalize lU aU op d s=q at h hs
  cases q with
  |ok s'=>exact fun K' hK'=>hs _ _ _ _ _ (hK' _ (ih _ h))
  |ex c f=>obtain ⟨hc,h⟩:=h;exact fun K' hK'=>hs hc _ _ _ _ _ (hK' _ (ih _ h))
  |no=>exact h
theorem qO {aU:Nat→Option TI} [hT:Tb P aU] {all:Array Oper} {K:St→Prop}:∀ (r:List Oper) (s:St),dE P aU all K r s→ef P all r s K
  |[],s,h=>jQ (by rw [dE] at h;exact h)
  |⟨d,op,ty,pos,bC,none⟩::r,s,h=>by
    rw [ij] at h
    exact cp rfl (Fo (qO r) h)
  |⟨d,op,ty,pos,bC,some (j,b)⟩::r,s,h=>by
    rw [gj] at h
    generalize hg:px (pn all j s) b=g at h
    cases g with
    |run=>
      obtain ⟨t,h1,h2⟩:=ee (qN hg)
      have h:=Fo (qO r) h
      exact uq rfl h1 h2 (fun _ K' hK'=>eR.IH (h K' hK')) (fun h=>absurd rfl h)
    |skip=>
      rcases og hg with hx|hx
      · obtain ⟨t,h1,h2⟩:=ee hx
        exact uq rfl h1 h2 (fun h=>by cases b<;>cases h) (fun _=>qO r _ h)
      · obtain ⟨t,h1,h2⟩:=ee hx
        exact xw rfl h1 h2 (qO r _ h)
    |no=>exact h
theorem Cj {aU:Nat→Option TI} [hT:Tb P aU] {all:Array Oper} {K:St→Prop} {r:List Oper} {s:St} (h:dE P aU all K r s):ef P all r s K:=qO r s h
theorem Fp {aU:Nat→Option TI} [hT:Tb P aU] {all:Array Oper} {K:St→Prop} {r:List Oper} {s:St} {d:Option Tmp} {f:FuncId} {args:Array Operand} {eQ:Array TypeId} {ty:TypeId} {pos:String} {bC:Array Edge} {x:AV} [hc:cS P f]
    (h:bg P f (cn s args) (fun y=>y=x)) (hp:AV.cj (cn s args)=true) (hk:dE P aU all K r (s.put d x)):eI P all ⟨d,.call {callee:=.value (.func f),args,argTypes:=eQ},ty,pos,bC,none⟩ r s K:=
  fun K' hK'=>cH h hp fun y hy=>by subst hy;exact hK' _ (Cj hk)
theorem bn {aU:Nat→Option TI} [hT:Tb P aU] {all:Array Oper} {K:St→Prop} {r:List Oper} {s:St} {o:Oper} (h:∀ K':St→Prop,(∀ s',dE P aU all K r s'→K' s')→eR P o s K'):eI P all o r s K:=
  fun K' hK'=>h K' fun s' hs=>hK' s' (Cj hs)
theorem Lj {aU:Nat→Option TI} [hT:Tb P aU] {id:Nat} {l:List Oper} {s:St} {Q:Exit→St→Prop} (h:dE P aU l.toArray (Q .normal) l s) (hd:hJ l=true:=by rfl):AW P (.region id l.toArray false) s Q:=dG (Cj h) hd
def KC (ops:Array Oper) (hs:List Nat) (l:Array Bool) (i:Nat):Bool:=Region.noSelect ops&&(Region.ready .any ops l).contains i&&Region.free .any ops l i&&hs.contains i
inductive Sc where
  |nil
  |it (i m:Nat) (r:Sc)
  |fk (i j:Nat) (a b:Sc)
  |yN (i j k:Nat) (a b c:Sc)
  |oh (i m j n:Nat) (a b:Sc)
  |Ck (i m j n k p:Nat) (a b c:Sc)
def force:List Bool→(List Bool→Bool)→Bool
  |[],k=>k []
  |true::r,k=>force r (fun q=>k (true::q))
  |false::r,k=>force r (fun q=>k (false::q))
theorem force_eq:∀ (l:List Bool) (k:List Bool→Bool),force l k=k l
  |[],k=>rfl
  |true::r,k=>force_eq r _
  |false::r,k=>force_eq r _
def Dz (l:Array Bool) (i:Nat) (k:Array Bool→Bool):Bool:=force (l.setIfInBounds i true).toList fun q=>k q.toArray
theorem lV (l:Array Bool) (i:Nat) (k:Array Bool→Bool):Dz l i k=k (l.setIfInBounds i true):=by rw [Dz,force_eq]
def dh (ops:Array Oper) (hs:List Nat):Sc→Array Bool→Nat→Bool
  | .nil,l,_=>Region.ready .any ops l == []
  | .fk i j a b,l,f+1=>Region.ready .any ops l == [i,j]&&Dz l i (fun l=>dh ops hs a l f)&&Dz l j (fun l=>dh ops hs b l f)
  | .yN i j k a b c,l,f+1=>Region.ready .any ops l == [i,j,k]&&Dz l i (fun l=>dh ops hs a l f)&&Dz l j (fun l=>dh ops hs b l f)&&Dz l k (fun l=>dh ops hs c l f)
  | .oh i m j n a b,l,f+1=>Region.ready .any ops l == [i,j]&&(m == 1|| !early ops hs i)&&(n == 1|| !early ops hs j)&&Dz l i (fun l=>dh ops hs a l f)&&Dz l j (fun l=>dh ops hs b l f)
  | .Ck i m j n k p a b c,l,f+1=>Region.ready .any ops l == [i,j,k]&&(m == 1|| !early ops hs i)&&(n == 1|| !early ops hs j)&&(p == 1|| !early ops hs k)&&Dz l i (fun l=>dh ops hs a l f)&&Dz l j (fun l=>dh ops hs b l f)&&Dz l k (fun l=>dh ops hs c l f)
  | .it i m r,l,f+1=>(match m with
    |0=>KC ops hs l i
    |1=>Region.ready .any ops l == [i]
    |2=>KC ops hs l i&&Region.ready .any ops l == [i]
    |_=>Region.ready .any ops l == [i]&&!early ops hs i)&&Dz l i (fun l=>dh ops hs r l f)
  | .fk _ _ _ _,_,0=>false
  | .yN _ _ _ _ _ _,_,0=>false
  | .oh _ _ _ _ _ _,_,0=>false
  | .Ck _ _ _ _ _ _ _ _ _,_,0=>false
  | .it _ _ _,_,0=>false
def mg (P:Program) (ops:Array Oper) (hs:List Nat) (sc:Sc) (s:St) (K:St→Prop):Prop:=∀ l f,dh ops hs sc l f=true→dg P ops hs f l s K
def gV (P:Program) (ops:Array Oper) (hs:List Nat) (o:Oper) (sc:Sc) (s:St) (K:St→Prop):Prop:=∀ K':St→Prop,(∀ s',mg P ops hs sc s' K→K' s')→dz P o s K'
def kf (P:Program) (ops:Array Oper) (hs:List Nat) (o:Oper) (sc:Sc) (s:St) (K:St→Prop):Prop:=∀ K':St→Prop,(∀ s',mg P ops hs sc s' K→K' s')→eR P o s K'
def nk (P:Program) (ops:Array Oper) (hs:List Nat) (m:Nat) (o:Oper) (sc:Sc) (s:St) (K:St→Prop):Prop:=match m with
  |1=>gV P ops hs o sc s K
  |_=>kf P ops hs o sc s K
def iu:Prop:=False
mutual
def fh (P:Program) (aU:Nat→Option TI) (ops:Array Oper) (hs:List Nat) (K:St→Prop):Sc→St→Prop
  | .nil,s=>K s
  | .fk i j a b,s=>match ops[i]?,ops[j]? with
    |some ⟨d,op,ty,pos,bC,none⟩,some ⟨d',op',ty',pos',aft',none⟩=>gV P ops hs ⟨d,op,ty,pos,bC,none⟩ a s K∧gV P ops hs ⟨d',op',ty',pos',aft',none⟩ b s K
    |_,_=>iu
  | .yN i j k a b c,s=>match ops[i]?,ops[j]?,ops[k]? with
    |some ⟨d,op,ty,pos,bC,none⟩,some ⟨d',op',ty',pos',aft',none⟩,some ⟨d2,op2,ty2,pos2,aft2,none⟩=>gV P ops hs ⟨d,op,ty,pos,bC,none⟩ a s K∧gV P ops hs ⟨d',op',ty',pos',aft',none⟩ b s K∧gV P ops hs ⟨d2,op2,ty2,pos2,aft2,none⟩ c s K
    |_,_,_=>iu
  | .oh i m j n a b,s=>match ops[i]?,ops[j]? with
    |some ⟨d,op,ty,pos,bC,none⟩,some ⟨d',op',ty',pos',aft',none⟩=>nk P ops hs m ⟨d,op,ty,pos,bC,none⟩ a s K∧nk P ops hs n ⟨d',op',ty',pos',aft',none⟩ b s K
    |_,_=>iu
  | .Ck i m j n k p a b c,s=>match ops[i]?,ops[j]?,ops[k]? with
    |some ⟨d,op,ty,pos,bC,none⟩,some ⟨d',op',ty',pos',aft',none⟩,some ⟨d2,op2,ty2,pos2,aft2,none⟩=>nk P ops hs m ⟨d,op,ty,pos,bC,none⟩ a s K∧nk P ops hs n ⟨d',op',ty',pos',aft',none⟩ b s K∧nk P ops hs p ⟨d2,op2,ty2,pos2,aft2,none⟩ c s K
    |_,_,_=>iu
  | .it i m r,s=>match ops[i]? with
    |none=>iu
    |some ⟨d,op,ty,pos,bC,none⟩=>match m with
      |0=>match mZ aU op s with
        | .ok x=>fh P aU ops hs K r (s.put d x)
        |@PR.ex c _ f=>∃ h:c,fh P aU ops hs K r (s.put d (f h))
        | .no=>iu
      |1=>gV P ops hs ⟨d,op,ty,pos,bC,none⟩ r s K
      |2=>iu
      |_=>kf P ops hs ⟨d,op,ty,pos,bC,none⟩ r s K
    |some ⟨d,op,ty,pos,bC,some (j,b)⟩=>match px (pn ops j s) b with
      | .no=>iu
      | .skip=>match m with
        |0=>fh P aU ops hs K r (s.put d (.v undef))
        |2=>fh P aU ops hs K r (s.put d (.v undef))
        |_=>iu
      | .run=>match m with
        |0=>match mZ aU op s with
          | .ok x=>fh P aU ops hs K r (s.put d x)
          |@PR.ex c _ f=>∃ h:c,fh P aU ops hs K r (s.put d (f h))
          | .no=>iu
        |2=>gV P ops hs ⟨d,op,ty,pos,bC,none⟩ r s K
        |_=>iu
end
def Io (P:Program) (aU:Nat→Option TI) (ops:Array Oper) (hs:List Nat) (K:St→Prop) (d:Option Tmp) (r:Sc) (s:St):PR→Prop
  | .ok x=>fh P aU ops hs K r (s.put d x)
  |@PR.ex c _ f=>∃ h:c,fh P aU ops hs K r (s.put d (f h))
  | .no=>iu
def lW (P:Program) (aU:Nat→Option TI) (ops:Array Oper) (hs:List Nat) (K:St→Prop) (m:Nat) (o:Oper) (r:Sc) (s:St):GT→Prop
  | .no=>iu
  | .skip=>match m with
    |0=>fh P aU ops hs K r (s.put o.dst (.v undef))
    |2=>fh P aU ops hs K r (s.put o.dst (.v undef))
    |_=>iu
  | .run=>match m with
    |0=>Io P aU ops hs K o.dst r s (mZ aU o.op s)
    |2=>gV P ops hs {o with guard:=none} r s K
    |_=>iu
def KD (P:Program) (aU:Nat→Option TI) (ops:Array Oper) (hs:List Nat) (K:St→Prop) (m:Nat) (r:Sc) (s:St):Option Oper→Prop
  |none=>iu
  |some ⟨d,op,ty,pos,bC,none⟩=>match m with
    |0=>Io P aU ops hs K d r s (mZ aU op s)
    |1=>gV P ops hs ⟨d,op,ty,pos,bC,none⟩ r s K
    |2=>iu
    |_=>kf P ops hs ⟨d,op,ty,pos,bC,none⟩ r s K
  |some ⟨d,op,ty,pos,bC,some (j,b)⟩=>lW P aU ops hs K m ⟨d,op,ty,pos,bC,some (j,b)⟩ r s (px (pn ops j s) b)
theorem jd {aU:Nat→Option TI} {ops:Array Oper} {hs:List Nat} {K:St→Prop} {i m:Nat} {r:Sc} {s:St}:fh P aU ops hs K (.it i m r) s=KD P aU ops hs K m r s ops[i]?:=by
  rw [fh];unfold KD lW Io;rfl
theorem DC {aU:Nat→Option TI} {ops:Array Oper} {hs:List Nat} {K:St→Prop} {m:Nat} {o:Oper} {r:Sc} {s:St} {c b:Bool}
    (h1:c=true→lW P aU ops hs K m o r s (px (.bool c) b)) (h2:c=false→lW P aU ops hs K m o r s (px (.bool c) b)):lW P aU ops hs K m o r s (px (.bool c) b):=by
  cases c
  · exact h2 rfl
  · exact h1 rfl
theorem DD {ops:Array Oper} {hs:List Nat} {f:Nat} {listed:Array Bool} {s:St} {K:St→Prop} {d d':Option Tmp} {op op':Op} {ty ty':TypeId} {pos pos':String} {bC aft':Array Edge} (i i':Nat) (hi:ops[i]?=some ⟨d,op,ty,pos,bC,none⟩) (hi':ops[i']?=some ⟨d',op',ty',pos',aft',none⟩) (hr:Region.ready .any ops listed=[i,i'])
    (h:∀ K':St→Prop,(∀ s',dg P ops hs f (listed.setIfInBounds i true) s' K→K' s')→dz P ⟨d,op,ty,pos,bC,none⟩ s K')
    (h':∀ K':St→Prop,(∀ s',dg P ops hs f (listed.setIfInBounds i' true) s' K→K' s')→dz P ⟨d',op',ty',pos',aft',none⟩ s K'):dg P ops hs (f+1) listed s K:=by
  intro R β G a w hrep hcl
  refine ⟨fun h=>(by rw [hr] at h;cases h),fun j hj=>?_⟩
  have hmem:=hj
  rw [hr] at hj
  simp only [List.mem_cons,List.not_mem_nil,or_false] at hj
  unfold wpOp
  rcases hj with rfl|rfl
  · simp only [hi]
    rw [if_pos (by simp [Region.wanted])]
    exact .inl (Oper.wp_mono (fun a' w' ⟨hx,β',G',s',hs',hr'⟩=>⟨fun _=>hx,hs' R β' G' a' w' hr' (hcl.set hmem)⟩) (h _ (fun _ h=>h) R β G a w _ hrep))
  · simp only [hi']
    rw [if_pos (by simp [Region.wanted])]
    exact .inl (Oper.wp_mono (fun a' w' ⟨hx,β',G',s',hs',hr'⟩=>⟨fun _=>hx,hs' R β' G' a' w' hr' (hcl.set hmem)⟩) (h' _ (fun _ h=>h) R β G a w _ hrep))
def sh (P:Program) (ops:Array Oper) (hs:List Nat) (f:Nat) (listed:Array Bool) (i:Nat) (s:St) (K:St→Prop):Prop:=
  ∀ R β G a w,eE R β G s a w→Closed ops listed→i∈Region.ready .any ops listed→wpOp P ops (QN R K) i (fun a' w'=>(early ops hs i=true→Ext w w')∧DE P ops (QN R K) hs f (listed.setIfInBounds i true) a' w') a w
theorem Fq {ops:Array Oper} {hs:List Nat} {f:Nat} {listed:Array Bool} {s:St} {K:St→Prop} {d:Option Tmp} {op:Op} {ty:TypeId} {pos:String} {bC:Array Edge} {i:Nat} (hi:ops[i]?=some ⟨d,op,ty,pos,bC,none⟩)
    (h:∀ K':St→Prop,(∀ s',dg P ops hs f (listed.setIfInBounds i true) s' K→K' s')→dz P ⟨d,op,ty,pos,bC,none⟩ s K'):sh P ops hs f listed i s K:=by
  intro R β G a w hrep hcl hmem
  unfold wpOp
  simp only [hi]
  rw [if_pos (by simp [Region.wanted])]
  exact .inl (Oper.wp_mono (fun a' w' ⟨hx,β',G',s',hs',hr'⟩=>⟨fun _=>hx,hs' R β' G' a' w' hr' (hcl.set hmem)⟩) (h _ (fun _ h=>h) R β G a w _ hrep))
theorem xx {ops:Array Oper} {hs:List Nat} {f:Nat} {listed:Array Bool} {s:St} {K:St→Prop} {d:Option Tmp} {op:Op} {ty:TypeId} {pos:String} {bC:Array Edge} {i:Nat} (hi:ops[i]?=some ⟨d,op,ty,pos,bC,none⟩) (he:early ops hs i=false)
    (h:∀ K':St→Prop,(∀ s',dg P ops hs f (listed.setIfInBounds i true) s' K→K' s')→eR P ⟨d,op,ty,pos,bC,none⟩ s K'):sh P ops hs f listed i s K:=by
  intro R β G a w hrep hcl hmem
  unfold wpOp
  simp only [hi]
  rw [if_pos (by simp [Region.wanted])]
  exact .inl (Oper.wp_mono (fun a' w' ⟨β',G',s',hs',hr'⟩=>⟨fun h=>(by rw [he] at h;cases h),hs' R β' G' a' w' hr' (hcl.set hmem)⟩) (h _ (fun _ h=>h) R β G a w _ hrep))
theorem AY {ops:Array Oper} {hs:List Nat} {f:Nat} {listed:Array Bool} {s:St} {K:St→Prop} {i j:Nat} (hr:Region.ready .any ops listed=[i,j]) (h:sh P ops hs f listed i s K) (h':sh P ops hs f listed j s K):dg P ops hs (f+1) listed s K:=by
  intro R β G a w hrep hcl
  refine ⟨fun h=>(by rw [hr] at h;cases h),fun k hk=>?_⟩
  have hmem:=hk
  rw [hr] at hk
  simp only [List.mem_cons,List.not_mem_nil,or_false] at hk
  rcases hk with rfl|rfl
  · exact h R β G a w hrep hcl hmem
  · exact h' R β G a w hrep hcl hmem
theorem AZ {ops:Array Oper} {hs:List Nat} {f:Nat} {listed:Array Bool} {s:St} {K:St→Prop} {i j q:Nat} (hr:Region.ready .any ops listed=[i,j,q]) (h:sh P ops hs f listed i s K) (h':sh P ops hs f listed j s K) (h2:sh P ops hs f listed q s K):dg P ops hs (f+1) listed s K:=by
  intro R β G a w hrep hcl
  refine ⟨fun h=>(by rw [hr] at h;cases h),fun k hk=>?_⟩
  have hmem:=hk
  rw [hr] at hk
  simp only [List.mem_cons,List.not_mem_nil,or_false] at hk
  rcases hk with rfl|rfl|rfl
  · exact h R β G a w hrep hcl hmem
  · exact h' R β G a w hrep hcl hmem
  · exact h2 R β G a w hrep hcl hmem
theorem ur {ops:Array Oper} {hs:List Nat} {f:Nat} {listed:Array Bool} {s:St} {K:St→Prop} {d:Option Tmp} {op:Op} {ty:TypeId} {pos:String} {bC:Array Edge} {i m:Nat} {sc:Sc} (hi:ops[i]?=some ⟨d,op,ty,pos,bC,none⟩) (hm:(m == 1|| !early ops hs i)=true)
    (hsc:dh ops hs sc (listed.setIfInBounds i true) f=true) (h:nk P ops hs m ⟨d,op,ty,pos,bC,none⟩ sc s K):sh P ops hs f listed i s K:=by
  unfold nk at h
  split at h
  · exact Fq hi fun K' hK'=>h K' fun s' hs'=>hK' _ (hs' _ _ hsc)
  · rename_i hne
    have he:early ops hs i=false:=by
      rw [Bool.or_eq_true] at hm
      rcases hm with h1|h1
      · exact absurd (by simpa using h1) hne
      · simpa using h1
    exact xx hi he fun K' hK'=>h K' fun s' hs'=>hK' _ (hs' _ _ hsc)
theorem yO {ops:Array Oper} {hs:List Nat} {f:Nat} {listed:Array Bool} {s:St} {K:St→Prop} {d d' d2:Option Tmp} {op op' op2:Op} {ty ty' ty2:TypeId} {pos pos' pos2:String} {bC aft' aft2:Array Edge} (i i' i2:Nat) (hi:ops[i]?=some ⟨d,op,ty,pos,bC,none⟩) (hi':ops[i']?=some ⟨d',op',ty',pos',aft',none⟩) (hi2:ops[i2]?=some ⟨d2,op2,ty2,pos2,aft2,none⟩) (hr:Region.ready .any ops listed=[i,i',i2])
    (h:∀ K':St→Prop,(∀ s',dg P ops hs f (listed.setIfInBounds i true) s' K→K' s')→dz P ⟨d,op,ty,pos,bC,none⟩ s K')
    (h':∀ K':St→Prop,(∀ s',dg P ops hs f (listed.setIfInBounds i' true) s' K→K' s')→dz P ⟨d',op',ty',pos',aft',none⟩ s K')
    (h2:∀ K':St→Prop,(∀ s',dg P ops hs f (listed.setIfInBounds i2 true) s' K→K' s')→dz P ⟨d2,op2,ty2,pos2,aft2,none⟩ s K'):dg P ops hs (f+1) listed s K:=by
  intro R β G a w hrep hcl
  refine ⟨fun h=>(by rw [hr] at h;cases h),fun j hj=>?_⟩
  have hmem:=hj
  rw [hr] at hj
  simp only [List.mem_cons,List.not_mem_nil,or_false] at hj
  unfold wpOp
  rcases hj with rfl|rfl|rfl
  · simp only [hi]
    rw [if_pos (by simp [Region.wanted])]
    exact .inl (Oper.wp_mono (fun a' w' ⟨hx,β',G',s',hs',hr'⟩=>⟨fun _=>hx,hs' R β' G' a' w' hr' (hcl.set hmem)⟩) (h _ (fun _ h=>h) R β G a w _ hrep))
  · simp only [hi']
    rw [if_pos (by simp [Region.wanted])]
    exact .inl (Oper.wp_mono (fun a' w' ⟨hx,β',G',s',hs',hr'⟩=>⟨fun _=>hx,hs' R β' G' a' w' hr' (hcl.set hmem)⟩) (h' _ (fun _ h=>h) R β G a w _ hrep))
  · simp only [hi2]
    rw [if_pos (by simp [Region.wanted])]
    exact .inl (Oper.wp_mono (fun a' w' ⟨hx,β',G',s',hs',hr'⟩=>⟨fun _=>hx,hs' R β' G' a' w' hr' (hcl.set hmem)⟩) (h2 _ (fun _ h=>h) R β G a w _ hrep))
theorem eu {d:Option Tmp} {op:Op} {ty:TypeId} {pos:String} {bC:Array Edge} {g:Option (Nat×Bool)} {s:St} {x:AV} {K:St→Prop}
    (h:PV P op s x) (hk:K (s.put d x)):dz P ⟨d,op,ty,pos,bC,g⟩ s K:=by
  intro R β G a w Q hr
  obtain ⟨y,hy,hrun⟩:=h R β G a w hr
  unfold Oper.wp
  rw [hrun w d ty pos bC g (Below.refl _ _),Oper.upon_value]
  exact ⟨Below.refl _ _,β,G,_,hk,hr.put d hy⟩
theorem A0 {aU:Nat→Option TI} [hT:Tb P aU] {ops:Array Oper} {hs:List Nat} {K:St→Prop} {d:Option Tmp} {op:Op} {r:Sc} {s:St} (h:Io P aU ops hs K d r s (mZ aU op s)) :
    ∃ x,PV P op s x∧fh P aU ops hs K r (s.put d x):=by
  have hs:=kJ (P:=P) (aU:=aU) op s
  generalize mZ aU op s=q at h hs
  cases q with
  |ok x=>exact ⟨x,hs,h⟩
  |ex c f=>obtain ⟨hc,h⟩:=h;exact ⟨_,hs hc,h⟩
  |no=>exact h.elim
theorem np {aU:Nat→Option TI} [hT:Tb P aU] {ops:Array Oper} {hs:List Nat} {K:St→Prop}:∀ (sc:Sc) (s:St),fh P aU ops hs K sc s→mg P ops hs sc s K
  | .nil,s,h,l,f,hok=>by
    rw [fh] at h
    exact om (by simpa [dh] using hok) h
  | .fk i j a b,s,h,l,0,hok=>by simp [dh] at hok
  | .fk i j a b,s,h,l,f+1,hok=>by
    rw [fh] at h
    simp only [dh,lV,Bool.and_eq_true,beq_iff_eq] at hok
    obtain ⟨⟨hr,ha⟩,hb⟩:=hok
    generalize hi:ops[i]?=oi at h
    generalize hj:ops[j]?=oj at h
    split at h
    · exact DD i j hi hj hr (fun K' hK'=>h.1 K' fun s' hs'=>hK' _ (hs' _ _ ha)) (fun K' hK'=>h.2 K' fun s' hs'=>hK' _ (hs' _ _ hb))
    · exact h.elim
  | .oh i m j n a b,s,h,l,0,hok=>by simp [dh] at hok
  | .oh i m j n a b,s,h,l,f+1,hok=>by
    rw [fh] at h
    simp only [dh,lV,Bool.and_eq_true,beq_iff_eq] at hok
    obtain ⟨⟨⟨⟨hr,hm⟩,hn⟩,ha⟩,hb⟩:=hok
    generalize hi:ops[i]?=oi at h
    generalize hj:ops[j]?=oj at h
    split at h
    · exact AY hr (ur hi hm ha h.1) (ur hj hn hb h.2)
    · exact h.elim
  | .Ck i m j n k p a b c,s,h,l,0,hok=>by simp [dh] at hok
  | .Ck i m j n k p a b c,s,h,l,f+1,hok=>by
    rw [fh] at h
    simp only [dh,lV,Bool.and_eq_true,beq_iff_eq] at hok
    obtain ⟨⟨⟨⟨⟨⟨hr,hm⟩,hn⟩,hp⟩,ha⟩,hb⟩,hc⟩:=hok
    generalize hi:ops[i]?=oi at h
    generalize hj:ops[j]?=oj at h
    generalize hk:ops[k]?=ok at h
    split at h
    · exact AZ hr (ur hi hm ha h.1) (ur hj hn hb h.2.1) (ur hk hp hc h.2.2)
    · exact h.elim
  | .yN i j k a b c,s,h,l,0,hok=>by simp [dh] at hok
  | .yN i j k a b c,s,h,l,f+1,hok=>by
    rw [fh] at h
    simp only [dh,lV,Bool.and_eq_true,beq_iff_eq] at hok
    obtain ⟨⟨⟨hr,ha⟩,hb⟩,hc⟩:=hok
    generalize hi:ops[i]?=oi at h
    generalize hj:ops[j]?=oj at h
    generalize hk:ops[k]?=ok at h
    split at h
    · exact yO i j k hi hj hk hr (fun K' hK'=>h.1 K' fun s' hs'=>hK' _ (hs' _ _ ha)) (fun K' hK'=>h.2.1 K' fun s' hs'=>hK' _ (hs' _ _ hb)) (fun K' hK'=>h.2.2 K' fun s' hs'=>hK' _ (hs' _ _ hc))
    · exact h.elim
  | .it i m r,s,h,l,0,hok=>by simp [dh] at hok
  | .it i m r,s,h,l,f+1,hok=>by
    rw [jd] at h
    simp only [dh,lV,Bool.and_eq_true] at hok
    obtain ⟨hm,hr⟩:=hok
    have ih:=fun s h=>np (aU:=aU) (ops:=ops) (hs:=hs) (K:=K) r s h
    generalize hi:ops[i]?=oi at h
    match oi,h with
    |none,h=>exact h.elim
    |some ⟨d,op,ty,pos,bC,none⟩,h=>
      match m,hm,h with
      |0,hm,h=>
        obtain ⟨x,hx,h⟩:=A0 h
        exact Cl i hi hm hx (fun K' hK'=>hK' _ (ih _ h _ _ hr))
      |1,hm,h=>exact A3 i hi (by simpa using hm) (fun K' hK'=>h K' fun s' hs'=>hK' _ (hs' _ _ hr))
      |2,hm,h=>exact h.elim
      |m+3,hm,h=>
        simp only [Bool.and_eq_true,beq_iff_eq,Bool.not_eq_true'] at hm
        exact DF i hi hm.1 hm.2 (fun K' hK'=>h K' fun s' hs'=>hK' _ (hs' _ _ hr))
    |some ⟨d,op,ty,pos,bC,some (j,b)⟩,h=>
      simp only [KD] at h
      generalize hg:px (pn ops j s) b=g at h
      match g,h with
      | .no,h=>exact h.elim
      | .skip,h=>
        have hm2:KC ops hs l i=true∧fh P aU ops hs K r (s.put d (.v undef)):=by
          match m,hm,h with
          |0,hm,h=>exact ⟨hm,h⟩
          |1,hm,h=>exact h.elim
          |2,hm,h=>simp only [Bool.and_eq_true] at hm;exact ⟨hm.1,h⟩
          |m+3,hm,h=>exact h.elim
        rcases og hg with hx|hx
        · obtain ⟨t,h1,h2⟩:=ee hx
          exact tL i hi hm2.1 h1 h2 (by cases b<;>rfl) (fun K' hK'=>hK' _ (ih _ hm2.2 _ _ hr))
        · obtain ⟨t,h1,h2⟩:=ee hx
          exact tL i hi hm2.1 h1 h2 rfl (fun K' hK'=>hK' _ (ih _ hm2.2 _ _ hr))
      | .run,h=>
        obtain ⟨t,h1,h2⟩:=ee (qN hg)
        match m,hm,h with
        |0,hm,h=>
          obtain ⟨x,hx,h⟩:=A0 h
          exact yP i hi hm h1 h2 hx (fun K' hK'=>hK' _ (ih _ h _ _ hr))
        |1,hm,h=>exact h.elim
        |2,hm,h=>
          simp only [Bool.and_eq_true,beq_iff_eq] at hm
          exact yQ i hi hm.2 h1 h2 (fun K' hK'=>fun R β G a w Q hrep=>h K' (fun s' hs'=>hK' _ (hs' _ _ hr)) R β G a w Q hrep)
        |m+3,hm,h=>exact h.elim
def wu (n:Nat) (k:Nat→Bool):Bool:=match n with|0=>k 0|m+1=>k (m+1)
theorem jx (n:Nat) (k:Nat→Bool):wu n k=k n:=by cases n<;>rfl
def II:List Nat→(List Nat→Bool)→Bool
  |[],k=>k []
  |n::r,k=>wu n fun n=>II r fun q=>k (n::q)
theorem Cm:∀ (l:List Nat) (k:List Nat→Bool),II l k=k l
  |[],k=>rfl
  |n::r,k=>by rw [II,jx,Cm r]
def IJ:List (Nat×Nat)→(List (Nat×Nat)→Bool)→Bool
  |[],k=>k []
  |(a,b)::r,k=>wu a fun a=>wu b fun b=>IJ r fun q=>k ((a,b)::q)
theorem Cn:∀ (l:List (Nat×Nat)) (k:List (Nat×Nat)→Bool),IJ l k=k l
  |[],k=>rfl
  |(a,b)::r,k=>by rw [IJ,jx,jx,Cn r]
def uu:List Edge→Nat→Nat
  |[],m=>m
  |e::r,m=>match Region.binds .any e with
    |true=>uu r (m||| 2 ^ e.on)
    |false=>uu r m
theorem qP (k:Nat):∀ (l:List Edge) (m:Nat),(uu l m).testBit k=(m.testBit k|| l.any fun e=>Region.binds .any e&&e.on == k)
  |[],m=>by simp [uu]
  |e::r,m=>by
    rw [uu]
    split
    · rename_i hb
      rw [qP k r]
      simp only [List.any_cons,hb,Nat.testBit_or,Nat.testBit_two_pow,Bool.true_and]
      by_cases h:e.on=k
      · simp [h]
      · have h2:(e.on == k)=false:=by simp [h]
        simp only [h,h2,decide_false,Bool.or_false,Bool.false_or]
    · rename_i hb
      rw [qP k r]
      simp [List.any_cons,hb]
def KE:List Tmp→Nat→Nat
  |[],m=>m
  |d::r,m=>KE r (m||| 2 ^ d)
theorem Co (k:Nat):∀ (l:List Tmp) (m:Nat),(KE l m).testBit k=(m.testBit k|| l.contains k)
  |[],m=>by simp [KE]
  |d::r,m=>by
    rw [KE,Co k r,List.contains_cons]
    simp only [Nat.testBit_or,Nat.testBit_two_pow]
    by_cases h:d=k
    · simp [h]
    · have h2:(k == d)=false:=by simp [Ne.symm h]
      simp [h,h2]
def DG (l:List Oper) (o:Oper):List Tmp:=
  (o.op.operands.toList.filterMap fun| .tmp t=>some t|_=>none)++
  (match o.guard with
   |some (g,_)=>((l[g]?).bind (·.dst)).toList
   |none=>[])
theorem Cp (l:List Oper) (o:Oper):o.looksAt l.toArray=DG l o:=by
  unfold Oper.looksAt DG
  cases o.guard<;>simp<;>rfl
theorem O0 (a b:Nat):Nat.beq a b=decide (a=b):=by
  by_cases h:a=b
  · subst h;simp
  · simp only [h,decide_false]
    cases hb:Nat.beq a b
    · rfl
    · exact absurd (Nat.eq_of_beq_eq_true hb) h
structure Rw where
  i:Nat
  m:Nat
  d:Option Nat
  lk:Nat
def rows (l:List Oper):List Oper→Nat→List Rw
  |[],_=>[]
  |o::r,i=>⟨i,uu o.after.toList 0,o.dst,KE (DG l o) 0⟩::rows l r (i+1)
def DH:List Rw→(List Rw→Bool)→Bool
  |[],k=>k []
  |⟨i,m,d,lk⟩::r,k=>wu i fun i=>wu m fun m=>wu lk fun lk=>match d with
    |none=>DH r fun q=>k (⟨i,m,none,lk⟩::q)
    |some d=>wu d fun d=>DH r fun q=>k (⟨i,m,some d,lk⟩::q)
theorem xy:∀ (l:List Rw) (k:List Rw→Bool),DH l k=k l
  |[],k=>rfl
  |⟨i,m,none,lk⟩::r,k=>by rw [DH,jx,jx,jx,xy r]
  |⟨i,m,some d,lk⟩::r,k=>by simp only [DH,jx];rw [xy r]
def qQ:List Rw→Nat→List Nat
  |[],_=>[]
  |x::r,D=>match !D.testBit x.i&&Nat.beq (x.m&&&D) x.m with
    |true=>x.i::qQ r D
    |false=>qQ r D
def Oo (x y:Rw):Bool:=(match x.d with|some d=>!y.lk.testBit d&&!(match y.d with|some e=>Nat.beq e d|none=>false)|none=>true)&&(match y.d with|some d=>!x.lk.testBit d|none=>true)
def DI (x:Rw):List Rw→Nat→Nat
  |[],m=>m
  |y::r,m=>match Nat.beq y.i x.i|| y.m.testBit x.i|| Oo x y with
    |true=>DI x r (m||| 2 ^ y.i)
    |false=>DI x r m
def KF (R:List Rw):List Nat→List (Nat×Nat)
  |[]=>[]
  |h::t=>match R[h]? with
    |some x=>(h,DI x R 0)::KF R t
    |none=>KF R t
def Fs:List (Nat×Nat)→Nat→Nat
  |[],_=>0
  |(a,b)::r,i=>match Nat.beq a i with
    |true=>b
    |false=>Fs r i
def hM (R:List Rw) (FR:List (Nat×Nat)) (full:Nat) (hs:List Nat) (i D:Nat):Bool:=(qQ R D).contains i&&Nat.beq ((Fs FR i||| D)&&&full) full&&hs.contains i
def nq (bf hs:List Nat) (i:Nat):Bool:=hs.any fun k=>!(bf.getD i 0).testBit k
def tM (R:List Rw) (FR:List (Nat×Nat)) (full:Nat) (hs bf:List Nat):Sc→Nat→Nat→Bool
  | .nil,D,_=>qQ R D == []
  | .fk i j a b,D,f+1=>qQ R D == [i,j]&&wu (D||| 2 ^ i) (fun D=>tM R FR full hs bf a D f)&&wu (D||| 2 ^ j) (fun D=>tM R FR full hs bf b D f)
  | .yN i j k a b c,D,f+1=>qQ R D == [i,j,k]&&wu (D||| 2 ^ i) (fun D=>tM R FR full hs bf a D f)&&wu (D||| 2 ^ j) (fun D=>tM R FR full hs bf b D f)&&wu (D||| 2 ^ k) (fun D=>tM R FR full hs bf c D f)
  | .oh i m j n a b,D,f+1=>qQ R D == [i,j]&&(m == 1|| !nq bf hs i)&&(n == 1|| !nq bf hs j)&&wu (D||| 2 ^ i) (fun D=>tM R FR full hs bf a D f)&&wu (D||| 2 ^ j) (fun D=>tM R FR full hs bf b D f)
  | .Ck i m j n k p a b c,D,f+1=>qQ R D == [i,j,k]&&(m == 1|| !nq bf hs i)&&(n == 1|| !nq bf hs j)&&(p == 1|| !nq bf hs k)&&wu (D||| 2 ^ i) (fun D=>tM R FR full hs bf a D f)&&wu (D||| 2 ^ j) (fun D=>tM R FR full hs bf b D f)&&wu (D||| 2 ^ k) (fun D=>tM R FR full hs bf c D f)
  | .it i m r,D,f+1=>(match m with
    |0=>hM R FR full hs i D
    |1=>qQ R D == [i]
    |2=>hM R FR full hs i D&&qQ R D == [i]
    |_=>qQ R D == [i]&&!nq bf hs i)&&wu (D||| 2 ^ i) (fun D=>tM R FR full hs bf r D f)
  | .fk _ _ _ _,_,0=>false
  | .yN _ _ _ _ _ _,_,0=>false
  | .oh _ _ _ _ _ _,_,0=>false
  | .Ck _ _ _ _ _ _ _ _ _,_,0=>false
  | .it _ _ _,_,0=>false
def Sc.asks:Sc→Bool
  | .nil=>false
  | .fk _ _ a b=>a.asks|| b.asks
  | .yN _ _ _ a b c=>a.asks|| b.asks|| c.asks
  | .oh _ _ _ _ _ _=>true
  | .Ck _ _ _ _ _ _ _ _ _=>true
  | .it _ m r=>decide (2 < m)|| r.asks
def A4 (l:List Oper):Bool→List Nat
  |true=>CheckFast.beforeL l 0 []
  |false=>[]
def mD (l:List Oper) (hs:List Nat) (sc:Sc):Bool:=
  (l.all fun o=>match o.op with| .select ..=>false|_=>true)&&
  DH (rows l l 0) fun R=>IJ (KF R hs) fun FR=>wu (2 ^ l.length - 1) fun full=>II (A4 l sc.asks) fun bf=>tM R FR full hs bf sc 0 l.length
structure Inv (n:Nat) (l:Array Bool) (D:Nat):Prop where
  sz:l.size=n
  bit:∀ j,l.getD j false=D.testBit j
theorem Inv.Nr {n:Nat} {l:Array Bool} {D:Nat} (h:Inv n l D) {j:Nat} (hj:j < n):l.getD j true=D.testBit j:=by
  rw [← h.bit j]
  have:=h.sz
  simp [Array.getD,this,hj]
theorem Inv.set {n:Nat} {l:Array Bool} {D:Nat} (h:Inv n l D) {i:Nat} (hi:i < n):Inv n (l.setIfInBounds i true) (D||| 2 ^ i):=by
  refine ⟨by simp [h.sz],fun j=>?_⟩
  have h1:=h.bit j
  have h2:=h.sz
  simp only [Nat.testBit_or,Nat.testBit_two_pow,← h1]
  by_cases hij:i=j
  · subst hij
    simp [Array.getD,h2,hi]
  · simp only [Array.getD_eq_getD_getElem?,hij,decide_false,Bool.or_false]
    rw [Array.getElem?_setIfInBounds_ne hij]
theorem Ft (n:Nat):Inv n (Array.replicate n false) 0:=by
  refine ⟨by simp,fun j=>?_⟩
  simp only [Nat.zero_testBit,Array.getD,Array.size_replicate]
  split<;>simp
theorem yR {m D:Nat}:Nat.beq (m&&&D) m=true↔∀ k,m.testBit k=true→D.testBit k=true:=by
  rw [Nat.beq_eq]
  constructor
  · intro h k hk
    have:(m&&&D).testBit k=true:=by rw [h];exact hk
    rw [Nat.testBit_and] at this
    simp only [Bool.and_eq_true] at this
    exact this.2
  · intro h
    apply Nat.eq_of_testBit_eq
    intro k
    rw [Nat.testBit_and]
    cases hk:m.testBit k
    · rfl
    · simp [h k hk]
theorem Cq {l:List Oper} {lst:Array Bool} {D:Nat} (hv:Inv l.length lst D):∀ (r:List Oper) (k:Nat),(∀ j,r[j]?=l[k+j]?)→
    qQ (rows l r k) D=(List.range' k r.length).filter fun i=>!lst.getD i true&&((l.toArray[i]?).map (·.after.all fun e=>!Region.binds .any e|| lst.getD e.on false)).getD false
  |[],k,h=>rfl
  |o::r,k,h=>by
    have h0:l[k]?=some o:=by simpa using (h 0).symm
    have hk:k < l.length:=(List.getElem?_eq_some_iff.1 h0).1
    have ih:=Cq hv r (k+1) (fun j=>by
      have:=h (j+1)
      rw [List.getElem?_cons_succ] at this
      rw [this];congr 1;omega)
    have hc:(!D.testBit k&&Nat.beq (uu o.after.toList 0&&&D) (uu o.after.toList 0))=(!lst.getD k true&&((l.toArray[k]?).map (·.after.all fun e=>!Region.binds .any e|| lst.getD e.on false)).getD false):=by
      rw [hv.Nr hk]
      congr 1
      rw [Bool.eq_iff_iff,yR]
      simp only [List.getElem?_toArray,h0,Option.map_some,Option.getD_some,qP,Nat.zero_testBit,Bool.false_or,List.any_eq_true,Bool.and_eq_true,beq_iff_eq,Array.all_eq_true_iff_forall_mem,Bool.or_eq_true,Bool.not_eq_true',hv.bit]
      constructor
      · intro h e he
        cases hb:Region.binds .any e
        · exact .inl rfl
        · exact .inr (h _ ⟨e,Array.mem_toList_iff.2 he,hb,rfl⟩)
      · rintro h k ⟨e,he,hb,rfl⟩
        rcases h e (Array.mem_toList_iff.1 he) with h|h
        · rw [hb] at h;cases h
        · exact h
    rw [rows,qQ]
    simp only [List.length_cons,List.range'_succ,List.filter_cons]
    rw [hc,ih]
    cases (!lst.getD k true&&((l.toArray[k]?).map (·.after.all fun e=>!Region.binds .any e|| lst.getD e.on false)).getD false)<;>simp
theorem kg {l:List Oper} {lst:Array Bool} {D:Nat} (hv:Inv l.length lst D):qQ (rows l l 0) D=Region.ready .any l.toArray lst:=by
  rw [Cq hv l 0 (fun j=>by simp)]
  unfold Region.ready
  rw [List.size_toArray,List.range_eq_range']
theorem uv {l:List Oper} {y:Rw}:∀ (r:List Oper) (k:Nat),(∀ j,r[j]?=l[k+j]?)→y∈rows l r k→∃ o,l[y.i]?=some o∧y=⟨y.i,uu o.after.toList 0,o.dst,KE (DG l o) 0⟩
  |[],k,h,hy=>by simp [rows] at hy
  |o::r,k,h,hy=>by
    rw [rows,List.mem_cons] at hy
    rcases hy with rfl|hy
    · exact ⟨o,by simpa using (h 0).symm,rfl⟩
    · exact uv r (k+1) (fun j=>by
        have:=h (j+1)
        rw [List.getElem?_cons_succ] at this
        rw [this];congr 1;omega) hy
theorem Fu {l:List Oper} {y:Rw}:∀ (r:List Oper) (k h:Nat),(rows l r k)[h]?=some y→y.i=k+h
  |[],k,h,e=>by simp [rows] at e
  |o::r,k,0,e=>by simp [rows] at e;rw [← e];rfl
  |o::r,k,h+1,e=>by
    rw [rows,List.getElem?_cons_succ] at e
    have:=Fu r (k+1) h e
    omega
theorem uw {x:Rw} {j:Nat}:∀ (R:List Rw) (m:Nat),(DI x R m).testBit j=true→m.testBit j=true∨∃ y∈R,y.i=j∧(Nat.beq y.i x.i|| y.m.testBit x.i|| Oo x y)=true
  |[],m,h=>.inl h
  |y::r,m,h=>by
    rw [DI] at h
    split at h
    · rename_i hc
      rcases uw r _ h with h|⟨z,hz,h⟩
      · simp only [Nat.testBit_or,Nat.testBit_two_pow,Bool.or_eq_true,decide_eq_true_eq] at h
        rcases h with h|h
        · exact .inl h
        · exact .inr ⟨y,by simp,h,hc⟩
      · exact .inr ⟨z,by simp [hz],h⟩
    · rcases uw r _ h with h|⟨z,hz,h⟩
      · exact .inl h
      · exact .inr ⟨z,by simp [hz],h⟩
theorem si {R:List Rw} {i:Nat}:∀ (hs:List Nat),Fs (KF R hs) i=0∨∃ x,R[i]?=some x∧Fs (KF R hs) i=DI x R 0
  |[]=>.inl rfl
  |h::t=>by
    rw [KF]
    split
    · rename_i x hx
      rw [Fs]
      split
      · rename_i hb
        rw [Nat.beq_eq] at hb
        subst hb
        exact .inr ⟨x,hx,rfl⟩
      · exact si t
    · exact si t
theorem Lk {l:List Oper} {ox oy:Oper} {i j:Nat} (h:Oo ⟨i,uu ox.after.toList 0,ox.dst,KE (DG l ox) 0⟩ ⟨j,uu oy.after.toList 0,oy.dst,KE (DG l oy) 0⟩=true):ox.apart l.toArray oy=true:=by
  unfold Oo at h
  unfold Oper.apart
  rw [Cp,Cp]
  simp only [Co,Nat.zero_testBit,Bool.false_or] at h
  revert h
  cases ox.dst<;>cases oy.dst<;>simp [O0]
  done
theorem KG {l:List Oper} {hs:List Nat} {lst:Array Bool} {D i:Nat} (hv:Inv l.length lst D) (hsel:Region.noSelect l.toArray=true) (h:hM (rows l l 0) (KF (rows l l 0) hs) (2 ^ l.length - 1) hs i D=true):KC l.toArray hs lst i=true:=by
  unfold hM at h
  simp only [Bool.and_eq_true] at h
  obtain ⟨⟨h1,h2⟩,h3⟩:=h
  rw [kg hv] at h1
  unfold KC
  simp only [Bool.and_eq_true]
  refine ⟨⟨⟨hsel,h1⟩,?_⟩,h3⟩
  have hir:=mem_ready.1 (List.contains_iff_mem.1 h1)
  obtain ⟨hi0,oi,hoi,_⟩:=hir
  have hin:i < l.length:=by
    have:=(Array.getElem?_eq_some_iff.1 hoi).1
    simpa using this
  unfold Region.free
  simp only [hoi,List.all_eq_true,List.mem_range,List.size_toArray]
  intro j hj
  rw [Nat.and_comm,yR] at h2
  have hb:=h2 j (by simp [Nat.testBit_two_pow_sub_one,hj])
  simp only [Nat.testBit_or,Bool.or_eq_true] at hb
  rcases hb with hb|hb
  · rcases si (R:=rows l l 0) (i:=i) hs with h0|⟨x,hx,h0⟩
    · rw [h0] at hb;simp at hb
    · rw [h0] at hb
      rcases uw _ _ hb with hb|⟨y,hy,hyj,hc⟩
      · simp at hb
      · obtain ⟨oy,hoy,hye⟩:=uv l 0 (fun j=>by simp) hy
        have hxi:=Fu l 0 i hx
        obtain ⟨ox,hox,hxe⟩:=uv l 0 (fun j=>by simp) (List.mem_of_getElem? hx)
        rw [Nat.zero_add] at hxi
        rw [hxi] at hox hxe
        rw [hyj] at hoy hye
        have hoi':l[i]?=some oi:=by simpa using hoi
        rw [hoi'] at hox
        injection hox with hox
        subst hox
        simp only [List.getElem?_toArray,hoy]
        rw [hxe,hye] at hc
        simp only [Bool.or_eq_true] at hc ⊢
        rcases hc with (hc|hc)|hc
        · rw [Nat.beq_eq] at hc;exact .inl (.inl (by simpa using hc))
        · rw [qP] at hc
          simp only [Nat.zero_testBit,Bool.false_or] at hc
          refine .inr (.inl ?_)
          rw [← hc,← Array.any_toList]
        · exact .inr (.inr (Lk hc))
  · simp [hv.Nr hj,hb]
theorem wv {l:List Oper} {hs:List Nat} {b:Bool} {i:Nat} (h:(!nq (A4 l b) hs i)=true):(!early l.toArray hs i)=true:=by
  have h1:∀ k∈hs,((A4 l b).getD i 0).testBit k=true:=by simpa [nq] using h
  simp only [Bool.not_eq_true',early,List.any_eq_false,Bool.not_eq_true',Bool.not_eq_false,Bool.not_eq_true]
  intro k hk
  have h2:=h1 k hk
  cases b
  · simp [A4] at h2
  · rw [← CheckFast.beforeF_eq]
    unfold CheckFast.beforeF
    simp only [A4] at h2
    rw [List.getD_eq_getElem?_getD] at h2
    simp only [Array.getD_eq_getD_getElem?,List.getElem?_toArray]
    simpa using h2
theorem Ll {l:List Oper} {hs:List Nat} {b:Bool} (hsel:Region.noSelect l.toArray=true):∀ (sc:Sc) (D f:Nat) (lst:Array Bool),Inv l.length lst D→
    tM (rows l l 0) (KF (rows l l 0) hs) (2 ^ l.length - 1) hs (A4 l b) sc D f=true→dh l.toArray hs sc lst f=true:=by
  have hin:∀ {lst i},i∈Region.ready .any l.toArray lst→i < l.length:=by
    intro lst i h
    unfold Region.ready at h
    simpa using (List.mem_range.1 (List.mem_filter.1 h).1)
  have hm:∀ {m i:Nat},(m == 1|| !nq (A4 l b) hs i)=true→(m == 1|| !early l.toArray hs i)=true:=by
    intro m i h
    rw [Bool.or_eq_true] at h ⊢
    exact h.imp id wv
  intro sc
  induction sc with
  |nil=>
    intro D f lst hv h
    simp only [tM,kg hv] at h
    simpa [dh] using h
  |it i m r ih=>
    intro D f lst hv h
    cases f with
    |zero=>simp [tM] at h
    |succ f=>
      simp only [tM,jx,Bool.and_eq_true] at h
      simp only [dh,lV,Bool.and_eq_true]
      obtain ⟨h1,h2⟩:=h
      have key:(match (generalizing:=false) m with
        |0=>KC l.toArray hs lst i
        |1=>Region.ready .any l.toArray lst == [i]
        |2=>KC l.toArray hs lst i&&Region.ready .any l.toArray lst == [i]
        |_=>Region.ready .any l.toArray lst == [i]&&!early l.toArray hs i)=true∧i∈Region.ready .any l.toArray lst:=by
        match m,h1 with
        |0,h1=>
          have:=KG hv hsel h1
          refine ⟨this,?_⟩
          simp only [KC,Bool.and_eq_true,List.contains_iff_mem] at this
          exact this.1.1.2
        |1,h1=>
          simp only [kg hv] at h1
          refine ⟨h1,?_⟩
          rw [beq_iff_eq] at h1;rw [h1];simp
        |2,h1=>
          simp only [kg hv,Bool.and_eq_true] at h1
          refine ⟨by simp only [Bool.and_eq_true];exact ⟨KG hv hsel h1.1,h1.2⟩,?_⟩
          have h1:=h1.2
          rw [beq_iff_eq] at h1;rw [h1];simp
        |m+3,h1=>
          simp only [kg hv,Bool.and_eq_true] at h1
          refine ⟨by simp only [Bool.and_eq_true];exact ⟨h1.1,wv h1.2⟩,?_⟩
          have h1:=h1.1
          rw [beq_iff_eq] at h1;rw [h1];simp
      exact ⟨key.1,ih _ _ _ (hv.set (hin key.2)) h2⟩
  |fk i j a b iha ihb=>
    intro D f lst hv h
    cases f with
    |zero=>simp [tM] at h
    |succ f=>
      simp only [tM,jx,Bool.and_eq_true,kg hv] at h
      simp only [dh,lV,Bool.and_eq_true]
      obtain ⟨⟨h1,h2⟩,h3⟩:=h
      have e:=h1
      rw [beq_iff_eq] at e
      exact ⟨⟨h1,iha _ _ _ (hv.set (hin (by rw [e];simp))) h2⟩,ihb _ _ _ (hv.set (hin (by rw [e];simp))) h3⟩
  |yN i j k a b c iha ihb ihc=>
    intro D f lst hv h
    cases f with
    |zero=>simp [tM] at h
    |succ f=>
      simp only [tM,jx,Bool.and_eq_true,kg hv] at h
      simp only [dh,lV,Bool.and_eq_true]
      obtain ⟨⟨⟨h1,h2⟩,h3⟩,h4⟩:=h
      have e:=h1
      rw [beq_iff_eq] at e
      exact ⟨⟨⟨h1,iha _ _ _ (hv.set (hin (by rw [e];simp))) h2⟩,ihb _ _ _ (hv.set (hin (by rw [e];simp))) h3⟩,ihc _ _ _ (hv.set (hin (by rw [e];simp))) h4⟩
  |oh i m j n a b iha ihb=>
    intro D f lst hv h
    cases f with
    |zero=>simp [tM] at h
    |succ f=>
      simp only [tM,jx,Bool.and_eq_true,kg hv] at h
      simp only [dh,lV,Bool.and_eq_true]
      obtain ⟨⟨⟨⟨h1,hm1⟩,hm2⟩,h2⟩,h3⟩:=h
      have e:=h1
      rw [beq_iff_eq] at e
      exact ⟨⟨⟨⟨h1,hm hm1⟩,hm hm2⟩,iha _ _ _ (hv.set (hin (by rw [e];simp))) h2⟩,ihb _ _ _ (hv.set (hin (by rw [e];simp))) h3⟩
  |Ck i m j n k p a b c iha ihb ihc=>
    intro D f lst hv h
    cases f with
    |zero=>simp [tM] at h
    |succ f=>
      simp only [tM,jx,Bool.and_eq_true,kg hv] at h
      simp only [dh,lV,Bool.and_eq_true]
      obtain ⟨⟨⟨⟨⟨⟨h1,hm1⟩,hm2⟩,hm3⟩,h2⟩,h3⟩,h4⟩:=h
      have e:=h1
      rw [beq_iff_eq] at e
      exact ⟨⟨⟨⟨⟨⟨h1,hm hm1⟩,hm hm2⟩,hm hm3⟩,iha _ _ _ (hv.set (hin (by rw [e];simp))) h2⟩,ihb _ _ _ (hv.set (hin (by rw [e];simp))) h3⟩,ihc _ _ _ (hv.set (hin (by rw [e];simp))) h4⟩
theorem xz {l:List Oper} {hs:List Nat} {sc:Sc} (h:mD l hs sc=true):dh l.toArray hs sc (Array.replicate l.length false) l.length=true:=by
  unfold mD at h
  simp only [xy,Cn,jx,Cm,Bool.and_eq_true] at h
  refine Ll ?_ sc 0 _ _ (Ft _) h.2
  unfold Region.noSelect
  rw [List.all_toArray]
  exact h.1
theorem KH {aU:Nat→Option TI} [hT:Tb P aU] {id:Nat} {l:List Oper} {s:St} {Q:Exit→St→Prop} (sc:Sc) (hs:List Nat)
    (hok:(P.follows .mixedOrders&&mD l hs sc)=true)
    (h:fh P aU l.toArray hs (Q .normal) sc s) (hd:hJ l=true:=by rfl):AW P (.region id l.toArray true) s Q:=by
  simp only [Bool.and_eq_true] at hok
  exact tN l.length hs rfl hok.1 (np sc s h _ _ (xz hok.2)) hd
theorem Fv {aU:Nat→Option TI} [hT:Tb P aU] {ops:Array Oper} {hs:List Nat} {K:St→Prop} {r:Sc} {s:St} {d:Option Tmp} {f:FuncId} {args:Array Operand} {eQ:Array TypeId} {ty:TypeId} {pos:String} {bC:Array Edge} {x:AV} [hc:cS P f]
    (h:bg P f (cn s args) (fun y=>y=x)) (hp:AV.cj (cn s args)=true) (hk:fh P aU ops hs K r (s.put d x)):gV P ops hs ⟨d,.call {callee:=.value (.func f),args,argTypes:=eQ},ty,pos,bC,none⟩ r s K:=
  fun K' hK'=>DJ h hp fun y hy=>by subst hy;exact hK' _ (np _ _ hk)
theorem dk {aU:Nat→Option TI} [hT:Tb P aU] {ops:Array Oper} {hs:List Nat} {K:St→Prop} {r:Sc} {s:St} {o:Oper} (h:∀ K':St→Prop,(∀ s',fh P aU ops hs K r s'→K' s')→dz P o s K'):gV P ops hs o r s K:=
  fun K' hK'=>h K' fun s' hs'=>hK' s' (np _ _ hs')
theorem gH {aU:Nat→Option TI} [hT:Tb P aU] {ops:Array Oper} {hs:List Nat} {K:St→Prop} {r:Sc} {s:St} {o:Oper} (h:∀ K':St→Prop,(∀ s',fh P aU ops hs K r s'→K' s')→eR P o s K'):kf P ops hs o r s K:=
  fun K' hK'=>h K' fun s' hs'=>hK' s' (np _ _ hs')
def Oq (P:Program) (aU:Nat→Option TI) (ops:Array Oper) (hs:List Nat) (K:St→Prop) (r:Sc):SR→Prop
  | .ok s'=>fh P aU ops hs K r s'
  |@SR.ex c _ f=>∃ h:c,fh P aU ops hs K r (f h)
  | .no=>iu
theorem IK {aU:Nat→Option TI} [hT:Tb P aU] {ops:Array Oper} {hs:List Nat} {K:St→Prop} {r:Sc} {s:St} {d:Option Tmp} {op:Op} {ty:TypeId} {pos:String} {bC:Array Edge} {g:Option (Nat×Bool)}
    (h:Oq P aU ops hs K r (lU aU op d s)):kf P ops hs ⟨d,op,ty,pos,bC,g⟩ r s K:=by
  have hs:=Fm (P:=P) (aU:=aU) op d s
  generalize lU aU op d s=q at h hs
  cases q with
  |ok s'=>exact fun K' hK'=>hs _ _ _ _ _ (hK' _ (np _ _ h))
  |ex c f=>obtain ⟨hc,h⟩:=h;exact fun K' hK'=>hs hc _ _ _ _ _ (hK' _ (np _ _ h))
  |no=>exact h.elim
theorem IL {aU:Nat→Option TI} [hT:Tb P aU] {ops:Array Oper} {hs:List Nat} {K:St→Prop} {r:Sc} {s:St} {d:Option Tmp} {op:Op} {ty:TypeId} {pos:String} {bC:Array Edge} {g:Option (Nat×Bool)}
    (h:Io P aU ops hs K d r s (mZ aU op s)):gV P ops hs ⟨d,op,ty,pos,bC,g⟩ r s K:=by
  obtain ⟨x,hx,h⟩:=A0 h
  exact fun K' hK'=>eu hx (hK' _ (np _ _ h))
end Go.Ab
namespace Go.Ab
def yS:List Oper→Nat→Option Tmp
  |[],_=>none
  |o::_,0=>o.dst
  |_::r,j+1=>yS r j
def AK:List Oper→Nat→Option Oper
  |[],_=>none
  |o::_,0=>some o
  |_::r,j+1=>AK r j
def Ot (s:St):Option Tmp→AV
  |some t=>s.fr.getD t .any
  |none=>.any
theorem bR:∀ (l:List Oper) (j:Nat),l[j]?=AK l j
  |[],_=>rfl
  |_::_,0=>rfl
  |o::r,j+1=>by rw [List.getElem?_cons_succ,bR r j];rfl
theorem Cr:∀ (l:List Oper) (j:Nat),(l[j]?).bind (·.dst)=yS l j
  |[],_=>rfl
  |_::_,0=>rfl
  |o::r,j+1=>by rw [List.getElem?_cons_succ,Cr r j];rfl
theorem oo (l:List Oper) (j:Nat) (s:St):pn l.toArray j s=Ot s (yS l j):=by
  unfold pn Ot;rw [List.getElem?_toArray,Cr];(try (cases yS l j<;>rfl))
def yT (ps:List (Nat×AV)) (z:List AV):Option TI→PR
  |some i=>.ex (eb (fun k=>some (k * i.n,i.n)) z.length ps=true) (fun _=>.agg (fV (fun k=>some (k * i.n)) z ps))
  |none=>.no
def j6 (sz:Nat) (t:Option TI) (c:Prop) [Decidable c] (x:AV):PR:=match t with
  |some i=>if sz=i.n then .ex c (fun _=>x) else .no
  |none=>.no
def Ou (P:Program) (ops:Array Oper) (hs:List Nat) (K:St→Prop) (a b:Sc) (s:St):Option Oper→Option Oper→Prop
  |some ⟨d,op,ty,pos,bC,none⟩,some ⟨d',op',ty',pos',aft',none⟩=>gV P ops hs ⟨d,op,ty,pos,bC,none⟩ a s K∧gV P ops hs ⟨d',op',ty',pos',aft',none⟩ b s K
  |_,_=>iu
def IM (P:Program) (ops:Array Oper) (hs:List Nat) (K:St→Prop) (m n:Nat) (a b:Sc) (s:St):Option Oper→Option Oper→Prop
  |some ⟨d,op,ty,pos,bC,none⟩,some ⟨d',op',ty',pos',aft',none⟩=>nk P ops hs m ⟨d,op,ty,pos,bC,none⟩ a s K∧nk P ops hs n ⟨d',op',ty',pos',aft',none⟩ b s K
  |_,_=>iu
theorem lB {P:Program} {aU:Nat→Option TI} {ops:Array Oper} {hs:List Nat} {K:St→Prop} {i m j n:Nat} {a b:Sc} {s:St}:fh P aU ops hs K (.oh i m j n a b) s=IM P ops hs K m n a b s ops[i]? ops[j]?:=by
  rw [fh];unfold IM;rfl
def IN (P:Program) (ops:Array Oper) (hs:List Nat) (K:St→Prop) (m n p:Nat) (a b c:Sc) (s:St):Option Oper→Option Oper→Option Oper→Prop
  |some ⟨d,op,ty,pos,bC,none⟩,some ⟨d',op',ty',pos',aft',none⟩,some ⟨d2,op2,ty2,pos2,aft2,none⟩=>nk P ops hs m ⟨d,op,ty,pos,bC,none⟩ a s K∧nk P ops hs n ⟨d',op',ty',pos',aft',none⟩ b s K∧nk P ops hs p ⟨d2,op2,ty2,pos2,aft2,none⟩ c s K
  |_,_,_=>iu
theorem lC {P:Program} {aU:Nat→Option TI} {ops:Array Oper} {hs:List Nat} {K:St→Prop} {i m j n k p:Nat} {a b c:Sc} {s:St}:fh P aU ops hs K (.Ck i m j n k p a b c) s=IN P ops hs K m n p a b c s ops[i]? ops[j]? ops[k]?:=by
  rw [fh];unfold IN;rfl
def IP (P:Program) (ops:Array Oper) (hs:List Nat) (K:St→Prop) (a b c:Sc) (s:St):Option Oper→Option Oper→Option Oper→Prop
  |some ⟨d,op,ty,pos,bC,none⟩,some ⟨d',op',ty',pos',aft',none⟩,some ⟨d2,op2,ty2,pos2,aft2,none⟩=>gV P ops hs ⟨d,op,ty,pos,bC,none⟩ a s K∧gV P ops hs ⟨d',op',ty',pos',aft',none⟩ b s K∧gV P ops hs ⟨d2,op2,ty2,pos2,aft2,none⟩ c s K
  |_,_,_=>iu
theorem lD {P:Program} {aU:Nat→Option TI} {ops:Array Oper} {hs:List Nat} {K:St→Prop} {i j k:Nat} {a b c:Sc} {s:St}:fh P aU ops hs K (.yN i j k a b c) s=IP P ops hs K a b c s ops[i]? ops[j]? ops[k]?:=by
  rw [fh];unfold IP;rfl
theorem oq {P:Program} {aU:Nat→Option TI} {ops:Array Oper} {hs:List Nat} {K:St→Prop} {i j:Nat} {a b:Sc} {s:St}:fh P aU ops hs K (.fk i j a b) s=Ou P ops hs K a b s ops[i]? ops[j]?:=by
  rw [fh];unfold Ou;rfl
theorem PE:(∀ (P:Program) (aU:Nat→Option TI) (all:Array Oper) (K:St→Prop) (s:St),dE P aU all K [] s=K s)∧
  (∀ (P:Program) (aU:Nat→Option TI) (all:Array Oper) (K:St→Prop) (d:Option Tmp) (op:Op) (ty:TypeId) (pos:String) (bC:Array Edge) (r:List Oper) (s:St),dE P aU all K (⟨d,op,ty,pos,bC,none⟩::r) s=Im P aU all K ⟨d,op,ty,pos,bC,none⟩ r s (lU aU op d s))∧
  (∀ (P:Program) (aU:Nat→Option TI) (all:Array Oper) (K:St→Prop) (d:Option Tmp) (op:Op) (ty:TypeId) (pos:String) (bC:Array Edge) (r:List Oper) (s:St) (j:Nat) (b:Bool),dE P aU all K (⟨d,op,ty,pos,bC,some (j,b)⟩::r) s=mC P aU all K ⟨d,op,ty,pos,bC,some (j,b)⟩ r s (px (pn all j s) b))∧
  (∀ (P:Program) (aU:Nat→Option TI) (all:Array Oper) (K:St→Prop) (o:Oper) (r:List Oper) (s:St) (s':St),Im P aU all K o r s (.ok s')=dE P aU all K r s')∧
  (∀ (P:Program) (aU:Nat→Option TI) (all:Array Oper) (K:St→Prop) (o:Oper) (r:List Oper) (s:St) (c:Prop) [Decidable c] (f:c→St),Im P aU all K o r s (.ex c f)=∃ h:c,dE P aU all K r (f h))∧
  (∀ (P:Program) (aU:Nat→Option TI) (all:Array Oper) (K:St→Prop) (o:Oper) (r:List Oper) (s:St),Im P aU all K o r s .no=eI P all o r s K)∧
  (∀ (P:Program) (aU:Nat→Option TI) (all:Array Oper) (K:St→Prop) (d:Option Tmp) (op:Op) (ty:TypeId) (pos:String) (bC:Array Edge) (r:List Oper) (s:St) (g:Option (Nat×Bool)),mC P aU all K ⟨d,op,ty,pos,bC,g⟩ r s .run=Im P aU all K ⟨d,op,ty,pos,bC,none⟩ r s (lU aU op d s))∧
  (∀ (P:Program) (aU:Nat→Option TI) (all:Array Oper) (K:St→Prop) (d:Option Tmp) (op:Op) (ty:TypeId) (pos:String) (bC:Array Edge) (r:List Oper) (s:St) (g:Option (Nat×Bool)),mC P aU all K ⟨d,op,ty,pos,bC,g⟩ r s .skip=dE P aU all K r (s.put d (.v undef)))∧
  (px (.bool true) true= .run)∧
  (px (.bool false) false= .run)∧
  (px (.bool true) false= .skip)∧
  (px (.bool false) true= .skip)∧
  (∀ (b:Bool),px (.v undef) b= .skip)∧
  (∀ (l:List Oper) (j:Nat) (s:St),pn l.toArray j s=Ot s (yS l j))∧
  (∀ (s:St) (t:Nat),Ot s (some t)=s.fr.getD t .any)∧
  (∀ (d:Option Tmp) (op:Op) (ty:TypeId) (pos:String) (bC:Array Edge) (g:Option (Nat×Bool)) (r:List Oper),yS (⟨d,op,ty,pos,bC,g⟩::r) 0=d)∧
  (∀ (o:Oper) (r:List Oper) (j:Nat),yS (o::r) (j+1)=yS r j)∧
  (∀ (P:Program) (aU:Nat→Option TI) (ops:Array Oper) (hs:List Nat) (K:St→Prop) (s:St),fh P aU ops hs K .nil s=K s)∧
  (∀ (P:Program) (aU:Nat→Option TI) (hs:List Nat) (K:St→Prop) (i m:Nat) (r:Sc) (s:St) (l:List Oper),fh P aU l.toArray hs K (.it i m r) s=KD P aU l.toArray hs K m r s (AK l i))∧
  (∀ (P:Program) (aU:Nat→Option TI) (hs:List Nat) (K:St→Prop) (i j:Nat) (a b:Sc) (s:St) (l:List Oper),fh P aU l.toArray hs K (.fk i j a b) s=Ou P l.toArray hs K a b s (AK l i) (AK l j))∧
  (∀ (P:Program) (ops:Array Oper) (hs:List Nat) (K:St→Prop) (a b:Sc) (s:St) (d d':Option Tmp) (op op':Op) (ty ty':TypeId) (pos pos':String) (bC aft':Array Edge),Ou P ops hs K a b s (some ⟨d,op,ty,pos,bC,none⟩) (some ⟨d',op',ty',pos',aft',none⟩)=(gV P ops hs ⟨d,op,ty,pos,bC,none⟩ a s K∧gV P ops hs ⟨d',op',ty',pos',aft',none⟩ b s K))∧
  (∀ (P:Program) (aU:Nat→Option TI) (hs:List Nat) (K:St→Prop) (i j k:Nat) (a b c:Sc) (s:St) (l:List Oper),fh P aU l.toArray hs K (.yN i j k a b c) s=IP P l.toArray hs K a b c s (AK l i) (AK l j) (AK l k))∧
  (∀ (P:Program) (ops:Array Oper) (hs:List Nat) (K:St→Prop) (a b c:Sc) (s:St) (d d' d2:Option Tmp) (op op' op2:Op) (ty ty' ty2:TypeId) (pos pos' pos2:String) (bC aft' aft2:Array Edge),IP P ops hs K a b c s (some ⟨d,op,ty,pos,bC,none⟩) (some ⟨d',op',ty',pos',aft',none⟩) (some ⟨d2,op2,ty2,pos2,aft2,none⟩)=(gV P ops hs ⟨d,op,ty,pos,bC,none⟩ a s K∧gV P ops hs ⟨d',op',ty',pos',aft',none⟩ b s K∧gV P ops hs ⟨d2,op2,ty2,pos2,aft2,none⟩ c s K))∧
  (∀ (P:Program) (aU:Nat→Option TI) (hs:List Nat) (K:St→Prop) (i m j n k p:Nat) (a b c:Sc) (s:St) (l:List Oper),fh P aU l.toArray hs K (.Ck i m j n k p a b c) s=IN P l.toArray hs K m n p a b c s (AK l i) (AK l j) (AK l k))∧
  (∀ (P:Program) (ops:Array Oper) (hs:List Nat) (K:St→Prop) (m n p:Nat) (a b c:Sc) (s:St) (d d' d2:Option Tmp) (op op' op2:Op) (ty ty' ty2:TypeId) (pos pos' pos2:String) (bC aft' aft2:Array Edge),IN P ops hs K m n p a b c s (some ⟨d,op,ty,pos,bC,none⟩) (some ⟨d',op',ty',pos',aft',none⟩) (some ⟨d2,op2,ty2,pos2,aft2,none⟩)=(nk P ops hs m ⟨d,op,ty,pos,bC,none⟩ a s K∧nk P ops hs n ⟨d',op',ty',pos',aft',none⟩ b s K∧nk P ops hs p ⟨d2,op2,ty2,pos2,aft2,none⟩ c s K)):=by
  refine ⟨?_,?_,?_,?_,?_,?_,?_,?_,?_,?_,?_,?_,?_,?_,?_,?_,?_,?_,?_,?_,?_,?_,?_,?_,?_⟩<;>intros<;>first|rfl|(rw [dE];done)|exact ij|exact gj|exact oo _ _ _|(rw [fh];done)|(rw [jd,List.getElem?_toArray,bR];done)|(rw [oq,List.getElem?_toArray,List.getElem?_toArray,bR,bR];done)|(rw [lB,List.getElem?_toArray,List.getElem?_toArray,bR,bR];done)|(rw [lC,List.getElem?_toArray,List.getElem?_toArray,List.getElem?_toArray,bR,bR,bR];done)|(rw [lD,List.getElem?_toArray,List.getElem?_toArray,List.getElem?_toArray,bR,bR,bR];done)|(cases ‹AV›<;>rfl)|(simp [ea];done)|(simp [eX,qD,qE,qG];done)|(rename_i ti _ _ _ _ _ _;cases ti<;>simp [qG];done)|(simp [sd,fc,fL,j6,mz];done)|(rename_i a b;cases a<;>cases b<;>rfl)|(rename_i a b;simp only [ea];split<;>simp_all)
theorem PF:(∀ (P:Program) (aU:Nat→Option TI) (hs:List Nat) (K:St→Prop) (i m j n:Nat) (a b:Sc) (s:St) (l:List Oper),fh P aU l.toArray hs K (.oh i m j n a b) s=IM P l.toArray hs K m n a b s (AK l i) (AK l j))∧
  (∀ (P:Program) (ops:Array Oper) (hs:List Nat) (K:St→Prop) (m n:Nat) (a b:Sc) (s:St) (d d':Option Tmp) (op op':Op) (ty ty':TypeId) (pos pos':String) (bC aft':Array Edge),IM P ops hs K m n a b s (some ⟨d,op,ty,pos,bC,none⟩) (some ⟨d',op',ty',pos',aft',none⟩)=(nk P ops hs m ⟨d,op,ty,pos,bC,none⟩ a s K∧nk P ops hs n ⟨d',op',ty',pos',aft',none⟩ b s K))∧
  (∀ (P:Program) (ops:Array Oper) (hs:List Nat) (K:St→Prop) (o:Oper) (sc:Sc) (s:St),nk P ops hs 1 o sc s K=gV P ops hs o sc s K)∧
  (∀ (P:Program) (ops:Array Oper) (hs:List Nat) (K:St→Prop) (o:Oper) (sc:Sc) (s:St),nk P ops hs 3 o sc s K=kf P ops hs o sc s K)∧
  (∀ (o:Oper) (r:List Oper),AK (o::r) 0=some o)∧
  (∀ (o:Oper) (r:List Oper) (j:Nat),AK (o::r) (j+1)=AK r j)∧
  (∀ (P:Program) (aU:Nat→Option TI) (ops:Array Oper) (hs:List Nat) (K:St→Prop) (r:Sc) (s:St) (d:Option Tmp) (op:Op) (ty:TypeId) (pos:String) (bC:Array Edge),KD P aU ops hs K 0 r s (some ⟨d,op,ty,pos,bC,none⟩)=Io P aU ops hs K d r s (mZ aU op s))∧
  (∀ (P:Program) (aU:Nat→Option TI) (ops:Array Oper) (hs:List Nat) (K:St→Prop) (r:Sc) (s:St) (d:Option Tmp) (op:Op) (ty:TypeId) (pos:String) (bC:Array Edge),KD P aU ops hs K 1 r s (some ⟨d,op,ty,pos,bC,none⟩)=gV P ops hs ⟨d,op,ty,pos,bC,none⟩ r s K)∧
  (∀ (P:Program) (aU:Nat→Option TI) (ops:Array Oper) (hs:List Nat) (K:St→Prop) (r:Sc) (s:St) (d:Option Tmp) (op:Op) (ty:TypeId) (pos:String) (bC:Array Edge),KD P aU ops hs K 3 r s (some ⟨d,op,ty,pos,bC,none⟩)=kf P ops hs ⟨d,op,ty,pos,bC,none⟩ r s K)∧
  (∀ (P:Program) (aU:Nat→Option TI) (ops:Array Oper) (hs:List Nat) (K:St→Prop) (r:Sc) (s:St) (d:Option Tmp) (op:Op) (ty:TypeId) (pos:String) (bC:Array Edge) (m j:Nat) (b:Bool),KD P aU ops hs K m r s (some ⟨d,op,ty,pos,bC,some (j,b)⟩)=lW P aU ops hs K m ⟨d,op,ty,pos,bC,some (j,b)⟩ r s (px (pn ops j s) b))∧
  (∀ (P:Program) (aU:Nat→Option TI) (ops:Array Oper) (hs:List Nat) (K:St→Prop) (r:Sc) (s:St) (d:Option Tmp) (op:Op) (ty:TypeId) (pos:String) (bC:Array Edge) (g:Option (Nat×Bool)),lW P aU ops hs K 0 ⟨d,op,ty,pos,bC,g⟩ r s .skip=fh P aU ops hs K r (s.put d (.v undef)))∧
  (∀ (P:Program) (aU:Nat→Option TI) (ops:Array Oper) (hs:List Nat) (K:St→Prop) (r:Sc) (s:St) (d:Option Tmp) (op:Op) (ty:TypeId) (pos:String) (bC:Array Edge) (g:Option (Nat×Bool)),lW P aU ops hs K 2 ⟨d,op,ty,pos,bC,g⟩ r s .skip=fh P aU ops hs K r (s.put d (.v undef)))∧
  (∀ (P:Program) (aU:Nat→Option TI) (ops:Array Oper) (hs:List Nat) (K:St→Prop) (r:Sc) (s:St) (d:Option Tmp) (op:Op) (ty:TypeId) (pos:String) (bC:Array Edge) (g:Option (Nat×Bool)),lW P aU ops hs K 0 ⟨d,op,ty,pos,bC,g⟩ r s .run=Io P aU ops hs K d r s (mZ aU op s))∧
  (∀ (P:Program) (aU:Nat→Option TI) (ops:Array Oper) (hs:List Nat) (K:St→Prop) (r:Sc) (s:St) (d:Option Tmp) (op:Op) (ty:TypeId) (pos:String) (bC:Array Edge) (g:Option (Nat×Bool)),lW P aU ops hs K 2 ⟨d,op,ty,pos,bC,g⟩ r s .run=gV P ops hs ⟨d,op,ty,pos,bC,none⟩ r s K)∧
  (∀ (P:Program) (aU:Nat→Option TI) (ops:Array Oper) (hs:List Nat) (K:St→Prop) (d:Option Tmp) (r:Sc) (s:St) (x:AV),Io P aU ops hs K d r s (.ok x)=fh P aU ops hs K r (s.put d x))∧
  (∀ (P:Program) (aU:Nat→Option TI) (ops:Array Oper) (hs:List Nat) (K:St→Prop) (d:Option Tmp) (r:Sc) (s:St) (c:Prop) [Decidable c] (f:c→AV),Io P aU ops hs K d r s (.ex c f)=∃ h:c,fh P aU ops hs K r (s.put d (f h)))∧
  (∀ (aU:Nat→Option TI) (d:Option Tmp) (s:St) (x:Operand),lU aU (.move x) d s=tv d s (.ok (s.eval x)))∧
  (∀ (aU:Nat→Option TI) (s:St) (x:Operand),mZ aU (.move x) s= .ok (s.eval x))∧
  (∀ (aU:Nat→Option TI) (d:Option Tmp) (s:St) (x:Operand),lU aU (.assign x) d s=tv d s (.ok (s.eval x)))∧
  (∀ (aU:Nat→Option TI) (s:St) (x:Operand),mZ aU (.assign x) s= .ok (s.eval x))∧
  (∀ (aU:Nat→Option TI) (d:Option Tmp) (s:St) (c x y:Operand),lU aU (.pick c x y) d s=tv d s (uh (s.eval c) (s.eval x) (s.eval y)))∧
  (∀ (aU:Nat→Option TI) (s:St) (c x y:Operand),mZ aU (.pick c x y) s=uh (s.eval c) (s.eval x) (s.eval y))∧
  (∀ (aU:Nat→Option TI) (d:Option Tmp) (s:St) (b:BinOp) (t u:TypeId) (x y:Operand),lU aU (.binOp b t x y u) d s=tv d s (eX aU b t (s.eval x) (s.eval y)))∧
  (∀ (aU:Nat→Option TI) (s:St) (b:BinOp) (t u:TypeId) (x y:Operand),mZ aU (.binOp b t x y u) s=eX aU b t (s.eval x) (s.eval y))∧
  (∀ (aU:Nat→Option TI) (d:Option Tmp) (s:St) (t:TypeId) (x:Operand),lU aU (.unOp .not t x) d s=tv d s (yG (s.eval x))):=by
  refine ⟨?_,?_,?_,?_,?_,?_,?_,?_,?_,?_,?_,?_,?_,?_,?_,?_,?_,?_,?_,?_,?_,?_,?_,?_,?_⟩<;>intros<;>first|rfl|(rw [dE];done)|exact ij|exact gj|exact oo _ _ _|(rw [fh];done)|(rw [jd,List.getElem?_toArray,bR];done)|(rw [oq,List.getElem?_toArray,List.getElem?_toArray,bR,bR];done)|(rw [lB,List.getElem?_toArray,List.getElem?_toArray,bR,bR];done)|(rw [lC,List.getElem?_toArray,List.getElem?_toArray,List.getElem?_toArray,bR,bR,bR];done)|(rw [lD,List.getElem?_toArray,List.getElem?_toArray,List.getElem?_toArray,bR,bR,bR];done)|(cases ‹AV›<;>rfl)|(simp [ea];done)|(simp [eX,qD,qE,qG];done)|(rename_i ti _ _ _ _ _ _;cases ti<;>simp [qG];done)|(simp [sd,fc,fL,j6,mz];done)|(rename_i a b;cases a<;>cases b<;>rfl)|(rename_i a b;simp only [ea];split<;>simp_all)
theorem PG:(∀ (aU:Nat→Option TI) (s:St) (t:TypeId) (x:Operand),mZ aU (.unOp .not t x) s=yG (s.eval x))∧
  (∀ (aU:Nat→Option TI) (d:Option Tmp) (s:St) (t:TypeId) (x:Operand),lU aU (.unOp .neg t x) d s=tv d s (yH (s.eval x)))∧
  (∀ (aU:Nat→Option TI) (s:St) (t:TypeId) (x:Operand),mZ aU (.unOp .neg t x) s=yH (s.eval x))∧
  (∀ (aU:Nat→Option TI) (d:Option Tmp) (s:St) (x:Operand) (i:Nat),lU aU (.extract x i) d s=tv d s (my i (s.eval x)))∧
  (∀ (aU:Nat→Option TI) (s:St) (x:Operand) (i:Nat),mZ aU (.extract x i) s=my i (s.eval x))∧
  (∀ (aU:Nat→Option TI) (d:Option Tmp) (s:St) (t:TypeId) (x:Operand),lU aU (.load t x) d s=tv d s (nj s.hp (aU t) (s.eval x)))∧
  (∀ (aU:Nat→Option TI) (s:St) (t:TypeId) (x:Operand),mZ aU (.load t x) s=nj s.hp (aU t) (s.eval x))∧
  (∀ (aU:Nat→Option TI) (d:Option Tmp) (s:St) (t:TypeId) (x:Operand) (f:Nat),lU aU (.fieldAddr t x f) d s=tv d s (Fh f (aU t) (s.eval x)))∧
  (∀ (aU:Nat→Option TI) (s:St) (t:TypeId) (x:Operand) (f:Nat),mZ aU (.fieldAddr t x f) s=Fh f (aU t) (s.eval x))∧
  (∀ (aU:Nat→Option TI) (d:Option Tmp) (s:St) (t:TypeId) (x i:Operand),lU aU (.indexAddr t x i) d s=tv d s (wq aU (aU t) (s.eval x) (s.eval i)))∧
  (∀ (aU:Nat→Option TI) (s:St) (t:TypeId) (x i:Operand),mZ aU (.indexAddr t x i) s=wq aU (aU t) (s.eval x) (s.eval i))∧
  (∀ (aU:Nat→Option TI) (d:Option Tmp) (s:St) (t:TypeId) (ps:Array (Nat×Operand)),lU aU (.build t ps) d s=tv d s (oR aU (bJ s ps) (aU t)))∧
  (∀ (aU:Nat→Option TI) (s:St) (t:TypeId) (ps:Array (Nat×Operand)),mZ aU (.build t ps) s=oR aU (bJ s ps) (aU t))∧
  (∀ (aU:Nat→Option TI) (d:Option Tmp) (s:St) (x:Operand),lU aU (.nilCheck x) d s=tv d s (ui (s.eval x)))∧
  (∀ (aU:Nat→Option TI) (s:St) (x:Operand),mZ aU (.nilCheck x) s=ui (s.eval x))∧
  (∀ (aU:Nat→Option TI) (d:Option Tmp) (s:St) (f:FuncId) (caps:Array Operand),lU aU (.makeFunc (.func f) #[] caps) d s=tv d s (Du f (cn s caps) (AV.cj (cn s caps))))∧
  (∀ (aU:Nat→Option TI) (s:St) (f:FuncId) (caps:Array Operand),mZ aU (.makeFunc (.func f) #[] caps) s=Du f (cn s caps) (AV.cj (cn s caps)))∧
  (∀ (aU:Nat→Option TI) (d:Option Tmp) (s:St) (t:TypeId) (x:Operand) (lo hi:Option Operand),lU aU (.slice t x lo hi none) d s=tv d s (fc s.hp aU (vT (aU t)) (s.eval x) (lo.map s.eval) (hi.map s.eval)))∧
  (∀ (aU:Nat→Option TI) (s:St) (t:TypeId) (x:Operand) (lo hi:Option Operand),mZ aU (.slice t x lo hi none) s=fc s.hp aU (vT (aU t)) (s.eval x) (lo.map s.eval) (hi.map s.eval))∧
  (∀ (aU:Nat→Option TI) (d:Option Tmp) (s:St) (t:TypeId) (x m:Operand) (lo hi:Option Operand),lU aU (.slice t x lo hi (some m)) d s=tv d s (fL aU (vT (aU t)) (s.eval x) (lo.map s.eval) (hi.map s.eval) (some (s.eval m))))∧
  (∀ (aU:Nat→Option TI) (s:St) (t:TypeId) (x m:Operand) (lo hi:Option Operand),mZ aU (.slice t x lo hi (some m)) s=fL aU (vT (aU t)) (s.eval x) (lo.map s.eval) (hi.map s.eval) (some (s.eval m)))∧
  (∀ (aU:Nat→Option TI) (d:Option Tmp) (s:St) (x:Operand) (t:TypeId),lU aU (.call {callee:=.builtin .len,args:=#[x],argTypes:=#[t]}) d s=tv d s (sN (aU t) (s.eval x)))∧
  (∀ (aU:Nat→Option TI) (s:St) (x:Operand) (t:TypeId),mZ aU (.call {callee:=.builtin .len,args:=#[x],argTypes:=#[t]}) s=sN (aU t) (s.eval x))∧
  (∀ (aU:Nat→Option TI) (d:Option Tmp) (s:St) (x y:Operand) (eQ:Array TypeId),lU aU (.call {callee:=.builtin .min,args:=#[x,y],argTypes:=eQ}) d s=tv d s (pk (fun a b=>.ok (.int (min a b))) (s.eval x) (s.eval y)))∧
  (∀ (aU:Nat→Option TI) (s:St) (x y:Operand) (eQ:Array TypeId),mZ aU (.call {callee:=.builtin .min,args:=#[x,y],argTypes:=eQ}) s=pk (fun a b=>.ok (.int (min a b))) (s.eval x) (s.eval y)):=by
  refine ⟨?_,?_,?_,?_,?_,?_,?_,?_,?_,?_,?_,?_,?_,?_,?_,?_,?_,?_,?_,?_,?_,?_,?_,?_,?_⟩<;>intros<;>first|rfl|(rw [dE];done)|exact ij|exact gj|exact oo _ _ _|(rw [fh];done)|(rw [jd,List.getElem?_toArray,bR];done)|(rw [oq,List.getElem?_toArray,List.getElem?_toArray,bR,bR];done)|(rw [lB,List.getElem?_toArray,List.getElem?_toArray,bR,bR];done)|(rw [lC,List.getElem?_toArray,List.getElem?_toArray,List.getElem?_toArray,bR,bR,bR];done)|(rw [lD,List.getElem?_toArray,List.getElem?_toArray,List.getElem?_toArray,bR,bR,bR];done)|(cases ‹AV›<;>rfl)|(simp [ea];done)|(simp [eX,qD,qE,qG];done)|(rename_i ti _ _ _ _ _ _;cases ti<;>simp [qG];done)|(simp [sd,fc,fL,j6,mz];done)|(rename_i a b;cases a<;>cases b<;>rfl)|(rename_i a b;simp only [ea];split<;>simp_all)
theorem PH:(∀ (aU:Nat→Option TI) (d:Option Tmp) (s:St) (x y:Operand) (eQ:Array TypeId),lU aU (.call {callee:=.builtin .max,args:=#[x,y],argTypes:=eQ}) d s=tv d s (pk (fun a b=>.ok (.int (max a b))) (s.eval x) (s.eval y)))∧
  (∀ (aU:Nat→Option TI) (s:St) (x y:Operand) (eQ:Array TypeId),mZ aU (.call {callee:=.builtin .max,args:=#[x,y],argTypes:=eQ}) s=pk (fun a b=>.ok (.int (max a b))) (s.eval x) (s.eval y))∧
  (∀ (aU:Nat→Option TI) (d:Option Tmp) (s:St) (a b:TypeId) (x:Operand),lU aU (.convert a b x) d s=tv d s (ug (aU a) (aU b) (s.eval x)))∧
  (∀ (aU:Nat→Option TI) (s:St) (a b:TypeId) (x:Operand),mZ aU (.convert a b x) s=ug (aU a) (aU b) (s.eval x))∧
  (∀ (aU:Nat→Option TI) (d:Option Tmp) (s:St) (t:TypeId) (x i:Operand),lU aU (.index t x i) d s=tv d s (oQ aU (aU t) (s.eval x) (s.eval i)))∧
  (∀ (aU:Nat→Option TI) (s:St) (t:TypeId) (x i:Operand),mZ aU (.index t x i) s=oQ aU (aU t) (s.eval x) (s.eval i))∧
  (∀ (aU:Nat→Option TI) (d:Option Tmp) (s:St) (t:TypeId) (p x:Operand),lU aU (.store t p x) d s=xu s (s.eval x) d (aU t) (s.eval p))∧
  (∀ (aU:Nat→Option TI) (d:Option Tmp) (s:St) (e:TypeId),lU aU (.alloc e) d s=xv s e d (aU e))∧
  (∀ (aU:Nat→Option TI) (d:Option Tmp) (s:St) (e:TypeId) (x:Operand),lU aU (.box e x) d s=IF s e (s.eval x) d)∧
  (∀ (aU:Nat→Option TI) (d:Option Tmp) (s:St) (t:TypeId) (len:Nat) (ps:Array (Nat×Operand)),lU aU (.buildSlice t len ps) d s=IG aU s len (bJ s ps) d (vT (aU t)))∧
  (∀ (aU:Nat→Option TI) (d:Option Tmp) (s:St) (f:Operand) (args:Array Operand) (eQ:Array TypeId),lU aU (.call {callee:=.value f,args:=args,argTypes:=eQ}) d s= .no)∧
  (∀ (aU:Nat→Option TI) (d:Option Tmp) (s:St) (args:Array Operand) (eQ:Array TypeId),lU aU (.call {callee:=.builtin .append,args:=args,argTypes:=eQ}) d s= .no)∧
  (∀ (aU:Nat→Option TI) (d:Option Tmp) (s:St) (args:Array Operand) (eQ:Array TypeId),lU aU (.call {callee:=.builtin .copy,args:=args,argTypes:=eQ}) d s= .no)∧
  (∀ (aU:Nat→Option TI) (d:Option Tmp) (s:St) (args:Array Operand) (eQ:Array TypeId),lU aU (.call {callee:=.builtin .clear,args:=args,argTypes:=eQ}) d s= .no)∧
  (∀ (aU:Nat→Option TI) (d:Option Tmp) (s:St) (t:TypeId) (x y:Operand),lU aU (.makeSlice t x y) d s= .no)∧
  (∀ (aU:Nat→Option TI) (d:Option Tmp) (s:St) (t:TypeId) (x:Operand) (f:Nat),lU aU (.field t x f) d s= .no)∧
  (∀ (d:Option Tmp) (s:St) (x:AV),tv d s (.ok x)= .ok (s.put d x))∧
  (∀ (d:Option Tmp) (s:St) (c:Prop) [Decidable c] (f:c→AV),tv d s (.ex c f)= .ex c fun h=>s.put d (f h))∧
  (∀ (d:Option Tmp) (s:St),tv d s .no= .no)∧
  (∀ (s:St) (x:AV) (id off:Nat) (i:TI),xu s x none (some i) (.ptr id off)=On i s id off x (aW s.hp id))∧
  (∀ (s:St) (x:AV) (id off:Nat) (T:TypeId) (cs:List AV) (fl:Bool) (ag:Bool) (n b:Nat) (z:List AV) (k:xr),On (⟨ag,n,b,z,k⟩:TI) s id off x (some ⟨T,cs,fl⟩)= .ex ((KB x&&iz x.cells)=true∧x.cells.length=n∧off+n≤cs.length) fun _=>⟨s.fr,cK s.hp id ⟨T,fE cs off x.cells,fl⟩⟩)∧
  (∀ (s:St) (e d:Nat) (ag:Bool) (n b:Nat) (z:List AV) (k:xr),xv s e (some d) (some ⟨ag,n,b,z,k⟩)= .ex (s.free d=true) fun _=>⟨s.fr.set d (.ptr d 0),cK s.hp d ⟨e,z,true⟩⟩)∧
  (∀ (s:St) (e d:Nat) (x:AV),IF s e x (some d)= .ex ((s.free d&&KB x&&!AV.bz d x.cells)=true) fun _=>⟨s.fr.set d (.ptr d 0),cK s.hp d ⟨e,x.cells,true⟩⟩)∧
  (∀ (aU:Nat→Option TI) (s:St) (len:Nat) (ps:List (Nat×AV)) (d:Option Tmp) (e:Nat),IG aU s len ps d (some e)=Np s e len ps d (aU e))∧
  (∀ (s:St) (e d:Nat) (ag:Bool) (n b:Nat) (z:List AV) (k:xr),Np s e 0 [] (some d) (some ⟨ag,n,b,z,k⟩)= .ex (s.free d=true) fun _=>⟨s.fr.set d (.sl n b d 0 0),cK s.hp d ⟨e,[],true⟩⟩):=by
  refine ⟨?_,?_,?_,?_,?_,?_,?_,?_,?_,?_,?_,?_,?_,?_,?_,?_,?_,?_,?_,?_,?_,?_,?_,?_,?_⟩<;>intros<;>first|rfl|(rw [dE];done)|exact ij|exact gj|exact oo _ _ _|(rw [fh];done)|(rw [jd,List.getElem?_toArray,bR];done)|(rw [oq,List.getElem?_toArray,List.getElem?_toArray,bR,bR];done)|(rw [lB,List.getElem?_toArray,List.getElem?_toArray,bR,bR];done)|(rw [lC,List.getElem?_toArray,List.getElem?_toArray,List.getElem?_toArray,bR,bR,bR];done)|(rw [lD,List.getElem?_toArray,List.getElem?_toArray,List.getElem?_toArray,bR,bR,bR];done)|(cases ‹AV›<;>rfl)|(simp [ea];done)|(simp [eX,qD,qE,qG];done)|(rename_i ti _ _ _ _ _ _;cases ti<;>simp [qG];done)|(simp [sd,fc,fL,j6,mz];done)|(rename_i a b;cases a<;>cases b<;>rfl)|(rename_i a b;simp only [ea];split<;>simp_all)
theorem PI:(∀ (s:St) (e d l:Nat) (ps:List (Nat×AV)) (ag:Bool) (n b:Nat) (z:List AV) (k:xr),Np s e (l+1) ps (some d) (some ⟨ag,n,b,z,k⟩)= .ex (Li (l+1) n b ps=true) fun _=>s.put (some d) (.cr n b (ps.map (·.2))))∧
  (∀ (f:Int→Int→PR) (n m:Int),pk f (.int n) (.int m)=f n m)∧
  (∀ (aU:Nat→Option TI) (t:TypeId) (k:IntKind) (n m:Int),eX aU .lss t (.v (.int k n)) (.v (.int k m))= .ok (.bool (decide (n < m))))∧
  (∀ (aU:Nat→Option TI) (t:TypeId) (k:IntKind) (n m:Int),eX aU .leq t (.v (.int k n)) (.v (.int k m))= .ok (.bool (decide (n≤m))))∧
  (∀ (aU:Nat→Option TI) (t:TypeId) (k:IntKind) (n m:Int),eX aU .gtr t (.v (.int k n)) (.v (.int k m))= .ok (.bool (decide (m < n))))∧
  (∀ (aU:Nat→Option TI) (t:TypeId) (k:IntKind) (n m:Int),eX aU .geq t (.v (.int k n)) (.v (.int k m))= .ok (.bool (decide (m≤n))))∧
  (∀ (aU:Nat→Option TI) (t:TypeId) (n m:Int),eX aU .add t (.int n) (.int m)= .ex (-9223372036854775808≤n+m∧n+m≤9223372036854775807) fun _=>.int (n+m))∧
  (∀ (aU:Nat→Option TI) (t:TypeId) (n m:Int),eX aU .sub t (.int n) (.int m)= .ex (-9223372036854775808≤n - m∧n - m≤9223372036854775807) fun _=>.int (n - m))∧
  (∀ (aU:Nat→Option TI) (t:TypeId) (n m:Int),eX aU .mul t (.int n) (.int m)= .ex (-9223372036854775808≤n * m∧n * m≤9223372036854775807) fun _=>.int (n * m))∧
  (∀ (aU:Nat→Option TI) (t:TypeId) (n m:Int),eX aU .quo t (.int n) (.int m)= .ex (m≠0∧-9223372036854775808≤n.tdiv m∧n.tdiv m≤9223372036854775807) fun _=>.int (n.tdiv m))∧
  (∀ (aU:Nat→Option TI) (t:TypeId) (n m:Int),eX aU .rem t (.int n) (.int m)= .ex (m≠0) fun _=>.int (n.tmod m))∧
  (∀ (aU:Nat→Option TI) (t:TypeId) (k:IntKind) (n m:Int),eX aU .and t (.v (.int k n)) (.v (.int k m))= .ok (.v (.int k (bits .and k n m))))∧
  (∀ (aU:Nat→Option TI) (t:TypeId) (k:IntKind) (n m:Int),eX aU .or t (.v (.int k n)) (.v (.int k m))= .ok (.v (.int k (bits .or k n m))))∧
  (∀ (aU:Nat→Option TI) (t:TypeId) (k:IntKind) (n m:Int),eX aU .xor t (.v (.int k n)) (.v (.int k m))= .ok (.v (.int k (bits .xor k n m))))∧
  (∀ (aU:Nat→Option TI) (t:TypeId) (k:IntKind) (n m:Int),eX aU .andNot t (.v (.int k n)) (.v (.int k m))= .ok (.v (.int k (bits .andNot k n m))))∧
  (∀ (aU:Nat→Option TI) (t:TypeId) (k k':IntKind) (n m:Int),eX aU .shl t (.v (.int k n)) (.v (.int k' m))= .ex ((0≤m∧m≤kb k)∧yC k (n * 2 ^ m.toNat)) fun _=>.v (.int k (n * 2 ^ m.toNat)))∧
  (∀ (aU:Nat→Option TI) (t:TypeId) (k k':IntKind) (n m:Int),eX aU .shr t (.v (.int k n)) (.v (.int k' m))= .ex (0≤m∧m≤kb k) fun _=>.v (.int k (n / 2 ^ m.toNat)))∧
  (∀ (n:Int),yC .i64 n=(-9223372036854775808≤n∧n≤9223372036854775807))∧
  (kb .i64=64)∧
  (∀ (n:Int),yC .u64 n=(0≤n∧n≤18446744073709551615))∧
  (kb .u64=64)∧
  (∀ (n:Int),yC .i32 n=(-2147483648≤n∧n≤2147483647))∧
  (kb .i32=32)∧
  (∀ (n:Int),yC .u32 n=(0≤n∧n≤4294967295))∧
  (kb .u32=32):=by
  refine ⟨?_,?_,?_,?_,?_,?_,?_,?_,?_,?_,?_,?_,?_,?_,?_,?_,?_,?_,?_,?_,?_,?_,?_,?_,?_⟩<;>intros<;>first|rfl|(rw [dE];done)|exact ij|exact gj|exact oo _ _ _|(rw [fh];done)|(rw [jd,List.getElem?_toArray,bR];done)|(rw [oq,List.getElem?_toArray,List.getElem?_toArray,bR,bR];done)|(rw [lB,List.getElem?_toArray,List.getElem?_toArray,bR,bR];done)|(rw [lC,List.getElem?_toArray,List.getElem?_toArray,List.getElem?_toArray,bR,bR,bR];done)|(rw [lD,List.getElem?_toArray,List.getElem?_toArray,List.getElem?_toArray,bR,bR,bR];done)|(cases ‹AV›<;>rfl)|(simp [ea];done)|(simp [eX,qD,qE,qG];done)|(rename_i ti _ _ _ _ _ _;cases ti<;>simp [qG];done)|(simp [sd,fc,fL,j6,mz];done)|(rename_i a b;cases a<;>cases b<;>rfl)|(rename_i a b;simp only [ea];split<;>simp_all)
theorem PJ:(∀ (n:Int),yC .i16 n=(-32768≤n∧n≤32767))∧
  (kb .i16=16)∧
  (∀ (n:Int),yC .u16 n=(0≤n∧n≤65535))∧
  (kb .u16=16)∧
  (∀ (n:Int),yC .i8 n=(-128≤n∧n≤127))∧
  (kb .i8=8)∧
  (∀ (n:Int),yC .u8 n=(0≤n∧n≤255))∧
  (kb .u8=8)∧
  (∀ (n:Int),n / 2 ^ (1:Int).toNat=n / 2)∧
  (∀ (n:Int),n / 2 ^ (2:Int).toNat=n / 4)∧
  (∀ (ti:TI) (ag:Bool) (n b:Nat) (z:List AV) (k k':IntKind) (m:Int),ug (some ti) (some ⟨ag,n,b,z,.int k⟩) (.v (.int k' m))= .ex (yC k m) fun _=>.v (.int k m))∧
  (∀ (aU:Nat→Option TI) (t:TypeId) (x y:AV),eX aU .eql t x y=qG false (aU t) x y)∧
  (∀ (aU:Nat→Option TI) (t:TypeId) (x y:AV),eX aU .neq t x y=qG true (aU t) x y)∧
  (∀ (ti:Option TI) (k:IntKind) (n m:Int),qG false ti (.v (.int k n)) (.v (.int k m))= .ok (.bool (n == m)))∧
  (∀ (ti:Option TI) (k:IntKind) (n m:Int),qG true ti (.v (.int k n)) (.v (.int k m))= .ok (.bool (n != m)))∧
  (∀ (ng:Bool) (ti:Option TI) (a b:ByteArray),qG ng ti (.v (.string a)) (.v (.string b))=Il ng (a.toList == b.toList))∧
  (∀ (ag:Bool) (n b:Nat) (z:List AV) (x:ByteArray),sN (some ⟨ag,n,b,z,.str⟩) (.v (.string x))= .ok (.int x.size))∧
  (∀ (aU:Nat→Option TI) (ag:Bool) (n b:Nat) (z:List AV) (x:ByteArray) (i:Int),oQ aU (some ⟨ag,n,b,z,.str⟩) (.v (.string x)) (.int i)= .ex (0≤i∧i.toNat < x.size) fun h=>.v (.int .u8 (x[i.toNat]'h.2).toNat))∧
  (∀ (aU:Nat→Option TI) (ag:Bool) (n b:Nat) (z:List AV) (N e:Nat) (i2:Bool) (cs:List AV) (i:Int),oQ aU (some ⟨ag,n,b,z,.ar N e i2⟩) (.agg cs) (.int i)=Cg N cs i (aU e))∧
  (∀ (N:Nat) (cs:List AV) (i:Int) (b:Nat) (z:List AV) (k:xr),Cg N cs i (some ⟨false,1,b,z,k⟩)= .ex (0≤i∧i < N∧i.toNat < cs.length) fun h=>cs[i.toNat]'h.2.2)∧
  (∀ (ng ag:Bool) (n b:Nat) (z:List AV) (x y:Bool),qG ng (some ⟨ag,n,b,z,.bool⟩) (.bool x) (.bool y)=Il ng (x == y))∧
  (∀ (ng ag:Bool) (n m:Nat) (z:List AV) (pl:List (Nat×Nat)) (a b c d:Int),qG ng (some ⟨ag,n,m,z,.st pl true⟩) (.agg [.int a,.int b]) (.agg [.int c,.int d])=Il ng (a == c&&b == d))∧
  (∀ (ng ag:Bool) (n m:Nat) (z:List AV) (N e:Nat) (a b c d:Int),qG ng (some ⟨ag,n,m,z,.ar N e true⟩) (.agg [.int a,.int b]) (.agg [.int c,.int d])=Il ng (a == c&&b == d))∧
  (∀ (ng:Bool) (ti:Option TI) (sz bw:Nat) (es:List AV) (A:Option Addr) (n c:Nat),qG ng ti (.cr sz bw es) (.v (.slice A n c))= .no)∧
  (∀ (b:Bool),Il false b= .ok (.bool b)):=by
  refine ⟨?_,?_,?_,?_,?_,?_,?_,?_,?_,?_,?_,?_,?_,?_,?_,?_,?_,?_,?_,?_,?_,?_,?_,?_,?_⟩<;>intros<;>first|rfl|(rw [dE];done)|exact ij|exact gj|exact oo _ _ _|(rw [fh];done)|(rw [jd,List.getElem?_toArray,bR];done)|(rw [oq,List.getElem?_toArray,List.getElem?_toArray,bR,bR];done)|(rw [lB,List.getElem?_toArray,List.getElem?_toArray,bR,bR];done)|(rw [lC,List.getElem?_toArray,List.getElem?_toArray,List.getElem?_toArray,bR,bR,bR];done)|(rw [lD,List.getElem?_toArray,List.getElem?_toArray,List.getElem?_toArray,bR,bR,bR];done)|(cases ‹AV›<;>rfl)|(simp [ea];done)|(simp [eX,qD,qE,qG];done)|(rename_i ti _ _ _ _ _ _;cases ti<;>simp [qG];done)|(simp [sd,fc,fL,j6,mz];done)|(rename_i a b;cases a<;>cases b<;>rfl)|(rename_i a b;simp only [ea];split<;>simp_all)
theorem PK:(∀ (b:Bool),Il true b= .ok (.bool (!b)))∧
  (∀ (b:Bool),yG (.bool b)= .ok (.bool (!b)))∧
  (∀ (n:Int),yH (.int n)= .ex (-9223372036854775808≤-n∧-n≤9223372036854775807) fun _=>.int (-n))∧
  (∀ (b:Bool) (x y:AV),uh (.bool b) x y=ea b x y)∧
  (∀ (x y:AV),ea true x y= .ok x)∧
  (∀ (x y:AV),ea false x y= .ok y)∧
  (∀ (b p q:Bool),ea b (.bool p) (.bool q)= .ok (.bool (if b then p else q)))∧
  (∀ (c:AV),Ce (some c)= .ok c)∧
  (∀ (i:Nat) (cs:List AV),my i (.dr cs)=Ce cs[i]?)∧
  (∀ (hp:Hp) (i:TI) (id off:Nat),nj hp (some i) (.ptr id off)=MK i off (aW hp id))∧
  (∀ (hp:Hp) (i:TI) (cs:List AV),nj hp (some i) (.bx cs)=ML i cs)∧
  (∀ (n b:Nat) (z:List AV) (k:xr) (off:Nat) (T:TypeId) (cs:List AV) (fl:Bool),MK ⟨true,n,b,z,k⟩ off (some ⟨T,cs,fl⟩)= .ex (off+n≤cs.length) fun _=>.agg ((cs.drop off).take n))∧
  (∀ (n b:Nat) (z:List AV) (k:xr) (off:Nat) (T:TypeId) (cs:List AV) (fl:Bool),MK ⟨false,n,b,z,k⟩ off (some ⟨T,cs,fl⟩)= .ex (off < cs.length) fun h=>cs[off]'h)∧
  (∀ (n b:Nat) (z:List AV) (k:xr) (cs:List AV),ML ⟨true,n,b,z,k⟩ cs= .ex (n≤cs.length) fun _=>.agg (cs.take n))∧
  (∀ (n b:Nat) (z:List AV) (k:xr) (cs:List AV),ML ⟨false,n,b,z,k⟩ cs= .ex (0 < cs.length) fun h=>cs[0]'h)∧
  (∀ (f:Nat) (ag:Bool) (n b:Nat) (z:List AV) (pl:List (Nat×Nat)) (e:Bool) (x:AV),Fh f (some ⟨ag,n,b,z,.st pl e⟩) x=mz x pl[f]?)∧
  (∀ (id off o n:Nat),mz (.ptr id off) (some (o,n+1))= .ok (.ptr id (off+o)))∧
  (∀ (cs:List AV) (o n:Nat),mz (.bx cs) (some (o,n+1))= .ok (.bx (cs.drop o)))∧
  (∀ (aU:Nat→Option TI) (ag:Bool) (n b:Nat) (z:List AV) (e:Nat) (x:AV) (i:Int),wq aU (some ⟨ag,n,b,z,.sl e⟩) x (.int i)=sd (aU e) i x)∧
  (∀ (aU:Nat→Option TI) (ag:Bool) (n b:Nat) (z:List AV) (N e:Nat) (i2:Bool) (x:AV) (i:Int),wq aU (some ⟨ag,n,b,z,.ar N e i2⟩) x (.int i)=mA N (aU e) i x)∧
  (∀ (ag:Bool) (sz b:Nat) (z:List AV) (k:xr) (bw:Nat) (n:Int) (es:List AV),sd (some ⟨ag,sz,b,z,k⟩) n (.cr sz bw es)= .ex (0≤n∧n.toNat < es.length) fun h=>.bx (es[n.toNat]'h.2).cells)∧
  (∀ (ag:Bool) (sz b:Nat) (z:List AV) (k:xr) (bw id off len:Nat) (n:Int),sd (some ⟨ag,sz,b,z,k⟩) n (.sl sz bw id off len)= .ex (0≤n∧n.toNat < len) fun _=>.ptr id (off+n.toNat * sz))∧
  (∀ (N:Nat) (ag:Bool) (sz b:Nat) (z:List AV) (k:xr) (n:Int) (id off:Nat),mA N (some ⟨ag,sz,b,z,k⟩) n (.ptr id off)= .ex (0≤n∧n.toNat < N) fun _=>.ptr id (off+n.toNat * sz))∧
  (∀ (N:Nat) (ag:Bool) (sz b:Nat) (z:List AV) (k:xr) (n:Int) (cs:List AV),mA N (some ⟨ag,sz,b,z,k⟩) n (.bx cs)= .ex (0≤n∧n.toNat < N) fun _=>.bx (cs.drop (n.toNat * sz)))∧
  (∀ (ag:Bool) (n b:Nat) (z:List AV) (e:Nat) (sz bw:Nat) (es:List AV),sN (some ⟨ag,n,b,z,.sl e⟩) (.cr sz bw es)= .ok (.int es.length)):=by
  refine ⟨?_,?_,?_,?_,?_,?_,?_,?_,?_,?_,?_,?_,?_,?_,?_,?_,?_,?_,?_,?_,?_,?_,?_,?_,?_⟩<;>intros<;>first|rfl|(rw [dE];done)|exact ij|exact gj|exact oo _ _ _|(rw [fh];done)|(rw [jd,List.getElem?_toArray,bR];done)|(rw [oq,List.getElem?_toArray,List.getElem?_toArray,bR,bR];done)|(rw [lB,List.getElem?_toArray,List.getElem?_toArray,bR,bR];done)|(rw [lC,List.getElem?_toArray,List.getElem?_toArray,List.getElem?_toArray,bR,bR,bR];done)|(rw [lD,List.getElem?_toArray,List.getElem?_toArray,List.getElem?_toArray,bR,bR,bR];done)|(cases ‹AV›<;>rfl)|(simp [ea];done)|(simp [eX,qD,qE,qG];done)|(rename_i ti _ _ _ _ _ _;cases ti<;>simp [qG];done)|(simp [sd,fc,fL,j6,mz];done)|(rename_i a b;cases a<;>cases b<;>rfl)|(rename_i a b;simp only [ea];split<;>simp_all)
theorem PM:(∀ (ag:Bool) (n b:Nat) (z:List AV) (e:Nat) (sz bw id off m:Nat),sN (some ⟨ag,n,b,z,.sl e⟩) (.sl sz bw id off m)= .ok (.int m))∧
  (∀ (ag:Bool) (n b:Nat) (z:List AV) (e:Nat) (A:Option Addr) (m c:Nat),sN (some ⟨ag,n,b,z,.sl e⟩) (.v (.slice A m c))= .ok (.int m))∧
  (∀ (aU:Nat→Option TI) (ps:List (Nat×AV)) (ag:Bool) (n b:Nat) (z:List AV) (pl:List (Nat×Nat)) (e:Bool),oR aU ps (some ⟨ag,n,b,z,.st pl e⟩)= .ex (eb (fun i=>pl[i]?) z.length ps=true) fun _=>.agg (fV (fun i=>(pl[i]?).map (·.1)) z ps))∧
  (∀ (aU:Nat→Option TI) (ps:List (Nat×AV)) (ag:Bool) (n b:Nat) (z:List AV) (N e:Nat) (i2:Bool),oR aU ps (some ⟨ag,n,b,z,.ar N e i2⟩)=yT ps z (aU e))∧
  (∀ (ps:List (Nat×AV)) (ag:Bool) (n b:Nat) (z w:List AV) (k:xr),yT ps w (some ⟨ag,n,b,z,k⟩)= .ex (eb (fun k=>some (k * n,n)) w.length ps=true) fun _=>.agg (fV (fun k=>some (k * n)) w ps))∧
  (∀ (i o:Nat),ui (.ptr i o)= .ok (.ptr i o))∧
  (∀ (cs:List AV),ui (.bx cs)= .ok (.bx cs))∧
  (∀ (f:FuncId) (cs:List AV),ui (.fn f cs)= .ok (.fn f cs))∧
  (∀ (f:FuncId) (cs:List AV),Du f cs true=if f≤999999999 then .ok (.fn f cs) else .no)∧
  (∀ (f:FuncId) (cs:List AV),Du f cs false= .no)∧
  (∀ (ag:Bool) (n b:Nat) (z:List AV) (e:Nat),vT (some ⟨ag,n,b,z,.sl e⟩)=some e)∧
  (∀ (hp:Hp) (aU:Nat→Option TI) (e sz bw:Nat) (es:List AV) (n:Int),fc hp aU (some e) (.cr sz bw es) (some (.int n)) none=j6 sz (aU e) (0≤n∧n≤es.length) (.cr sz bw (es.drop n.toNat)))∧
  (∀ (hp:Hp) (aU:Nat→Option TI) (e sz bw:Nat) (es:List AV) (n:Int),fc hp aU (some e) (.cr sz bw es) none (some (.int n))=j6 sz (aU e) (0≤n∧n≤es.length) (.cr sz bw (es.take n.toNat)))∧
  (∀ (hp:Hp) (aU:Nat→Option TI) (e sz bw:Nat) (es:List AV) (n m:Int),fc hp aU (some e) (.cr sz bw es) (some (.int n)) (some (.int m))=j6 sz (aU e) (0≤n∧n≤m∧m≤es.length) (.cr sz bw ((es.take m.toNat).drop n.toNat)))∧
  (∀ (hp:Hp) (aU:Nat→Option TI) (e sz bw id off k:Nat) (n:Int),fc hp aU (some e) (.sl sz bw id off k) (some (.int n)) none=j6 sz (aU e) (0 < sz∧0≤n∧n≤k) (Ch sz bw id (off+n.toNat * sz) (k - n.toNat)))∧
  (∀ (hp:Hp) (aU:Nat→Option TI) (e sz bw id off k:Nat) (n m:Int),fc hp aU (some e) (.sl sz bw id off k) (some (.int n)) (some (.int m))=j6 sz (aU e) (0 < sz∧0≤n∧n≤m∧od off (m.toNat * sz) (aW hp id)∧m.toNat * bw≤140737488355328) (Ch sz bw id (off+n.toNat * sz) (m.toNat - n.toNat)))∧
  (∀ (aU:Nat→Option TI) (e sz bw id off k:Nat) (n m x:Int),fL aU (some e) (.sl sz bw id off k) (some (.int n)) (some (.int m)) (some (.int x))=j6 sz (aU e) (0≤n∧n≤m∧m≤x∧x≤k) .any)∧
  (∀ (off k:Nat) (T:TypeId) (cs:List AV) (fl:Bool),od off k (some ⟨T,cs,fl⟩)=(off+k≤cs.length))∧
  (∀ (hp:Hp) (aU:Nat→Option TI) (e sz bw id off k:Nat) (m:Int),fc hp aU (some e) (.sl sz bw id off k) none (some (.int m))=j6 sz (aU e) (0≤m∧m≤k) (.sl sz bw id off m.toNat))∧
  (∀ (ag:Bool) (sz b:Nat) (z:List AV) (k:xr) (c:Prop) [Decidable c] (x:AV),j6 sz (some ⟨ag,sz,b,z,k⟩) c x= .ex c fun _=>x)∧
  (∀ (P:Program) (aU:Nat→Option TI) (ops:Array Oper) (hs:List Nat) (K:St→Prop) (r:Sc) (s':St),Oq P aU ops hs K r (.ok s')=fh P aU ops hs K r s')∧
  (∀ (P:Program) (aU:Nat→Option TI) (ops:Array Oper) (hs:List Nat) (K:St→Prop) (r:Sc) (c:Prop) [Decidable c] (f:c→St),Oq P aU ops hs K r (.ex c f)=∃ h:c,fh P aU ops hs K r (f h)):=by
  refine ⟨?_,?_,?_,?_,?_,?_,?_,?_,?_,?_,?_,?_,?_,?_,?_,?_,?_,?_,?_,?_,?_,?_⟩<;>intros<;>first|rfl|(rw [dE];done)|exact ij|exact gj|exact oo _ _ _|(rw [fh];done)|(rw [jd,List.getElem?_toArray,bR];done)|(rw [oq,List.getElem?_toArray,List.getElem?_toArray,bR,bR];done)|(rw [lB,List.getElem?_toArray,List.getElem?_toArray,bR,bR];done)|(rw [lC,List.getElem?_toArray,List.getElem?_toArray,List.getElem?_toArray,bR,bR,bR];done)|(rw [lD,List.getElem?_toArray,List.getElem?_toArray,List.getElem?_toArray,bR,bR,bR];done)|(cases ‹AV›<;>rfl)|(simp [ea];done)|(simp [eX,qD,qE,qG];done)|(rename_i ti _ _ _ _ _ _;cases ti<;>simp [qG];done)|(simp [sd,fc,fL,j6,mz];done)|(rename_i a b;cases a<;>cases b<;>rfl)|(rename_i a b;simp only [ea];split<;>simp_all)
theorem ww:type_of% (And.intro PE (And.intro PF (And.intro PG (And.intro PH (And.intro PI (And.intro PJ (And.intro PK PM))))))):=And.intro PE (And.intro PF (And.intro PG (And.intro PH (And.intro PI (And.intro PJ (And.intro PK PM))))))
theorem PN:(∀ (p:Prop),(True∧p)=p)∧
  (∀ (p:Prop),(p∧True)=p)∧
  (∀ (n:Nat),(n≤n)=True)∧
  (∀ (α:Type) (a:α),(a=a)=True)∧
  (∀ (n:Nat),(0≤(n:Int))=True)∧
  (∀ (n:Nat),(0 < n+1)=True)∧
  (∀ (α:Type) (a b:α) (l:List α),(a::l).set 0 b=b::l)∧
  (∀ (α:Type) (a b:α) (l:List α) (n:Nat),(a::l).set (n+1) b=a::l.set n b)∧
  (∀ (α:Type) (a d:α) (l:List α),(a::l).getD 0 d=a)∧
  (∀ (α:Type) (a d:α) (l:List α) (n:Nat),(a::l).getD (n+1) d=l.getD n d)∧
  (∀ (α:Type) (a:α) (l:List α),(a::l)[0]?=some a)∧
  (∀ (α:Type) (a:α) (l:List α) (n:Nat),(a::l)[n+1]?=l[n]?)∧
  (∀ (α:Type) (a:α) (l:List α) (h:0 < (a::l).length),(a::l)[0]'h=a)∧
  (∀ (α:Type) (a:α) (l:List α) (n:Nat) (h:n+1 < (a::l).length),(a::l)[n+1]'h=l[n]'(Nat.lt_of_succ_lt_succ h))∧
  (∀ (α β:Type) (f:α→β) (l:List α) (n:Nat) (h:n < (l.map f).length),(l.map f)[n]'h=f (l[n]'(by simpa using h)))∧
  (∀ (α β:Type) (f:α→β) (a:α) (l:List α),(a::l).map f=f a::l.map f)∧
  (∀ (α β:Type) (f:α→β),([]:List α).map f=[])∧
  (∀ (α:Type) (l:List α),l.drop 0=l)∧
  (∀ (α:Type) (a:α) (l:List α) (n:Nat),(a::l).drop (n+1)=l.drop n)∧
  (∀ (α:Type) (l:List α),l.take 0=[])∧
  (∀ (α:Type) (a:α) (l:List α) (n:Nat),(a::l).take (n+1)=a::l.take n)∧
  (∀ (n:Nat),0+n=n)∧
  (∀ (n:Nat),n+0=n)∧
  (∀ (n:Nat),n * 1=n)∧
  (∀ (n:Nat),1 * n=n)∧
  (∀ (n:Nat),0 * n=0)∧
  (∀ (α β:Type) (f:α→β) (a:α),(some a).map f=some (f a))∧
  (∀ (α β:Type) (f:α→β),(none:Option α).map f=none)∧
  (∀ (α:Type) (l:List α),l.toArray.toList=l)∧
  ((!true)=false):=by
  refine ⟨?_,?_,?_,?_,?_,?_,?_,?_,?_,?_,?_,?_,?_,?_,?_,?_,?_,?_,?_,?_,?_,?_,?_,?_,?_,?_,?_,?_,?_,?_⟩<;>intros<;>first|rfl|(simp;done)|exact toNat_pred _|exact toNat_succ _|exact mr _ _ _|exact oa _ _ _ _ _ _|exact lE _ _|exact kh _ _|(cases ‹Bool›<;>rfl)|(rename_i a b;cases a<;>cases b<;>rfl)|(simp [AV.dA];done)|exact nf _ _|exact lu _ _|exact iJ _ _ _|exact ka _ _ _|(exact xA az)|(rename_i hle;simp only [St.free,hle,decide_true,Bool.true_and])
theorem PO:((!false)=true)∧
  ((false=true)=False)∧
  ((true=true)=True)∧
  (∀ (α:Type) (a b:α),(if true=true then a else b)=a)∧
  (∀ (α:Type) (a b:α),(if false=true then a else b)=b)∧
  (∀ (α:Type) (a b:α),(if True then a else b)=a)∧
  (∀ (α:Type) (a b:α),(if False then a else b)=b)∧
  (∀ (b c:Bool),(if b=true then true else c)=(b|| c))∧
  (∀ (b c:Bool),(if b=true then c else false)=(b&&c))∧
  (∀ (n:Nat),(n:Int).toNat=n)∧
  ((0:Int).toNat=0)∧
  (∀ (k:Nat),((k:Int) - 1).toNat=k - 1)∧
  (∀ (k:Nat),((k:Int)+1).toNat=k+1)∧
  (∀ (α β:Type) (f:α→β) (l:List α),(l.map f).length=l.length)∧
  (∀ (id:Nat),AV.dJ id .any= .any)∧
  (∀ (id:Nat) (x:Value),AV.dJ id (.v x)= .v x)∧
  (∀ (id a b:Nat) (es:List AV),AV.dJ id (.cr a b es)= .cr a b es)∧
  (∀ (id:Nat) (es:List AV),AV.dJ id (.bx es)= .bx es)∧
  (∀ (id i o:Nat),AV.dJ id (.ptr i o)=if i=id then .any else .ptr i o)∧
  (∀ (id a b i o n:Nat),AV.dJ id (.sl a b i o n)=if i=id then .any else .sl a b i o n)∧
  (∀ (α β:Type) (f:α→List β) (a:α) (l:List α),(a::l).flatMap f=f a++l.flatMap f)∧
  (∀ (α β:Type) (f:α→List β),([]:List α).flatMap f=[])∧
  (∀ (α:Type) (l:List α),l++[]=l)∧
  (∀ (α:Type) (a:α) (l m:List α),a::l++m=a::(l++m))∧
  (∀ (α:Type) (l:List α),[]++l=l)∧
  (∀ (α:Type) (a:α) (l:List α),(a::l).length=l.length+1)∧
  (∀ (α:Type),([]:List α).length=0)∧
  (∀ (α β:Type) (f:α→β) (l m:List α),(l++m).map f=l.map f++m.map f)∧
  (∀ (α:Type) (l m:List α),(l++m).length=l.length+m.length)∧
  (∀ (id:Nat) (xs:List Int),AV.ct id (xs.map AV.int)=xs.map AV.int):=by
  refine ⟨?_,?_,?_,?_,?_,?_,?_,?_,?_,?_,?_,?_,?_,?_,?_,?_,?_,?_,?_,?_,?_,?_,?_,?_,?_,?_,?_,?_,?_,?_⟩<;>intros<;>first|rfl|(simp;done)|exact toNat_pred _|exact toNat_succ _|exact mr _ _ _|exact oa _ _ _ _ _ _|exact lE _ _|exact kh _ _|(cases ‹Bool›<;>rfl)|(rename_i a b;cases a<;>cases b<;>rfl)|(simp [AV.dA];done)|exact nf _ _|exact lu _ _|exact iJ _ _ _|exact ka _ _ _|(exact xA az)|(rename_i hle;simp only [St.free,hle,decide_true,Bool.true_and])
theorem PQ:(∀ (id:Nat) (xs:List Bool),AV.ct id (xs.map AV.bool)=xs.map AV.bool)∧
  (∀ (b:Bool),(true&&b)=b)∧
  (∀ (b:Bool),(false&&b)=false)∧
  (∀ (b:Bool),(b&&true)=b)∧
  (∀ (b:Bool),(b&&false)=false)∧
  (∀ (b:Bool),(true|| b)=true)∧
  (∀ (b:Bool),(false|| b)=b)∧
  (∀ (b:Bool),(b|| true)=true)∧
  (∀ (b:Bool),(b|| false)=b)∧
  (∀ (p:True→Prop),(∃ h:True,p h)=p trivial)∧
  (∀ (s:St) (x:AV),s.put none x=s)∧
  (∀ (f:List AV) (h:Hp) (d:Nat) (x:AV),St.put ⟨f,h⟩ (some d) x=⟨f.set d x,h⟩)∧
  (∀ (s:St) (t:Nat),s.eval (.tmp t)=s.fr.getD t .any)∧
  (∀ (s:St) (x:Value),s.eval (.const x)=AV.dA x)∧
  (∀ (s:St) (f:FuncId),f≤999999999→s.eval (.func f)= .fn f [])∧
  (∀ (s:St) (ps:Array (Nat×Operand)),bJ s ps=ps.toList.map fun p=>(p.1,s.eval p.2))∧
  (∀ (s:St) (args:Array Operand),cn s args=args.toList.map s.eval)∧
  (∀ (k:IntKind) (n:Int),AV.dA (.int k n)= .v (.int k n))∧
  (∀ (b:Bool),AV.dA (.bool b)= .v (.bool b))∧
  (∀ (b:ByteArray),AV.dA (.string b)= .v (.string b))∧
  (∀ (A:Option Addr) (n c:Nat),AV.dA (.slice A n c)= .v (.slice A n c))∧
  (∀ (A:Option Addr),AV.dA (.pointer A)= .v (.pointer A))∧
  (∀ (l:List Value),AV.dA (.agg l.toArray)= .agg (l.map AV.v))∧
  (∀ (α:Type) (l m:List α),l.append m=l++m)∧
  (∀ (id:Nat) (l:List AV),AV.dJ id (.agg l)=if AV.bz id l then .any else .agg l)∧
  (∀ (id:Nat) (l:List AV),AV.dJ id (.dr l)=if AV.bz id l then .any else .dr l)∧
  (∀ (id:Nat) (f:FuncId) (l:List AV),AV.dJ id (.fn f l)=if AV.bz id l then .any else .fn f l)∧
  (∀ (f:List AV) (h:Hp) (id:Nat),id≤999999999→St.free ⟨f,h⟩ id= !(AV.bz id f|| cI id h))∧
  (∀ (id:Nat),AV.bz id []=false)∧
  (∀ (id:Nat) (x:AV) (r:List AV),AV.bz id (x::r)=(AV.cv id x|| AV.bz id r)):=by
  refine ⟨?_,?_,?_,?_,?_,?_,?_,?_,?_,?_,?_,?_,?_,?_,?_,?_,?_,?_,?_,?_,?_,?_,?_,?_,?_,?_,?_,?_,?_,?_⟩<;>intros<;>first|rfl|(simp;done)|exact toNat_pred _|exact toNat_succ _|exact mr _ _ _|exact oa _ _ _ _ _ _|exact lE _ _|exact kh _ _|(cases ‹Bool›<;>rfl)|(rename_i a b;cases a<;>cases b<;>rfl)|(simp [AV.dA];done)|exact nf _ _|exact lu _ _|exact iJ _ _ _|exact ka _ _ _|(exact xA az)|(rename_i hle;simp only [St.free,hle,decide_true,Bool.true_and])
theorem PS:(∀ (id:Nat),AV.cv id .any=false)∧
  (∀ (id:Nat) (x:Value),AV.cv id (.v x)=false)∧
  (∀ (id a b:Nat) (es:List AV),AV.cv id (.cr a b es)=false)∧
  (∀ (id:Nat) (es:List AV),AV.cv id (.bx es)=false)∧
  (∀ (id i o:Nat),AV.cv id (.ptr i o)=(i == id))∧
  (∀ (id a b i o n:Nat),AV.cv id (.sl a b i o n)=(i == id))∧
  (∀ (id:Nat) (cs:List AV),AV.cv id (.agg cs)=AV.bz id cs)∧
  (∀ (id:Nat) (cs:List AV),AV.cv id (.dr cs)=AV.bz id cs)∧
  (∀ (id:Nat) (f:FuncId) (cs:List AV),AV.cv id (.fn f cs)=AV.bz id cs)∧
  (∀ (id:Nat),cI id []=false)∧
  (∀ (id i:Nat) (b:fZ) (r:Hp),cI id ((i,b)::r)=(i == id|| AV.bz id b.cs|| cI id r))∧
  (∀ (id:Nat) (xs:List Int),AV.bz id (xs.map AV.int)=false)∧
  (∀ (id:Nat) (xs:List Bool),AV.bz id (xs.map AV.bool)=false)∧
  (∀ (id n:Nat) (x:Value),AV.bz id (List.replicate n (.v x))=false)∧
  (∀ (id:Nat) (a b:List AV),AV.bz id (a++b)=(AV.bz id a|| AV.bz id b)):=by
  refine ⟨?_,?_,?_,?_,?_,?_,?_,?_,?_,?_,?_,?_,?_,?_,?_⟩<;>intros<;>first|rfl|(simp;done)|exact toNat_pred _|exact toNat_succ _|exact mr _ _ _|exact oa _ _ _ _ _ _|exact lE _ _|exact kh _ _|(cases ‹Bool›<;>rfl)|(rename_i a b;cases a<;>cases b<;>rfl)|(simp [AV.dA];done)|exact nf _ _|exact lu _ _|exact iJ _ _ _|exact ka _ _ _|(exact xA az)|(rename_i hle;simp only [St.free,hle,decide_true,Bool.true_and])
theorem nn:type_of% (And.intro PN (And.intro PO (And.intro PQ PS))):=(And.intro PN (And.intro PO (And.intro PQ PS)))
end Go.Ab
namespace Go.Ab
variable {P:Program}
def Ov:List (Nat×TI)→Nat→Option TI
  |[],_=>none
  |(i,x)::r,t=>if i=t then some x else Ov r t
def Fw (P:Program):List (Nat×TI)→Prop
  |[]=>True
  |(t,i)::r=>AT P t i∧Fw P r
theorem Fx:∀ {L:List (Nat×TI)} {t:Nat} {i:TI},Fw P L→Ov L t=some i→AT P t i
  |[],_,_,_,h=>by cases h
  |(k,x)::r,t,i,h,hl=>by
    simp only [Ov] at hl
    split at hl
    · rename_i hk;subst hk;injection hl with hl;subst hl;exact h.1
    · exact Fx h.2 hl
theorem Fy {t:TypeId} {d:TypeDesc} {z:Value} {n b:Nat} {ag:Bool} {zs:List AV} {k:xr} (hu:cJ P t d) (hi:dm P t z n b) (h1:kc d=ag) (h2:(AV.dA z).cells=zs) (h3:Dt P t d k):AT P t ⟨ag,n,b,zs,k⟩:=
  ⟨d,z,hu,hi,h1,h2,h3⟩
theorem Lm {t:TypeId} {d:TypeDesc} {pl:List (Nat×Nat)} (h:mf P t pl):Dt P t d (.st pl false):=⟨h,fun h=>by cases h⟩
theorem Cs {t:TypeId} {f1 f2:Field} {k1 k2:IntKind} {pl:List (Nat×Nat)} (h:mf P t pl) (g1:cJ P f1.type (.int k1)) (g2:cJ P f2.type (.int k2)) (g3:Ky P t f1 f2=true):Dt P t (.struct #[f1,f2]) (.st pl true):=
  ⟨h,fun _=>⟨f1,f2,k1,k2,rfl,g1,g2,g3⟩⟩
end Go.Ab
namespace Go.Ab
open Go.RowKit
variable {P:Program}
theorem Ns {c:Prop} {p:c→Prop} (hc:c):(∃ h:c,p h)=p hc:=propext ⟨fun ⟨_,k⟩=>k,fun k=>⟨hc,k⟩⟩
attribute [go_sem] Ns KB iz AV.one Value.oneCell' ww nn aW cK fE AV.cells fV AV.ct dZ AV.fm AV.cj AV.iv AV.eJ ki fy sO A5
theorem aP {aU:Nat→Option TI} [hT:Tb P aU] {id:Nat} {l:List Oper} {s:St} {Q:Exit→St→Prop} {p:Prop} (h:p) (e:dE P aU l.toArray (Q .normal) l s=p:=by (first|(simp only [go_sem,seval];exact rfl)|exact rfl)) (hd:hJ l=true:=by rfl):AW P (.region id l.toArray false) s Q:=Lj (e ▸ h) hd
theorem bN {aU:Nat→Option TI} {all:Array Oper} {K:St→Prop} {r:List Oper} {s:St} {p:Prop} (h:p) (e:dE P aU all K r s=p:=by (first|(simp only [go_sem,seval];exact rfl)|exact rfl)):dE P aU all K r s:=e ▸ h
theorem eK {aU:Nat→Option TI} {ops:Array Oper} {hs:List Nat} {K:St→Prop} {r:Sc} {s:St} {p:Prop} (h:p) (e:fh P aU ops hs K r s=p:=by (first|(simp only [go_sem,seval];exact rfl)|exact rfl)):fh P aU ops hs K r s:=e ▸ h
theorem cc {c q:Prop} (k:q) (h:c:=by first|(show _=true;exact rfl)|omega|exact ⟨rfl,rfl,by first|omega|(simp;done)|(simp;omega)⟩|(simp;done)|(simp;omega)|(simp only [go_sem,seval];omega)|(simp [*];done)|(simp [*];omega)):∃ _h:c,q:=⟨h,k⟩
theorem dL {c:Prop} {p:c→Prop} (k:∀ h,p h) (h:c:=by first|(show _=true;exact rfl)|omega|exact ⟨rfl,rfl,by first|omega|(simp;done)|(simp;omega)⟩|(simp;done)|(simp;omega)|(simp only [go_sem,seval];omega)|(simp [*];done)|(simp [*];omega)):∃ h,p h:=⟨h,k h⟩
theorem bp {aU:Nat→Option TI} [hT:Tb P aU] {all:Array Oper} {K:St→Prop} {r:List Oper} {s:St} {d:Option Tmp} {f:FuncId} {args:Array Operand} {eQ:Array TypeId} {ty:TypeId} {pos:String} {bC:Array Edge} {x:AV} {p:Prop} [hc:cS P f]
    (h:bg P f (cn s args) (fun y=>y=x)) (k:p) (hp:AV.cj (cn s args)=true:=by rfl) (e:dE P aU all K r (s.put d x)=p:=by (first|(simp only [go_sem,seval];exact rfl)|exact rfl)):eI P all ⟨d,.call {callee:=.value (.func f),args,argTypes:=eQ},ty,pos,bC,none⟩ r s K:=
  Fp h hp (e ▸ k)
theorem dw {aU:Nat→Option TI} [hT:Tb P aU] {ops:Array Oper} {hs:List Nat} {K:St→Prop} {r:Sc} {s:St} {d:Option Tmp} {f:FuncId} {args:Array Operand} {eQ:Array TypeId} {ty:TypeId} {pos:String} {bC:Array Edge} {x:AV} {p:Prop} [hc:cS P f]
    (h:bg P f (cn s args) (fun y=>y=x)) (k:p) (hp:AV.cj (cn s args)=true:=by rfl) (e:fh P aU ops hs K r (s.put d x)=p:=by (first|(simp only [go_sem,seval];exact rfl)|exact rfl)):gV P ops hs ⟨d,.call {callee:=.value (.func f),args,argTypes:=eQ},ty,pos,bC,none⟩ r s K:=
  Fv h hp (e ▸ k)
theorem bV {id:Nat} {s:St} {Q:Exit→St→Prop} {p:Prop} (h:p) (e:Q (.exit id) s=p:=by (first|(simp only [go_sem,seval];exact rfl)|exact rfl)):AW P (.exit id) s Q:=Ct (e ▸ h)
theorem aZ {s:St} {Q:Exit→St→Prop} {p:Prop} (h:p) (e:Q .ret s=p:=by (first|(simp only [go_sem,seval];exact rfl)|exact rfl)):AW P .ret s Q:=Fz (e ▸ h)
theorem aX {s:St} {Q:Exit→St→Prop} {p:Prop} (h:p) (e:Q .normal s=p:=by (first|(simp only [go_sem,seval];exact rfl)|exact rfl)):AW P .skip s Q:=Cu (e ▸ h)
theorem cB {aU:Nat→Option TI} {all:Array Oper} {K:St→Prop} {o:Oper} {r:List Oper} {s:St} {c b:Bool} {p1 p2 q1 q2:Prop}
      (k1:q1→p1) (k2:q2→p2) (e1:c=true→mC P aU all K o r s (px (.bool c) b)=p1:=by (intro hc;first|(simp only [hc,go_sem,seval];exact rfl)|exact rfl)) (e2:c=false→mC P aU all K o r s (px (.bool c) b)=p2:=by (intro hc;first|(simp only [hc,go_sem,seval];exact rfl)|exact rfl)) (f1:(c=true)=q1:=by (first|(simp only [go_sem,decide_eq_true_eq,decide_eq_false_iff_not,Int.not_lt,Int.not_le,beq_iff_eq,bne_iff_ne,ne_eq,beq_eq_false_iff_ne,bne_eq_false_iff_eq,Decidable.not_not,Bool.not_eq_true',Bool.not_eq_false',decide_true,Bool.true_and,Bool.and_true,Bool.false_or,Bool.or_false,Bool.and_eq_true,Bool.or_eq_true,Bool.and_eq_false_iff,Bool.or_eq_false_iff];exact rfl)|exact rfl)) (f2:(c=false)=q2:=by (first|(simp only [go_sem,decide_eq_true_eq,decide_eq_false_iff_not,Int.not_lt,Int.not_le,beq_iff_eq,bne_iff_ne,ne_eq,beq_eq_false_iff_ne,bne_eq_false_iff_eq,Decidable.not_not,Bool.not_eq_true',Bool.not_eq_false',decide_true,Bool.true_and,Bool.and_true,Bool.false_or,Bool.or_false,Bool.and_eq_true,Bool.or_eq_true,Bool.and_eq_false_iff,Bool.or_eq_false_iff];exact rfl)|exact rfl)):mC P aU all K o r s (px (.bool c) b):=
  Dy (fun hc=>e1 hc ▸ k1 (f1 ▸ hc)) (fun hc=>e2 hc ▸ k2 (f2 ▸ hc))
theorem pQ {aU:Nat→Option TI} {ops:Array Oper} {hs:List Nat} {K:St→Prop} {m:Nat} {o:Oper} {r:Sc} {s:St} {c b:Bool} {p1 p2 q1 q2:Prop}
      (k1:q1→p1) (k2:q2→p2) (e1:c=true→lW P aU ops hs K m o r s (px (.bool c) b)=p1:=by (intro hc;first|(simp only [hc,go_sem,seval];exact rfl)|exact rfl)) (e2:c=false→lW P aU ops hs K m o r s (px (.bool c) b)=p2:=by (intro hc;first|(simp only [hc,go_sem,seval];exact rfl)|exact rfl)) (f1:(c=true)=q1:=by (first|(simp only [go_sem,decide_eq_true_eq,decide_eq_false_iff_not,Int.not_lt,Int.not_le,beq_iff_eq,bne_iff_ne,ne_eq,beq_eq_false_iff_ne,bne_eq_false_iff_eq,Decidable.not_not,Bool.not_eq_true',Bool.not_eq_false',decide_true,Bool.true_and,Bool.and_true,Bool.false_or,Bool.or_false,Bool.and_eq_true,Bool.or_eq_true,Bool.and_eq_false_iff,Bool.or_eq_false_iff];exact rfl)|exact rfl)) (f2:(c=false)=q2:=by (first|(simp only [go_sem,decide_eq_true_eq,decide_eq_false_iff_not,Int.not_lt,Int.not_le,beq_iff_eq,bne_iff_ne,ne_eq,beq_eq_false_iff_ne,bne_eq_false_iff_eq,Decidable.not_not,Bool.not_eq_true',Bool.not_eq_false',decide_true,Bool.true_and,Bool.and_true,Bool.false_or,Bool.or_false,Bool.and_eq_true,Bool.or_eq_true,Bool.and_eq_false_iff,Bool.or_eq_false_iff];exact rfl)|exact rfl)):lW P aU ops hs K m o r s (px (.bool c) b):=
  DC (fun hc=>e1 hc ▸ k1 (f1 ▸ hc)) (fun hc=>e2 hc ▸ k2 (f2 ▸ hc))
theorem aS {c:Operand} {x y:Code} {s s1 s2:St} {Q:Exit→St→Prop} {b:Bool} {q1 q2:Prop}
      (k1:q1→AW P x s1 Q) (k2:q2→AW P y s2 Q) (hc:s.eval c= .bool b:=by rfl) (e1:b=true→s=s1:=by (intro hc;first|(simp only [hc,go_sem,seval];exact rfl)|exact rfl)) (e2:b=false→s=s2:=by (intro hc;first|(simp only [hc,go_sem,seval];exact rfl)|exact rfl)) (f1:(b=true)=q1:=by (first|(simp only [go_sem,decide_eq_true_eq,decide_eq_false_iff_not,Int.not_lt,Int.not_le,beq_iff_eq,bne_iff_ne,ne_eq,beq_eq_false_iff_ne,bne_eq_false_iff_eq,Decidable.not_not,Bool.not_eq_true',Bool.not_eq_false',decide_true,Bool.true_and,Bool.and_true,Bool.false_or,Bool.or_false,Bool.and_eq_true,Bool.or_eq_true,Bool.and_eq_false_iff,Bool.or_eq_false_iff];exact rfl)|exact rfl)) (f2:(b=false)=q2:=by (first|(simp only [go_sem,decide_eq_true_eq,decide_eq_false_iff_not,Int.not_lt,Int.not_le,beq_iff_eq,bne_iff_ne,ne_eq,beq_eq_false_iff_ne,bne_eq_false_iff_eq,Decidable.not_not,Bool.not_eq_true',Bool.not_eq_false',decide_true,Bool.true_and,Bool.and_true,Bool.false_or,Bool.or_false,Bool.and_eq_true,Bool.or_eq_true,Bool.and_eq_false_iff,Bool.or_eq_false_iff];exact rfl)|exact rfl)):AW P (.cond c x y) s Q:=
  xB hc (fun h=>by have:=e1 h;subst this;exact k1 (f1 ▸ h)) (fun h=>by have:=e2 h;subst this;exact k2 (f2 ▸ h))
theorem cf {c:Operand} {x y:Code} {s:St} {Q:Exit→St→Prop} (h:AW P x s Q) (hc:s.eval c= .bool true:=by rfl):AW P (.cond c x y) s Q:=yU hc h
theorem bT {c:Operand} {x y:Code} {s:St} {Q:Exit→St→Prop} (h:AW P y s Q) (hc:s.eval c= .bool false:=by rfl):AW P (.cond c x y) s Q:=yV hc h
theorem fg {aU:Nat→Option TI} [hT:Tb P aU] {id:Nat} {l:List Oper} {s:St} {Q:Exit→St→Prop} {p:Prop} (sc:Sc) (hs:List Nat)
     (h:p) (hok:(P.follows .mixedOrders&&mD l hs sc)=true:=by kernel_rfl) (e:fh P aU l.toArray hs (Q .normal) sc s=p:=by (first|(simp only [go_sem,seval];exact rfl)|exact rfl)) (hd:hJ l=true:=by rfl):AW P (.region id l.toArray true) s Q:=KH sc hs hok (e ▸ h) hd
theorem IQ {c:Code} {s s1:St} {Q:Exit→St→Prop} (h:AW P c s (fun e s'=>e= .normal∧Le s' s1)) (k:Q .normal s1):AW P c s Q:=
  fun ro ho R β G a w hr=>wpIn_mono (h ro ho R β G a w hr) (fun e a' w' ⟨β',G',s',⟨he,hle⟩,hr'⟩=>by
    subst he
    obtain ⟨β2,G2,hr2⟩:=hle R β' G' a' w' hr'
    exact ⟨β2,G2,s1,k,hr2⟩)
theorem wx {aU:Nat→Option TI} [hT:Tb P aU] {id:Nat} {l:List Oper} {s s1:St} {Q:Exit→St→Prop} {p:(St→Prop)→Prop} (sc:Sc) (hs:List Nat)
     (h:p (fun s'=>Le s' s1)) (k:Q .normal s1) (hok:(P.follows .mixedOrders&&mD l hs sc)=true:=by kernel_rfl) (e:∀ K:St→Prop,fh P aU l.toArray hs K sc s=p K:=by (intro K;(first|(simp only [go_sem,seval];exact rfl)|exact rfl))) (hd:hJ l=true:=by rfl):AW P (.region id l.toArray true) s Q:=
  IQ (s1:=s1) (iK (KH (Q:=fun e s'=>e= .normal∧Le s' s1) sc hs hok (by
    have h2:fh P aU l.toArray hs (fun s'=>Le s' s1) sc s:=e _ ▸ h
    have:(fun s'=>Le s' s1)=(fun s'=>Exit.normal=Exit.normal∧Le s' s1):=by funext s';simp
    rw [this] at h2
    exact h2) hd) (fun _ _ h=>h)) k
theorem bh {f:FuncId} {fn:Func} {c:Code} {args fr:List AV} {Q:AV→Prop} {n:Nat} {rs:Array ResultVar} (hf:P.funcs[f]?=some fn) (hn:fn.ntmps=n)
     (h:AW P c ⟨fr,[]⟩ (Fin P rs Q)) (hb:fn.body=some c:=by rfl) (hrs:fn.results=rs:=by rfl) (he:args++List.replicate (n - args.length) .any=fr:=by simp only [go_sem,Nat.reduceAdd,Nat.reduceSub,List.replicate_succ,List.replicate_zero];exact rfl):bg P f args Q:=yW hf hb hn hrs (by rw [he];exact h)
theorem Ln {f:FuncId} {fn:Func} {c:Code} {args fr:List AV} {ids:List Nat} {Q:AV→Hp→Prop} {n:Nat} {rs:Array ResultVar} (hf:P.funcs[f]?=some fn) (hn:fn.ntmps=n)
     (h:AW P c ⟨fr,[]⟩ (ft P rs ids Q)) (hb:fn.body=some c:=by rfl) (hrs:fn.results=rs:=by rfl) (he:args++List.replicate (n - args.length) .any=fr:=by simp only [go_sem,Nat.reduceAdd,Nat.reduceSub,List.replicate_succ,List.replicate_zero];exact rfl):dn P f args ids Q:=Fe hf hb hn hrs (by rw [he];exact h)
theorem gL {s s':St} (h:Le s s'):Le s s':=h
theorem fH {id:Nat} {ops:Array Oper} {d:Bool} {s:St} {Q:Exit→St→Prop} (k:Nat) (_hk:(id == k)=false) (h:AW P (.region id ops d) s Q):AW P (.region id ops d) s Q:=h
theorem gR {id:Nat} {l:Array Oper} {s:St} {Q:Exit→St→Prop} (h:AW P (.region id l false) s Q):AW P (.region id l false) s Q:=h
theorem gD (id:Nat) {l:Array Oper} {s:St} {Q:Exit→St→Prop} (h:AW P (.region id l true) s Q):AW P (.region id l true) s Q:=h
theorem gE {c:Prop} {p:c→Prop} (h:∃ x,p x):∃ x,p x:=h
theorem gC (f:FuncId) {all:Array Oper} {K:St→Prop} {r:List Oper} {s:St} {d:Option Tmp} {args:Array Operand} {eQ:Array TypeId} {ty:TypeId} {pos:String} {bC:Array Edge} {g:Option (Nat×Bool)}
    (h:eI P all ⟨d,.call {callee:=.value (.func f),args,argTypes:=eQ},ty,pos,bC,g⟩ r s K):eI P all ⟨d,.call {callee:=.value (.func f),args,argTypes:=eQ},ty,pos,bC,g⟩ r s K:=h
theorem kK (f:FuncId) {ops:Array Oper} {hs:List Nat} {K:St→Prop} {r:Sc} {s:St} {d:Option Tmp} {args:Array Operand} {eQ:Array TypeId} {ty:TypeId} {pos:String} {bC:Array Edge} {g:Option (Nat×Bool)}
    (h:gV P ops hs ⟨d,.call {callee:=.value (.func f),args,argTypes:=eQ},ty,pos,bC,g⟩ r s K):gV P ops hs ⟨d,.call {callee:=.value (.func f),args,argTypes:=eQ},ty,pos,bC,g⟩ r s K:=h
theorem gW {aU:Nat→Option TI} {all:Array Oper} {K:St→Prop} {r:List Oper} {s:St} (h:dE P aU all K r s):dE P aU all K r s:=h
theorem kj {aU:Nat→Option TI} {ops:Array Oper} {hs:List Nat} {K:St→Prop} {r:Sc} {s:St} (h:fh P aU ops hs K r s):fh P aU ops hs K r s:=h
theorem gG {aU:Nat→Option TI} {all:Array Oper} {K:St→Prop} {o:Oper} {r:List Oper} {s:St} {x:GT} (h:mC P aU all K o r s x):mC P aU all K o r s x:=h
theorem Lo {aU:Nat→Option TI} {ops:Array Oper} {hs:List Nat} {K:St→Prop} {m:Nat} {o:Oper} {r:Sc} {s:St} {x:GT} (h:lW P aU ops hs K m o r s x):lW P aU ops hs K m o r s x:=h
theorem gQ {c:Operand} {x y:Code} {s:St} {Q:Exit→St→Prop} (h:AW P (.cond c x y) s Q):AW P (.cond c x y) s Q:=h
theorem gX {id:Nat} {s:St} {Q:Exit→St→Prop} (h:AW P (.exit id) s Q):AW P (.exit id) s Q:=h
theorem gT {s:St} {Q:Exit→St→Prop} (h:AW P .ret s Q):AW P .ret s Q:=h
theorem gS {s:St} {Q:Exit→St→Prop} (h:AW P .skip s Q):AW P .skip s Q:=h
theorem bq {i:Nat} {b:fZ} {l l':Hp} (hn:aW l i=some b) (h:gi l l'):gi l ((i,b)::l'):=by
  intro k c hk
  simp only [aW] at hk
  split at hk
  · rename_i hik
    subst hik
    injection hk with hk
    subst hk
    exact hn
  · exact h k c hk
theorem bd {f f':List AV} {h h':Hp} (hf:mq f f':=by (repeat (first|exact .nil|refine .drop ?_|refine .keep ?_))) (hh:gi h h':=by first|exact DK _|((repeat refine bq ab ?_);exact aY _)):Le ⟨f,h⟩ ⟨f',h'⟩:=dW hf hh
theorem dH {i:Nat} {T:TypeId} {cs cs':List AV} {fl:Bool} {l l':Hp} (hn:aW l i=some ⟨T,cs,fl⟩) (hc:cs=cs') (h:gi l l'):gi l ((i,⟨T,cs',fl⟩)::l'):=by
  subst hc;exact bq hn h
theorem gO {ops:Array Oper} {hs:List Nat} {o:Oper} {r:Sc} {s:St} {K:St→Prop} (h:kf P ops hs o r s K):kf P ops hs o r s K:=h
theorem jZ {aU:Nat→Option TI} [hT:Tb P aU] {ops:Array Oper} {hs:List Nat} {K:St→Prop} {r:Sc} {s:St} {d:Option Tmp} {op:Op} {ty:TypeId} {pos:String} {bC:Array Edge} {g:Option (Nat×Bool)} {p:Prop} (h:p)
    (e:Oq P aU ops hs K r (lU aU op d s)=p:=by (first|(simp only [go_sem,seval];exact rfl)|exact rfl)):kf P ops hs ⟨d,op,ty,pos,bC,g⟩ r s K:=IK (e ▸ h)
theorem tO {ops:Array Oper} {hs:List Nat} {o:Oper} {r:Sc} {s:St} {K:St→Prop} (h:gV P ops hs o r s K):gV P ops hs o r s K:=h
theorem ko {aU:Nat→Option TI} [hT:Tb P aU] {ops:Array Oper} {hs:List Nat} {K:St→Prop} {r:Sc} {s:St} {d:Option Tmp} {op:Op} {ty:TypeId} {pos:String} {bC:Array Edge} {g:Option (Nat×Bool)} {p:Prop} (h:p)
    (e:Io P aU ops hs K d r s (mZ aU op s)=p:=by (first|(simp only [go_sem,seval];exact rfl)|exact rfl)):gV P ops hs ⟨d,op,ty,pos,bC,g⟩ r s K:=IL (e ▸ h)
theorem cF {d:Tmp} {t el:TypeId} {x y:Operand} {sz bw id n:Nat} {z:Value} {bk:fZ} {es:List AV} {ty:TypeId} {pos:String} {bC:Array Edge} {g:Option (Nat×Bool)} {s:St} {K:St→Prop}
    [hu:cJ P t (.slice el)] [hi:dm P el z sz bw]
    (hk:K ⟨(AV.ct id s.fr).set d (.sl sz bw id 0 (n+es.length)),cK (dZ id s.hp) id ⟨el,AV.ct id bk.cs++es.flatMap AV.cells,false⟩⟩)
    (hx:s.eval x= .sl sz bw id 0 n:=by rfl) (hb:aW s.hp id=some bk:=by rfl) (hT:bk.T=el:=by rfl) (hl:bk.cs.length=n * sz:=by first|rfl|(simp only [go_sem,seval,List.length_take,List.length_map]<;>omega)|simp) (hy:s.eval y= .cr sz bw es:=by rfl) (h1:wy es:=by first|exact DL rfl|exact DM (fun _=>rfl))
    (hz:z.cells.size=sz:=by rfl) (hs:0 < sz:=by first|decide|(simp;done)|(simp;omega)) (hw:0 < bw:=by first|decide|(simp;done)|(simp;omega)) (hbytes:(n+es.length) * bw≤140737488355328:=by first|omega|(simp only [go_sem,seval];omega)) :
    eR P ⟨some d,.call {callee:=.builtin .append,args:=#[x,y],argTypes:=#[t,t]},ty,pos,bC,g⟩ s K:=ux hx hb hT hl hy h1 hz hs hw hbytes hk
theorem j1 {c:Code} {f:List AV} {hp:Hp} {s':St} {Q:Exit→St→Prop} (i id sz bw:Nat) (T:TypeId) (h:AW P c s' Q) (hx:f[i]?=some .fS:=by rfl) (hf:St.free ⟨f,hp⟩ id=true:=by first|rfl|(simp only [go_sem,seval];done)|(simp only [go_sem,seval];rfl)|(simp [St.free,cI,AV.bz,AV.cv]))
    (e:(⟨f.set i (.sl sz bw id 0 0),cK hp id ⟨T,[],false⟩⟩:St)=s':=by (simp only [go_sem,seval];exact rfl)):AW P c ⟨f,hp⟩ Q:=cT (e ▸ xC i id sz bw T hx hf) h
theorem cm {a b:Prop} (h:b) (e:a=b:=by (simp only [gk,jw,go_sem,seval];exact rfl)):a:=e ▸ h
end Go.Ab
