/- Part of a proof. No condition. -/
import Derived.Carry
import Derived.MapKept
import Derived.RangeFuncIn
import Derived.RangeFuncRecord
import Derived.Test.YtkbiagkbmodgdaaGreatZabn
set_option linter.unusedSimpArgs false
set_option linter.unusedVariables false
namespace Go.Ab
open Go.RowKit
variable {P:Program}
def eB (i:Nat):List Nat→Bool
 |[]=>false
 |j::r=>i == j|| eB i r
theorem fS {i:Nat}:∀ {l:List Nat},eB i l=true↔i∈l
 |[]=>by simp [eB]
 |j::r=>by simp [eB,fS (i:=i) (l:=r)]
theorem uQ {i:Nat} {l:List Nat}:eB i l=false↔i ∉ l:=by
 rw [← qj7,fS]
def bl:Hp→List Nat
 |[]=>[]
 |(i,_)::r=>i::bl r
theorem dq {i:Nat}:∀ {hp:Hp},i∈bl hp↔∃ bk,bp hp i=some bk
 |[]=>by simp [bl,bp]
 |(j,b)::r=>by
  by_cases h:j=i
  ·subst h;simp [bl,bp]
  simp [bl,bp,h,Ne.symm h,dq (i:=i) (hp:=r)]
def iW (β:c9) (ids:List Nat):Nat→Prop:=fun b=>∃ id∈ids,(∃ t,β id= .at b t)∨∃ y,β id= .gh (some (b,y))
def R7 (β β':c9) (ids:List Nat):Prop:=∀ id∈ids,∀ p,id < 2000000000→β id= .gh (some p)→β' id= .gh (some p)
def xA (ids:List Nat):Hp→Bool
 |[]=>true
 |(i,b)::r=>(Nat.ble b.T 1000000000|| eB i ids)&&xA ids r
theorem uR {ids:List Nat}:∀ {hp:Hp} {i:Nat} {bk:iB},xA ids hp=true→bp hp i=some bk→1000000000 < bk.T→i∈ids
 |[],_,_,_,h,_=>by simp [bp] at h
 |(j,b)::r,i,bk,h,hb,hT=>by
  simp only [xA,qa1,qe0] at h;simp only [bp] at hb;split at hb
  ·rename_i e;subst e;injection hb with hb;subst hb
   rcases h.1 with h1|h1
   ·exact absurd hT (Nat.not_lt.2 (qe6 h1))
   exact fS.1 h1
  exact uR h.2 hb hT
def Eo:Hp→List Nat
 |[]=>[]
 |(i,b)::r=>bif Nat.ble b.T 1000000000 then Eo r else i::Eo r
theorem Cb:∀ {hp:Hp} {i:Nat} {bk:iB},bp hp i=some bk→1000000000 < bk.T→i∈Eo hp
 |[],_,_,h,_=>by simp [bp] at h
 |(j,b)::r,i,bk,hb,hT=>by
  simp only [bp] at hb;simp only [Eo];split at hb
  ·rename_i e;subst e;injection hb with hb;subst hb
   cases hq:Nat.ble b.T 1000000000 with
   |true=>exact absurd hT (Nat.not_lt.2 (qe6 hq))
   |false=>simp
  have:=Cb hb hT;cases Nat.ble b.T 1000000000 with
  |true=>exact this
  |false=>exact qk8 _ this
def Cc (hp':Hp):List Nat→Bool
 |[]=>true
 |i::r=>(Nat.ble 1000000000 i&&match bp hp' i with|some b'=>Nat.ble 1000000001 b'.T|none=>false)&&Cc hp' r
theorem Cd {hp':Hp}:∀ {l:List Nat} {i:Nat},Cc hp' l=true→i∈l→1000000000≤i∧∃ bk',bp hp' i=some bk'∧1000000000 < bk'.T
 |[],_,_,h=>by cases h
 |j::r,i,h,hi=>by
  simp only [Cc,qa1] at h;rcases qc2.1 hi with rfl|hi
  ·obtain ⟨h0,h1⟩:=h.1
   split at h1
   ·rename_i b' hb';exact ⟨qe6 h0,b',hb',Nat.lt_of_succ_le (qe6 h1)⟩
   cases h1
  exact Cd h.2 hi
def soft:Obj→Bool
 | .loop _=>true
 | .map _ _=>true
 |_=>false
theorem ko {R:Rg} {β:c9} {G:bI} {id T:Nat} {fl:Bool} {cs:List AV} {o:Option (Nat×cF)} (h:vD R β G id T fl cs o):(1000000000 < T↔∃ l y,o=some (l,y)∧y.mp=false)∧(∀ l y,o=some (l,y)→y.mp=true→2000000000≤id∧y=wv)∧∀ l y,o=some (l,y)→(R.w0.heap.size≤l∨R.ex l)∧(∃ z,G l=some z∧soft z=true)∧(y.mp=false→∃ D,R.lp id=some (l,D,y)∧l < R.w0.heap.size∧R.ex l∧∃ z,G l=some (.loop z)):=by
 rcases h with ⟨outs,_,⟨_,h1⟩,h2,_⟩|⟨b,es,clock,h0,⟨_,h1,hid⟩,h2,h3,_⟩
 ·cases o with
  |none=>
   have:T - 1000000000=0:=h2
   exact ⟨⟨fun h=>by omega,fun ⟨_,_,h,_⟩=>by cases h⟩,fun l y e=>by (cases e),fun l y e=>by cases e⟩
  |some p=>
   obtain ⟨k0,km,D,f,k1,k2,k3,k5,k4,_⟩:=h2;exact ⟨⟨fun _=>⟨p.1,p.2,rfl,km⟩,fun _=>by omega⟩,fun l y e hm=>by (injection e with e;subst e;rw [km] at hm;cases hm),fun l y e=>by injection e with e;subst e;exact ⟨.inr k5,⟨_,k4,rfl⟩,fun _=>⟨D,k1,k3,k5,_,k4⟩⟩⟩
 subst h0;exact ⟨⟨fun _=>by omega,fun ⟨_,_,e,hm⟩=>by injection e with e;injection e with e1 e2;subst e2;cases hm⟩,fun l y e _=>by (injection e with e;injection e with e1 e2;exact ⟨hid,e2.symm⟩),fun l y e=>by injection e with e;injection e with e1 e2;subst e1;subst e2;exact ⟨h2,⟨_,h3,rfl⟩,fun h=>by cases h⟩⟩
def xB (ids:List Nat) (hp:Hp):Bool:=ids.all (fun i=>Nat.blt i 2000000000)|| hp.all fun p=>Nat.blt p.1 2000000000|| eB p.1 ids
theorem sq {ids:List Nat} {hp:Hp} (h:xB ids hp=true) {i j:Nat} {bk:iB} (hb:bp hp i=some bk) (h1:2000000000≤i) (hj:j∈ids) (h2:2000000000≤j):i∈ids:=by
 unfold xB at h;rw [qe0,qc8,qc8] at h;rcases h with h|h
 ·have h0:=h j hj
  rw [qk6] at h0;omega
 have key:∀ hp:Hp,bp hp i=some bk→∃ b,(i,b)∈hp:=by
  intro hp
  induction hp with
  |nil=>intro h;simp [bp] at h
  |cons p r ih=>
   intro h;obtain ⟨k,b⟩:=p;simp only [bp] at h;split at h
   ·rename_i e;subst e;exact ⟨b,by simp⟩
   obtain ⟨b',hb'⟩:=ih h;exact ⟨b',by simp [hb']⟩
 obtain ⟨b,hm⟩:=key hp hb;have:=h _ hm;rw [qe0] at this;rcases this with h3|h3
 ·rw [qk6] at h3;simp only at h3;omega
 exact fS.1 h3
def Hx (β β':c9) (pins:List Nat):Prop:=∀ id∈pins,∀ b t,β id= .at b t→∃ t',β' id= .at b t'
def cX (P:Program) (f:FuncId) (args:List AV) (hp:Hp) (news pins:List Nat) (Q:AV→Hp→Prop):Prop:=
 (∀ id∈news,id≤999999999)→∀ β G w vals out lp,dx ⟨w,iW β (bl hp),G,out,lp⟩ β G hp w→(∀ id∈news,β id= .no)→Ce G β args vals→Calls P f vals.toArray w fun e w'=>
  ∃ y G' β' x hp',e= .returned y∧Q x hp'∧iA (bl hp++news) x hp'∧Hx β β' pins∧R7 β β' (bl hp)∧Conc G' β' x y∧dx ⟨w,iW β (bl hp),G,out,lp⟩ β' G' hp' w'
mutual
def AV.sr (ids pins:List Nat):AV→Bool
 | .ptr i _=>!eB i ids|| eB i pins
 | .sl _ _ i _ _=>!eB i ids
 | .yl i _=>Nat.blt i 2000000000|| !eB i ids
 | .agg cs=>AV.mJ ids pins cs
 | .dC cs=>AV.mJ ids pins cs
 | .fn _ cs=>AV.mJ ids pins cs
 | .any=>true
 | .v _=>true
 | .cD _ _ _=>true
 | .bC _=>true
def AV.mJ (ids pins:List Nat):List AV→Bool
 |[]=>true
 |x::r=>AV.sr ids pins x&&AV.mJ ids pins r
end
def AV.fix (ids pins:List Nat) (x:AV):AV:=if AV.sr ids pins x then x else .any
def AV.jP (ids pins:List Nat):List AV→List AV
 |[]=>[]
 |x::r=>AV.fix ids pins x::AV.jP ids pins r
def fT (ids pins:List Nat):Hp→Hp
 |[]=>[]
 |(i,b)::r=>if eB i ids then fT ids pins r else (i,{b with cs:=AV.jP ids pins b.cs})::fT ids pins r
theorem mf (ids pins:List Nat) (l:List AV):AV.jP ids pins l=l.map (AV.fix ids pins):=by
 induction l with
 |nil=>rfl
 |cons x l ih=>simp [AV.jP,ih]
theorem ss (ids pins:List Nat) (hp:Hp) (i:Nat):bp (fT ids pins hp) i=if eB i ids then none else (bp hp i).map fun b=>{b with cs:=AV.jP ids pins b.cs}:=by
 induction hp with
 |nil=>simp [fT,bp]
 |cons p r ih=>
  obtain ⟨j,b⟩:=p;by_cases hj:eB j ids=true
  ·simp only [fT,hj,if_true,ih,bp]
   split
   ·rfl
   rename_i hi;rw [if_neg];rintro rfl;exact hi hj
  simp only [fT,hj,if_false,qa8,bp,ih];by_cases hji:j=i
  ·subst hji;simp [hj]
  simp [hji]
theorem tE {ids pins:List Nat}:∀ {cs:List AV} {j:Nat} {x:AV},AV.mJ ids pins cs=true→cs[j]?=some x→AV.sr ids pins x=true
 |[],_,_,_,h=>by simp at h
 |c::cs,0,x,h,hx=>by simp at hx;subst hx;simp [AV.mJ] at h;exact h.1
 |c::cs,j+1,x,h,hx=>by simp at hx;simp [AV.mJ] at h;exact tE h.2 hx
variable {G G2:bI} {β β2:c9} {ids pins:List Nat} {x:AV} {y:Value}
theorem Conc.sr (h:Conc G β x y) (hok:AV.sr ids pins x=true) (hβ:∀ i,eB i ids=false→β2 i=β i) (hpin:Hx β β2 pins) (hgr:R7 β β2 ids)
 (hG:∀ a y,ep G a=some y→ep G2 a=some y):Conc G2 β2 x y:=by
 have key:∀ {β0 x y},Conc G β0 x y→β0=β→AV.sr ids pins x=true→Conc G2 β2 x y:=by
  intro β0 x y h
  induction h with
  |any=>intros;exact .any
  |v=>intros;exact .v
  |agg xs hl _ ih=>intro e ho;exact .agg xs hl fun j x y hx hy=>ih j x y hx hy e (tE (by simpa [AV.sr] using ho) hx)
  |dC xs hl _ ih=>intro e ho;exact .dC xs hl fun j x y hx hy=>ih j x y hx hy e (tE (by simpa [AV.sr] using ho) hx)
  |fn xs hf hl _ ih=>intro e ho;exact .fn xs hf hl fun j x y hx hy=>ih j x y hx hy e (tE (by simpa [AV.sr] using ho) hx)
  |sZ _ ih=>intro e ho;exact .sZ (ih e (by simpa [AV.sr,AV.mJ] using ho))
  |@ptr β1 i off b t hb=>
   intro e ho;subst e;simp only [AV.sr,qe0,qb7] at ho;rcases ho with ho|ho
   ·exact .ptr (by rw [hβ i ho];exact hb)
   obtain ⟨t',ht'⟩:=hpin i (fS.1 ho) b t hb;exact .ptr ht'
  |@lU β1 a b i hb=>
   intro e ho;subst e;simp only [AV.sr,qb7] at ho;exact .lU (by rw [hβ i ho];exact hb)
  |@sl β1 a b i off k c bb t hb hn ht hm hbw=>
   intro e ho;subst e;simp only [AV.sr,qb7] at ho;exact .sl (by rw [hβ i ho];exact hb) hn ht hm hbw
  |@yl β1 i y l hb=>
   intro e ho;subst e;cases hm:eB i ids with
   |false=>exact .yl (by rw [hβ i hm];exact hb)
   |true=>
    simp only [AV.sr,hm,Bool.not_true,qc5] at ho;rw [qk6] at ho;exact .yl (hgr i (fS.1 hm) _ ho hb)
  |cD ys hu hl hc' hb hA hr hs _=>intro _ _;exact (Conc.cD (β:=β) ys hu hl hc' hb hA hr hs).yQ (fun _ h=>by simp [AV.cq] at h) hG
  |bC ys hl hr hs _=>intro _ _;exact (Conc.bC (β:=β) ys hl hr hs).yQ (fun _ h=>by simp [AV.cq] at h) hG
 exact key h rfl hok
theorem Conc.fix (h:Conc G β x y) (hβ:∀ i,eB i ids=false→β2 i=β i) (hpin:Hx β β2 pins) (hgr:R7 β β2 ids)
 (hG:∀ a y,ep G a=some y→ep G2 a=some y):Conc G2 β2 (AV.fix ids pins x) y:=by
 unfold AV.fix;split
 ·rename_i ho;exact h.sr ho hβ hpin hgr hG
 exact .any
variable {R:Rg} {H hp:Hp} {w:World}
theorem rf (h:dx R β G H w) (hin:∀ id bk,bp hp id=some bk→bp H id=some bk):dx ⟨w,iW β (bl hp),G,R.out,iw R⟩ β G hp w:=by
 refine ⟨h.gs,fun i bk hi=>?_,fun i j b t t' hi hj hbi hbj=>?_,⟨rfl,rfl,rfl,qb3 _,fun _ _ _=>rfl⟩,fun b hb=>.inl hb,h.kL,h.iC.sub fun i hi=>by obtain ⟨b,hb⟩:=qb0.1 hi;rw [hin i b hb];rfl⟩
 ·have:=h.blk _ _ (hin i bk hi)
  unfold bZ at this ⊢;cases hβ:β i with
  |no=>rw [hβ] at this;exact this
  |nil=>rw [hβ] at this;exact this
  |«at» b t=>
   rw [hβ] at this;obtain ⟨g1,_,g3⟩:=this;exact ⟨g1,.inr ⟨i,dq.2 ⟨bk,hi⟩,.inl ⟨t,hβ⟩⟩,g3⟩
  |gh o=>rw [hβ] at this;exact FM this h.keeps.size fun l y e=>⟨i,dq.2 ⟨bk,hi⟩,.inr ⟨y,by rw [hβ,e]⟩⟩
 obtain ⟨x,hx⟩:=qb0.1 hi;obtain ⟨y,hy⟩:=qb0.1 hj;exact h.inj i j b t t' (by rw [hin i x hx];rfl) (by rw [hin j y hy];rfl) hbi hbj
variable {s:St} {a:Act} {news:List Nat}
theorem fw.PZ (h:fw R β G s a w) (hin:∀ id bk,bp hp id=some bk→bp s.hp id=some bk) (hfree:∀ id∈news,s.free id=true) (hms:xB (bl hp) s.hp=true) (hno:∀ id∈news,β id= .no)
 {w':World} {G':bI} {β':c9} {hp':Hp} (hwi:iA (bl hp++news) x hp') (hpin:Hx β β' pins) (hgr:R7 β β' (bl hp)) (hps:∀ i∈pins,i∈bl hp) (hcx:Conc G' β' x y) (hrh:dx ⟨w,iW β (bl hp),G,R.out,iw R⟩ β' G' hp' w') (d:Option Tmp):
 ∃ β2 G2,fw R β2 G2 ⟨(St.put ⟨AV.jP (bl hp++news) pins s.fr,[]⟩ d x).fr,hp'++fT (bl hp++news) pins s.hp⟩ (a.put d y) w':=by
 have hkeep:=hrh.keeps;have hlentA:∀ b,(∃ id∈bl hp,∃ t,β id= .at b t)→G b=none∧(R.w0.heap.size≤b∨R.ex b)∧b < w.heap.size:=fun b ⟨id,hid,t,ht⟩=>by
  obtain ⟨bk,hbk⟩:=dq.1 hid;obtain ⟨g1,g2,arr,g3,_⟩:=h.hp.block (hin id bk hbk) ht;exact ⟨g1,g2,db g3⟩
 have hrecF:∀ b,(∃ id∈bl hp,∃ y,β id= .gh (some (b,y)))→(∃ z,G b=some z∧soft z=true)∧(R.w0.heap.size≤b∨R.ex b)∧b < w.heap.size:=fun b ⟨id,hid,y,hy⟩=>by
  obtain ⟨bk,hbk⟩:=dq.1 hid;have h0:=h.hp.blk id bk (hin id bk hbk);unfold bZ at h0;rw [hy] at h0;obtain ⟨k1,⟨z,k2,k3⟩,_⟩:=(ko h0).2.2 b y rfl;exact ⟨⟨z,k2,k3⟩,k1,db (h.hp.gs b z k2)⟩
 have hlent:∀ b,iW β (bl hp) b→(R.w0.heap.size≤b∨R.ex b)∧b < w.heap.size:=fun b ⟨id,hid,hh⟩=>by
  rcases hh with ⟨t,ht⟩|⟨y,hy⟩
  ·exact (hlentA b ⟨id,hid,t,ht⟩).2
  exact (hrecF b ⟨id,hid,y,hy⟩).2
 have hsame:∀ b,b < w.heap.size→¬iW β (bl hp) b→w'.heap[b]?=w.heap[b]?:=fun b h1 h2=>hkeep.block b h1 h2;let isRec:Nat→Prop:=fun b=>∃ id∈bl hp,∃ y,β id= .gh (some (b,y));have hgs:∀ b o,G b=some o→¬isRec b→w'.heap[b]?=some o:=fun b o hg hnr=>by
  have h1:=h.hp.gs b o hg;rw [hsame b (db h1) (fun ⟨id,hid,hh⟩=>by
   rcases hh with ⟨t,ht⟩|hy
   ·have:=(hlentA b ⟨id,hid,t,ht⟩).1;rw [hg] at this;cases this
   exact hnr ⟨id,hid,hy⟩)]
  exact h1
 let G3:bI:=fun b=>@ite _ (isRec b) (Classical.propDecidable _) (G' b) (match G b with|some o=>some o|none=>G' b);have g3r:∀ b,isRec b→G3 b=G' b:=fun b hb=>by simp only [G3,hb,if_true]
 have g3n:∀ b,¬isRec b→G3 b=match G b with|some o=>some o|none=>G' b:=fun b hb=>by simp only [G3,hb,if_false]
 have m1:∀ b o,G b=some o→¬isRec b→G3 b=some o:=fun b o hb hn=>by rw [g3n b hn,hb]
 have m1c:∀ a y,ep G a=some y→ep G3 a=some y:=fun a y hy=>by
  by_cases hr:isRec a.block
  ·obtain ⟨⟨z,hz,hsz⟩,_⟩:=hrecF _ hr
   unfold ep at hy;rw [hz] at hy;cases z<;>first|cases hy|cases hsz
  unfold ep at hy ⊢;cases hq:G a.block with
  |none=>rw [hq] at hy;cases hy
  |some o=>rw [m1 _ _ hq hr];rw [hq] at hy;exact hy
 have m1d:∀ D x,G D=some (.deferred x)→G3 D=some (.deferred x):=fun D x hD=>m1 D _ hD fun hr=>by
  obtain ⟨⟨z,hz,hsz⟩,_⟩:=hrecF _ hr;rw [hz] at hD;injection hD with hD;subst hD;cases hsz
 have m2:∀ b o,G' b=some o→G3 b=some o:=fun b o hb=>by
  by_cases hr:isRec b
  ·rw [g3r b hr];exact hb
  cases hg:G b with
  |none=>rw [g3n b hr,hg];exact hb
  |some o'=>
   have e1:=hgs b o' hg hr;have e2:=hrh.gs b o hb;rw [e1] at e2;injection e2 with e2;subst e2
   exact m1 b _ hg hr
 have m3:∀ b,G3 b≠none→(G b≠none∧¬isRec b)∨G' b≠none:=fun b hb=>by
  by_cases hr:isRec b
  ·rw [g3r b hr] at hb;exact .inr hb
  rw [g3n b hr] at hb;cases hg:G b with
  |some o=>exact .inl ⟨by simp,hr⟩
  |none=>rw [hg] at hb;exact .inr hb
 have hG':∀ b,G' b≠none→G b≠none∨w.heap.size≤b∨iW β (bl hp) b:=fun b hb=>hrh.kH b hb;let ids:=bl hp++news;let β2:c9:=fun i=>if eB i ids then β' i else β i
 have b1:∀ i,i∈ids→β2 i=β' i:=fun i hi=>by simp only [β2];rw [if_pos (fS.2 hi)]
 have b2:∀ i,eB i ids=false→β2 i=β i:=fun i hi=>by simp only [β2,hi];rfl
 have hpin2:Hx β β2 pins:=fun id hid b t hb=>by
  rw [b1 id (List.mem_append_left _ (hps id hid))];exact hpin id hid b t hb
 have hgr2:R7 β β2 ids:=fun id hid p hm hb=>by
  rw [b1 id hid];rcases qe4.1 hid with h1|h1
  ·exact hgr id h1 p hm hb
  rw [hno id h1] at hb;cases hb
 have hold:∀ u v,Conc G β u v→Conc G3 β2 (AV.fix ids pins u) v:=fun u v hc=>hc.fix b2 hpin2 hgr2 m1c;have hin2:∀ i,AV.cq i x=true∨cz i hp'=true→i∈ids:=fun i hm=>by
  by_cases hi:i∈ids
  ·exact hi
  have:=hwi i hi;rcases hm with hm|hm
  ·rw [this.1] at hm;cases hm
  rw [this.2] at hm;cases hm
 have hnew:∀ u v,(∀ i,AV.cq i u=true→i∈ids)→Conc G' β' u v→Conc G3 β2 u v:=fun u v ho hc=>hc.ext (fun i hm=>b1 i (ho i hm)) m2;have hother:∀ i bk0 b t,eB i ids=false→bp s.hp i=some bk0→β i= .at b t→¬iW β (bl hp) b∧b < w.heap.size∧G3 b=none:=fun i bk0 b t hne hi hβ=>by
  obtain ⟨g1,g2,arr,g3,_⟩:=h.hp.block hi hβ;have hnl:¬iW β (bl hp) b:=fun ⟨id,hid,hh⟩=>by
   rcases hh with ⟨t',ht'⟩|hy
   ·obtain ⟨bk,hbk⟩:=dq.1 hid
    have:=h.hp.inj i id b t t' (by rw [hi];rfl) (by rw [hin id bk hbk];rfl) hβ ht';subst this;exact (uQ.1 hne) (List.mem_append_left _ hid)
   obtain ⟨⟨z,hz,_⟩,_⟩:=hrecF b ⟨id,hid,hy⟩;rw [hz] at g1;cases g1
  refine ⟨hnl,db g3,?_⟩;cases hq:G3 b with
  |none=>rfl
  |some o=>
   rcases m3 b (by rw [hq];simp) with ⟨h1,_⟩|h1
   ·exact absurd g1 h1
   rcases hG' b h1 with h2|h2|h2
   ·exact absurd g1 h2
   ·have:=db g3;omega
   exact absurd h2 hnl
 have hpre:fw R β2 G3 ⟨AV.jP ids pins s.fr,hp'++fT ids pins s.hp⟩ a w':=by
  refine ⟨(let ⟨Ds,d1,d2,d3⟩:=h.defers;⟨Ds,d1,d2,fun D hD=>⟨(d3 D hD).1,m1d _ _ (d3 D hD).2⟩⟩),by rw [mf,qa2];exact h.size,fun i u v hu hv=>?_,⟨fun b o hb'=>?_,fun i bk0 hi=>?_,fun i j b t t' hi hj hbi hbj=>?_,?_,fun b hb'=>?_,fun i hi=>?_,fun i j b y y' h1 h2 hi hj hbi hbj=>?_⟩⟩
  rotate_right
  ·have cls:∀ k,2000000000≤k→(bp (hp'++fT ids pins s.hp) k).isSome→((bp hp' k).isSome∧k∈bl hp∧β2 k=β' k)∨((bp s.hp k).isSome∧k ∉ bl hp∧β2 k=β k):=fun k hk his=>by
    rw [eh] at his;cases hq:bp hp' k with
    |some bk'=>
     have hki:=hin2 k (.inr (eG hq));refine .inl ⟨rfl,?_,b1 k hki⟩;rcases qe4.1 hki with h|h
     ·exact h
     have:=iD (hfree k h);omega
    |none=>
     rw [hq] at his;simp only [qi1] at his;rw [ss] at his;split at his
     ·simp at his
     rename_i hm;have hm':eB k ids=false:=by simpa using hm
     exact .inr ⟨by simpa using his,fun h=>uQ.1 hm' (List.mem_append_left _ h),b2 k hm'⟩
   rcases cls i h1 hi with ⟨a1,a2,a3⟩|⟨a1,a2,a3⟩<;>rcases cls j h2 hj with ⟨c1,c2,c3⟩|⟨c1,c2,c3⟩
   ·exact hrh.iC i j b y y' h1 h2 a1 c1 (by rw [← a3];exact hbi) (by rw [← c3];exact hbj)
   ·obtain ⟨bk,hbk⟩:=qb0.1 c1
    exact absurd (sq hms hbk h2 a2 h1) c2
   ·obtain ⟨bk,hbk⟩:=qb0.1 a1
    exact absurd (sq hms hbk h1 c2 h2) a2
   exact h.hp.iC i j b y y' h1 h2 a1 c1 (by rw [← a3];exact hbi) (by rw [← c3];exact hbj)
  ·rw [mf,qc9,qa6] at hu
   obtain ⟨u0,hu0,rfl⟩:=hu;exact hold _ _ (h.fr i u0 v hu0 hv)
  ·by_cases hr:isRec b
   ·rw [g3r b hr] at hb';exact hrh.gs b o hb'
   rw [g3n b hr] at hb';split at hb'
   ·rename_i o' hg;injection hb' with hb';subst hb';exact hgs b _ hg hr
   exact hrh.gs b o hb'
  ·rw [eh] at hi
   cases hq:bp hp' i with
   |some bk'=>
    rw [hq] at hi;simp at hi;subst hi;have hii:=hin2 i (.inr (eG hq));have hblk':=hrh.blk i bk' hq;unfold bZ at hblk' ⊢;rw [b1 i hii];have hcell:∀ u∈bk'.cs,∀ k,AV.cq k u=true→k∈ids:=fun u hu k hk=>by
     obtain ⟨j,hj⟩:=qf2 hu;exact hin2 k (.inr (gw hq (jg hj hk)))
    cases hβ:β' i with
    |no=>rw [hβ] at hblk';exact hblk'
    |nil=>rw [hβ] at hblk';exact hblk'
    |gh o=>rw [hβ] at hblk';exact gA (wJ hblk' h.hp.keeps.size (fun b hb=>(hlent b hb).1)) m2 fun u hu v hc=>hnew u v (hcell u hu) hc
    |«at» b t=>
     rw [hβ] at hblk';obtain ⟨g1,g2,arr',g3,g4,g5,g6,g7⟩:=hblk';refine ⟨?_,?_,arr',g3,g4,g5,g6,fun j u v hu hv=>hnew u v (hcell u (qg0 hu)) (g7 j u v hu hv)⟩
     ·cases hq:G3 b with
      |none=>rfl
      |some o=>
       rcases m3 b (by rw [hq];simp) with ⟨h1,hr⟩|h1
       ·rcases g2 with h2|⟨id,hid,hh⟩
        ·cases hq2:G b with
         |none=>exact absurd hq2 h1
         |some o2=>have:=db (h.hp.gs b o2 hq2);simp only at h2;omega
        rcases hh with ⟨t',ht'⟩|hy
        ·exact absurd (hlentA b ⟨id,hid,t',ht'⟩).1 h1
        exact absurd ⟨id,hid,hy⟩ hr
       exact absurd g1 h1
     rcases g2 with h2|h2
     ·exact .inl (qd3 h.hp.keeps.size h2)
     exact (hlent b h2).1
   |none=>
    rw [hq] at hi;simp at hi;rw [ss] at hi;split at hi
    ·cases hi
    rename_i hid;have hid:eB i ids=false:=by simpa using hid
    rw [qa6] at hi;obtain ⟨bk1,hi1,rfl⟩:=hi;have:=h.hp.blk i bk1 hi1;unfold bZ at this ⊢;rw [b2 i hid];cases hβ:β i with
    |no=>rw [hβ] at this;exact this
    |nil=>rw [hβ] at this;exact ⟨by rw [this.1];rfl,this.2⟩
    |gh o=>
     rw [hβ] at this;have hnr:=(ko this).1;rcases this with ⟨outs,h0,h1,h2,h3,h4⟩|⟨b,es,clock,e0,⟨e1,e6,e7⟩,e2,e3,e4,e5⟩
     ·have h2':Eh R G3 i (bk1.T - 1000000000) outs o:=by
       cases o with
       |none=>exact h2
       |some p=>
        obtain ⟨l,y⟩:=p;obtain ⟨k0,k1,D,f,k2,k3,k4,k5,k6,k7⟩:=h2;refine ⟨k0,k1,D,f,k2,k3,k4,k5,m1 l _ k6 (fun ⟨k,hk,y',hy'⟩=>?_),m1d _ _ k7⟩;obtain ⟨bk2,hbk2⟩:=dq.1 hk;have h6:=h.hp.blk k bk2 (hin k bk2 hbk2);unfold bZ at h6;rw [hy'] at h6;rcases h6 with ⟨_,_,_,q2,_⟩|⟨b',es',clock',e0,_,_,e3,_⟩
        ·obtain ⟨_,_,D',f',q3,_⟩:=q2
         have:=R.lp.inj _ _ _ _ _ _ _ k2 q3;subst this;exact (uQ.1 hid) (List.mem_append_left _ hk)
        injection e0 with e0;injection e0 with e01 e02;subst e01;rw [k6] at e3;cases e3
      refine .inl ⟨outs,h0,h1,h2',by rw [mf,qa2];exact h3,fun j u v hu hv=>?_⟩;simp only [mf,qc9,qa6] at hu;obtain ⟨u0,hu0,rfl⟩:=hu;exact hold _ _ (h4 j u0 v hu0 hv)
     have hnr2:¬isRec b:=fun ⟨k,hk,y,hy⟩=>by
      obtain ⟨bk2,hbk2⟩:=dq.1 hk;have h6:=h.hp.blk k bk2 (hin k bk2 hbk2);unfold bZ at h6;rw [hy] at h6;obtain ⟨_,q2,q3⟩:=ko h6;cases hym:y.mp with
      |true=>
       have h7:=(q2 b y rfl hym).1;exact (uQ.1 hid) (List.mem_append_left _ (sq hms hi1 e7 hk h7))
      |false=>
       obtain ⟨_,_,_,_,z,hz⟩:=(q3 b y rfl).2.2 hym;rw [e3] at hz;cases hz
     refine .inr ⟨b,es,clock,e0,⟨e1,e6,e7⟩,e2,m1 b _ e3 hnr2,by rw [mf,qa2];exact e4,fun j u v hu hv=>?_⟩;simp only [mf,qc9,qa6] at hu;obtain ⟨u0,hu0,rfl⟩:=hu;exact hold _ _ (e5 j u0 v hu0 hv)
    |«at» b t=>
     obtain ⟨o1,o2,o3⟩:=hother i bk1 b t hid hi1 hβ;rw [hβ] at this;obtain ⟨g1,g2,arr',g3,g4,g5,g6,g7⟩:=this;refine ⟨o3,g2,arr',by rw [hsame b o2 o1];exact g3,g4,by simpa [mf] using g5,by simpa [mf] using g6,fun j u v hu hv=>?_⟩;simp only [mf,qc9,qa6] at hu;obtain ⟨u0,hu0,rfl⟩:=hu;exact hold _ _ (g7 j u0 v hu0 hv)
  ·have key:∀ i b t,(bp (hp'++fT ids pins s.hp) i).isSome→β2 i= .at b t→((bp hp' i).isSome∧β' i= .at b t∧(w.heap.size≤b∨iW β (bl hp) b))∨((bp s.hp i).isSome∧β i= .at b t∧¬iW β (bl hp) b∧b < w.heap.size):=by
    intro i b t his hbi;rw [eh] at his;cases hq:bp hp' i with
    |some bk'=>
     have hii:=hin2 i (.inr (eG hq));rw [b1 i hii] at hbi;have hblk':=hrh.blk i bk' hq;unfold bZ at hblk';rw [hbi] at hblk';exact .inl ⟨rfl,hbi,hblk'.2.1⟩
    |none=>
     rw [hq] at his;simp at his;rw [ss] at his;split at his
     ·cases his
     rename_i hid;have hid:eB i ids=false:=by simpa using hid
     rw [b2 i hid] at hbi;obtain ⟨bk1,hb1⟩:=qb0.1 his;rw [qa6] at hb1;obtain ⟨bk2,hb2,_⟩:=hb1;obtain ⟨o1,o2,_⟩:=hother i bk2 b t hid hb2 hbi;exact .inr ⟨by rw [hb2];rfl,hbi,o1,o2⟩
   rcases key i b t hi hbi with ⟨a1,a2,a3⟩|⟨a1,a2,a3,a4⟩<;>rcases key j b t' hj hbj with ⟨c1,c2,c3⟩|⟨c1,c2,c3,c4⟩
   ·exact hrh.inj i j b t t' a1 c1 a2 c2
   ·exfalso
    rcases a3 with h1|h1
    ·omega
    exact c3 h1
   ·exfalso
    rcases c3 with h1|h1
    ·omega
    exact a3 h1
   exact h.hp.inj i j b t t' a1 c1 a2 c2
  ·have hk:=h.hp.keeps
   refine ⟨hkeep.os.trans hk.os,hkeep.tape.trans hk.tape,hkeep.output.trans hk.output,qd3 hk.size hkeep.size,fun j h1 h2=>?_⟩;rw [hsame j (qi4 h1 hk.size) (fun hl=>by rcases (hlent j hl).1 with h3|h3;omega;exact h2 h3)];exact hk.block j h1 h2
  ·rcases m3 b hb' with ⟨h1,_⟩|h1
   ·exact h.hp.kH b h1
   rcases hG' b h1 with h2|h2|h2
   ·exact h.hp.kH b h2
   ·exact .inr (.inl (qd3 h.hp.keeps.size h2))
   exact .inr (hlent b h2).1
  cases hm:eB i ids with
  |true=>rw [b1 i (fS.1 hm)] at hi;exact hrh.kL i hi
  |false=>rw [b2 i hm] at hi;exact h.hp.kL i hi
 refine ⟨β2,G3,?_⟩;have:=hpre.put d (hnew x y (fun i hi=>hin2 i (.inl hi)) hcx);cases d<;>exact this
theorem fw.drop (h:fw R β G s a w):∀ (news:List Nat),(∀ id∈news,s.free id=true)→∃ β',fw R β' G s a w∧∀ id∈news,β' id= .no
 |[],_=>⟨β,h,fun _ h=>by cases h⟩
 |i::r,hf=>by
  obtain ⟨β1,h1,h2⟩:=h.drop r fun id hid=>hf id (by simp [hid]);obtain ⟨f1,f2,f3⟩:=j9 (hf i aC);have hoth:∀ j,j≠i→(β1.set i .no) j=β1 j:=fun j hj=>by simp [c9.set,hj]
  refine ⟨β1.set i .no,⟨h1.defers,h1.size,fun j x y hx hy=>(h1.fr j x y hx hy).iM (f1 j x hx) _,⟨h1.hp.gs,fun j bk hj=>?_,fun j k b t t' hj hk hbj hbk=>?_,h1.hp.keeps,h1.hp.kH,h1.hp.kL.gone,h1.hp.iC.Hn _ (by have:=iD (hf i aC);omega) (fun _ _ h=>h)⟩⟩,fun id hid=>?_⟩
  ·have hji:j≠i:=fun e=>by subst e;rw [f2] at hj;cases hj
   have:=h1.hp.blk j bk hj;unfold bZ at this ⊢;rw [hoth j hji];cases hβ:β1 j with
   |no=>rw [hβ] at this;exact this
   |nil=>rw [hβ] at this;exact this
   |gh o=>
    rw [hβ] at this;exact gA this (fun _ _ h=>h) fun u hu v hc=>by
     obtain ⟨k,hk⟩:=qf2 hu;exact hc.iM (f3 j bk k u hj hk) _
   |«at» b t=>
    rw [hβ] at this;obtain ⟨g1,g2,arr,g3,g4,g5,g6,g7⟩:=this;exact ⟨g1,g2,arr,g3,g4,g5,g6,fun k x y hx hy=>(g7 k x y hx hy).iM (f3 j bk k x hj hx) _⟩
  ·have n1:j≠i:=fun e=>by subst e;simp [c9.set] at hbj
   have n2:k≠i:=fun e=>by subst e;simp [c9.set] at hbk
   rw [hoth j n1] at hbj;rw [hoth k n2] at hbk;exact h1.hp.inj j k b t t' hj hk hbj hbk
  by_cases he:id=i
  ·subst he;simp [c9.set]
  rw [hoth id he];exact h2 id (by simpa [he] using hid)
variable {d:Option Tmp} {f:FuncId} {args:Array Operand} {K:St→Prop} {Q:AV→Hp→Prop}
theorem eu {fo:Operand} {caps:List AV} {fx:Array TypeId} {ty:TypeId} {pos:String} {bF:Array Edge} {g:Option (Nat×Bool)}
 (hf:s.eval fo= .fn f caps) [hc:cI P f]
 (h:cX P f (cv s args++caps) hp news pins Q) (hin:∀ id bk,bp hp id=some bk→bp s.hp id=some bk) (hfree:∀ id∈news,s.free id=true) (hps':(pins.all fun i=>eB i (bl hp))=true)
 (hk:∀ x hp',Q x hp'→K ⟨(St.put ⟨AV.jP (bl hp++news) pins s.fr,[]⟩ d x).fr,hp'++fT (bl hp++news) pins s.hp⟩) (hms:xB (bl hp) s.hp=true:=by rfl):
 ff P ⟨d,.call {callee:=.value fo,args,argTypes:=fx},ty,pos,bF,g⟩ s K:=by
 intro R β G a w Q' hr;have hps:∀ i∈pins,i∈bl hp:=fun i hi=>fS.1 (qc8.1 hps' i hi);obtain ⟨β,hr,hno⟩:=hr.drop news hfree;have e1:=hr.eval fo;rw [hf] at e1;obtain ⟨xs,hfv,hxl,hxs⟩:=ki e1 hc.lt;have hrun:(execOp a.eval ⟨d,.call {callee:=.value fo,args,argTypes:=fx},ty,pos,bF,g⟩).run P w= .ok (.enter f (args.map a.eval++xs.toArray)) w:=by simp [execOp,resolve,hfv,Deferred.ofValue,invoke,hc.ok]
 unfold Oper.wp;rw [hrun,Oper.upon_enter];obtain ⟨l1,l2⟩:=iR hr args;have hcl:Ce G β (cv s args++caps) ((args.map a.eval).toList++xs):=by
  refine ⟨by simp [l1,hxl],fun j x y hx hy=>?_⟩;rcases qc4 j (cv s args).length with hj|hj
  ·rw [qe1 hj] at hx
   rw [qe1 ak] at hy;exact l2 j x y hx hy
  rw [qc7 hj] at hx;rw [qc7 ak,← l1] at hy;exact hxs _ x y hx hy
 have:=h (fun id hid=>iD (hfree id hid)) β G w _ R.out (iw R) (rf hr.hp hin) hno hcl;have harr:((args.map a.eval).toList++xs).toArray=args.map a.eval++xs.toArray:=by apply Array.ext';simp
 rw [harr] at this;refine this.mono fun e w' ⟨y,G',β',x,hp',he,hQ,hwi,hpn,hgr,hcx,hrh⟩=>?_;subst he;obtain ⟨β2,G2,hr2⟩:=hr.PZ hin hfree hms hno hwi hpn hgr hps hcx hrh d;exact ⟨β2,G2,_,hk x hp' hQ,hr2⟩
theorem bL {fx:Array TypeId} {ty:TypeId} {pos:String} {bF:Array Edge} {g:Option (Nat×Bool)} [hc:cI P f]
 (h:cX P f (cv s args) hp news pins Q) (hin:∀ id bk,bp hp id=some bk→bp s.hp id=some bk) (hfree:∀ id∈news,s.free id=true) (hps':(pins.all fun i=>eB i (bl hp))=true)
 (hk:∀ x hp',Q x hp'→K ⟨(St.put ⟨AV.jP (bl hp++news) pins s.fr,[]⟩ d x).fr,hp'++fT (bl hp++news) pins s.hp⟩) (hms:xB (bl hp) s.hp=true:=by rfl):
 ff P ⟨d,.call {callee:=.value (.func f),args,argTypes:=fx},ty,pos,bF,g⟩ s K:=by
 intro R β G a w Q' hr;have hps:∀ i∈pins,i∈bl hp:=fun i hi=>fS.1 (qc8.1 hps' i hi);obtain ⟨β,hr,hno⟩:=hr.drop news hfree;have hrun:(execOp a.eval ⟨d,.call {callee:=.value (.func f),args,argTypes:=fx},ty,pos,bF,g⟩).run P w= .ok (.enter f (args.map a.eval)) w:=by simp [execOp,resolve,Act.eval,Deferred.ofValue,invoke,hc.ok]
 unfold Oper.wp;rw [hrun,Oper.upon_enter];have:=h (fun id hid=>iD (hfree id hid)) β G w (args.map a.eval).toList R.out (iw R) (rf hr.hp hin) hno (iR hr args);simp only [qf5] at this;refine this.mono fun e w' ⟨y,G',β',x,hp',he,hQ,hwi,hpn,hgr,hcx,hrh⟩=>?_;subst he;obtain ⟨β2,G2,hr2⟩:=hr.PZ hin hfree hms hno hwi hpn hgr hps hcx hrh d;exact ⟨β2,G2,_,hk x hp' hQ,hr2⟩
def fJ (cs:List AV):iB:=⟨1000000000,cs,false⟩
def iN (P:Program) (rs:Array ResultVar) (ids pins recs:List Nat) (Q:AV→Hp→Prop):Exit→St→Prop
 | .normal,s| .ret,s=>∃ s' x hp',Le s s'∧RV P rs s' x∧iE s'.hp hp'∧bp s'.hp 1000000000=some (fJ (pins.map fun i=>AV.ptr i 0))∧iA ids x hp'∧Cc hp' recs=true∧Q x hp'
 |_,_=>False
theorem P0 (h:dx R β G hp w) {bk:iB} (hb:bp hp 1000000000=some bk):∃ o,β 1000000000= .gh o∧vD R β G 1000000000 bk.T bk.full bk.cs o:=by
 have:=h.blk _ _ hb;unfold bZ at this;cases hβ:β 1000000000 with
 |no=>rw [hβ] at this;exact this.elim
 |nil=>have:=h.kL _ (.inl hβ);omega
 |«at» b t=>have:=h.kL _ (.inr ⟨b,t,hβ⟩);omega
 |gh o=>rw [hβ] at this;exact ⟨o,rfl,this⟩
def Jv (hp:Hp) (pins:List Nat):Bool:=pins.all fun i=>match bp hp i with|some bk=>bk.full|none=>false
theorem Jw {fn:Func} {c:Code} {args:List AV} {n:Nat} {rs:Array ResultVar} (hf:P.funcs[f]?=some fn) (hb:fn.body=some c) (hn:fn.ntmps=n) (hrs:fn.results=rs)
 (hg:(AV.bz 1000000000 args|| cz 1000000000 hp)=false) (hids:1000000000 ∉ bl hp++news) (hp1:Jv hp pins=true)
 (h:AW P c ⟨args++List.replicate (n - args.length) .any,hp++[(1000000000,fJ (pins.map fun i=>AV.ptr i 0))]⟩ (iN P rs (bl hp++news) pins (Eo hp) Q)):cX P f args hp news pins Q:=by
 intro hle β G w vals out lp hH hno ⟨hl,hc⟩;subst hn;simp only [qg7] at hg;obtain ⟨hg1,hg2⟩:=hg;have hgk:bp hp 1000000000=none:=by
  cases hq:bp hp 1000000000 with
  |none=>rfl
  |some bk=>rw [eG hq] at hg2;cases hg2
 have hpa:∀ i∈pins,∃ b t,β i= .at b t:=fun i hi=>by
  have:=qc8.1 hp1 i hi;cases hq:bp hp i with
  |none=>rw [hq] at this;cases this
  |some bk=>
   rw [hq] at this;simp only at this;have h0:=hH.blk i bk hq;unfold bZ at h0;cases hβ:β i with
   |no=>rw [hβ] at h0;exact h0.elim
   |nil=>rw [hβ] at h0;rw [this] at h0;cases h0.2
   |gh o=>rw [hβ] at h0;have h1:=vD.R4 h0;rw [this] at h1;cases h1.1
   |«at» b t=>exact ⟨b,t,rfl⟩
 let pv:Nat→Value:=fun i=>match β i with| .at b _=>.pointer (some ⟨b,0,none⟩)|_=>undef
 let out':Nat→Option (List Value):=fun i=>if i=1000000000 then some (pins.map pv) else out i
 let β1:=β.set 1000000000 (.gh none);have hoth:∀ i,i≠1000000000→β1 i=β i:=fun i hi=>by simp [β1,c9.set,hi]
 have hH1:dx ⟨w,iW β (bl hp),G,out',lp⟩ β1 G (hp++[(1000000000,fJ (pins.map fun i=>AV.ptr i 0))]) w:=by
  have hc1:∀ {i bk},bp hp i=some bk→∀ u∈bk.cs,∀ v,Conc G β u v→Conc G β1 u v:=fun {i bk} hi u hu v hcv=>by
   obtain ⟨j,hj⟩:=qf2 hu;refine hcv.iM ?_ _;cases hm:AV.cq 1000000000 u with
   |false=>rfl
   |true=>rw [gw hi (jg hj hm)] at hg2;cases hg2
  refine ⟨hH.gs,fun i bk hi=>?_,fun i j b t t' hi hj hbi hbj=>?_,⟨hH.keeps.os,hH.keeps.tape,hH.keeps.output,hH.keeps.size,hH.keeps.block⟩,hH.kH,fun i hi=>?_,hH.iC.Hn _ aB fun i hne hi=>by
   rw [eh] at hi;cases hq:bp hp i with
   |some _=>rfl
   |none=>rw [hq] at hi;simp [bp,Ne.symm hne] at hi⟩
  ·rw [eh] at hi
   cases hq:bp hp i with
   |some bk'=>
    rw [hq] at hi;simp at hi;subst hi;have hne:i≠1000000000:=fun e=>by subst e;rw [hgk] at hq;cases hq
    have:=hH.blk i bk' hq;unfold bZ at this ⊢;rw [hoth i hne];cases hβ:β i with
    |no=>rw [hβ] at this;exact this
    |nil=>rw [hβ] at this;exact this
    |gh o=>
     rw [hβ] at this;rcases gA this (fun _ _ h=>h) fun u hu v hcv=>hc1 hq u hu v hcv with ⟨outs,k0,k1,k2,k3⟩|hm
     ·refine .inl ⟨outs,by simp only [out',hne,if_false];exact k0,k1,?_,k3⟩
      cases o with
      |none=>exact k2
      |some p=>exact k2
     exact .inr hm
    |«at» b t=>
     rw [hβ] at this;obtain ⟨g1,g2,arr,g3,g4,g5,g6,g7⟩:=this;exact ⟨g1,g2,arr,g3,g4,g5,g6,fun j u v hu hv=>hc1 hq u (qg0 hu) v (g7 j u v hu hv)⟩
   |none=>
    rw [hq] at hi;simp only [bp,qi1] at hi;split at hi
    ·rename_i e;subst e;injection hi with hi;subst hi
     unfold bZ
     have:β1 1000000000= .gh none:=by simp [β1,c9.set]
     rw [this];refine .inl ⟨pins.map pv,by simp [out'],⟨rfl,qb3 _⟩,qm0 1000000000,by simp [fJ],fun j u v hu hv=>?_⟩;simp only [fJ,qc9,qa6] at hu hv;obtain ⟨i,hi,rfl⟩:=hu;obtain ⟨i',hi',rfl⟩:=hv;rw [hi] at hi';injection hi' with hi';subst hi'
     have him:=qg0 hi;obtain ⟨b,t,hbt⟩:=hpa i him;have hne:i≠1000000000:=fun e=>by have:=hH.kL i (.inr ⟨b,t,hbt⟩);omega
     have hpv:pv i= .pointer (some ⟨b,0,none⟩):=by simp only [pv,hbt]
     rw [hpv];exact .ptr (by rw [hoth i hne];exact hbt)
    cases hi
  ·have n1:i≠1000000000:=fun e=>by subst e;simp [β1,c9.set] at hbi
   have n2:j≠1000000000:=fun e=>by subst e;simp [β1,c9.set] at hbj
   rw [hoth i n1] at hbi;rw [hoth j n2] at hbj;have key:∀ i,i≠1000000000→(bp (hp++[(1000000000,fJ (pins.map fun i=>AV.ptr i 0))]) i).isSome→(bp hp i).isSome:=fun i hi his=>by
    rw [eh] at his;cases hq:bp hp i with
    |some bk=>rfl
    |none=>rw [hq] at his;simp [bp,Ne.symm hi] at his
   exact hH.inj i j b t t' (key i n1 hi) (key j n2 hj) hbi hbj
  by_cases he:i=1000000000
  ·subst he;simp [β1,c9.set] at hi
  rw [hoth i he] at hi;exact hH.kL i hi
 have hc1:∀ (j:Nat) x y,args[j]?=some x→vals[j]?=some y→Conc G β1 x y:=fun j x y hx hy=>(hc j x y hx hy).iM (eb hg1 hx) _;refine iq (R:=⟨w,iW β (bl hp),G,out',lp⟩) (β:=β1) (G:=G) hf hb hrs (jS hl hc1 hH1) h fun e s' hq=>?_;have key:(∃ s'' x hp',Le s' s''∧RV P rs s'' x∧iE s''.hp hp'∧bp s''.hp 1000000000=some (fJ (pins.map fun i=>AV.ptr i 0))∧iA (bl hp++news) x hp'∧Cc hp' (Eo hp)=true∧Q x hp')→
  ∃ s'' x,Le s' s''∧RV P rs s'' x∧∀ β2 G2 y w2,Conc G2 β2 x y→dx ⟨w,iW β (bl hp),G,out',lp⟩ β2 G2 s''.hp w2→
  (fun (e:Ending) (w':World)=>∃ y G' β' x hp',e= .returned y∧Q x hp'∧iA (bl hp++news) x hp'∧Hx β β' pins∧R7 β β' (bl hp)∧Conc G' β' x y∧dx ⟨w,iW β (bl hp),G,out,lp⟩ β' G' hp' w') (.returned y) w2:=by
  rintro ⟨s'',x,hp',hle,hrv,hsu,hgh,hwi,hrk,hQ⟩;refine ⟨s'',x,hle,hrv,fun β2 G2 y w2 hcy hH2=>⟨y,G2,β2,x,hp',rfl,hQ,hwi,fun i hi b t hbt=>?_,fun i hi p hpi hip=>?_,hcy,?_⟩⟩
  ·obtain ⟨o,ho,h7⟩:=P0 hH2 hgh
   rcases h7 with ⟨outs,k0,_,_,_,k4⟩|⟨_,_,_,_,⟨_,_,h8⟩,_⟩;rotate_left
   ·omega
   simp only [out',if_true] at k0;injection k0 with k0;subst k0
   obtain ⟨j,hj⟩:=qf2 hi;have hpv:pv i= .pointer (some ⟨b,0,none⟩):=by simp only [pv,hbt]
   have:=k4 j (.ptr i 0) (pv i) (by simp [fJ,hj]) (by simp [hj]);rw [hpv] at this;cases this with
   |ptr hh=>exact ⟨_,hh⟩
  ·obtain ⟨bk,hbk⟩:=dq.1 hi
   have h0:=hH.blk i bk hbk;unfold bZ at h0;rw [hip] at h0;obtain ⟨r1,r3,r2⟩:=ko h0;have hpm:p.2.mp=false:=by
    cases hq:p.2.mp with
    |false=>rfl
    |true=>have:=(r3 p.1 p.2 rfl hq).1;omega
   obtain ⟨D,k1,_⟩:=(r2 p.1 p.2 rfl).2.2 hpm;obtain ⟨hbig,bk',hbk',hT'⟩:=Cd hrk (Cb hbk (r1.2 ⟨p.1,p.2,rfl,hpm⟩));have h3:=(hH2.sub hsu).blk i bk' hbk';unfold bZ at h3;cases hβ:β2 i with
   |no=>rw [hβ] at h3;exact h3.elim
   |nil=>exact absurd (hH2.kL i (.inl hβ)) (Nat.not_le.2 (Nat.lt_of_succ_le hbig))
   |«at» b t=>exact absurd (hH2.kL i (.inr ⟨b,t,hβ⟩)) (Nat.not_le.2 (Nat.lt_of_succ_le hbig))
   |gh o=>
    rw [hβ] at h3;obtain ⟨q1,_,q2⟩:=ko h3;cases o with
    |none=>obtain ⟨_,_,e,_⟩:=q1.1 hT';cases e
    |some p'=>
     obtain ⟨l',y',e',hm'⟩:=q1.1 hT';injection e' with e';subst e';obtain ⟨D',k2,_⟩:=(q2 l' y' rfl).2.2 hm';simp only at k1 k2;rw [k1] at k2;injection k2 with k2;injection k2 with e1 e2;injection e2 with e2 e3
     have:p=(l',y'):=Prod.ext e1 e3
     rw [this]
  have hne:∀ i bk,bp hp' i=some bk→i≠1000000000:=fun i bk hi e=>by
   subst e;have:=(hwi 1000000000 hids).2;rw [eG hi] at this;cases this
  have h3:=hH2.sub hsu;refine ⟨h3.gs,fun i bk hi=>?_,h3.inj,⟨h3.keeps.os,h3.keeps.tape,h3.keeps.output,h3.keeps.size,h3.keeps.block⟩,h3.kH,h3.kL,h3.iC⟩;have:=h3.blk i bk hi;unfold bZ at this ⊢;cases hβ:β2 i with
  |no=>rw [hβ] at this;exact this
  |nil=>rw [hβ] at this;exact this
  |«at» b t=>rw [hβ] at this;exact this
  |gh o=>
   rw [hβ] at this;rcases this with ⟨outs,k0,k1,k2,k3⟩|hm
   ·simp only [out',hne i bk hi,if_false] at k0
    refine .inl ⟨outs,k0,k1,?_,k3⟩;cases o with
    |none=>exact k2
    |some p=>exact k2
   exact .inr hm
 cases e with
 |normal=>exact ⟨.inl rfl,key hq⟩
 |ret=>exact ⟨.inr rfl,key hq⟩
 |_=>exact hq.elim
theorem iI:RV P #[] s (.dC []):=fun fn hf R β G a w hr=>by
 refine ⟨.tuple #[],?_,.dC [] rfl fun j x y hx=>by simp at hx⟩;rw [mI,hf];simp
theorem Nb:∀ id bk,bp [] id=some bk→bp H id=some bk:=fun _ _ h=>by simp [bp] at h
theorem Jq {r:Hp} {i:Nat} {b:iB} (h:bp H i=some b) (hr:∀ id bk,bp r id=some bk→bp H id=some bk):∀ id bk,bp ((i,b)::r) id=some bk→bp H id=some bk:=fun id bk hb=>by
 simp only [bp] at hb;split at hb
 ·rename_i e;subst e;injection hb with hb;subst hb;exact h
 exact hr id bk hb
mutual
def AV.uF (ids:List Nat):AV→Bool
 | .ptr i _=>eB i ids
 | .sl _ _ i _ _=>eB i ids
 | .yl i _=>eB i ids
 | .agg cs=>AV.j6 ids cs
 | .dC cs=>AV.j6 ids cs
 | .fn _ cs=>AV.j6 ids cs
 | .any=>true
 | .v _=>true
 | .cD _ _ _=>true
 | .bC _=>true
def AV.j6 (ids:List Nat):List AV→Bool
 |[]=>true
 |x::r=>AV.uF ids x&&AV.j6 ids r
end
def rX (ids:List Nat):Hp→Bool
 |[]=>true
 |(i,b)::r=>eB i ids&&AV.j6 ids b.cs&&rX ids r
variable {ids:List Nat} {id:Nat}
theorem Cg (hid:id ∉ ids):∀ (x:AV),AV.uF ids x=true→AV.cq id x=false:=by
 intro x
 induction x using AV.rec (motive_2:=fun cs=>AV.j6 ids cs=true→AV.bz id cs=false) with
 |agg cs ih=>intro h;simp only [AV.uF] at h;simp only [AV.cq];exact ih h
 |dC cs ih=>intro h;simp only [AV.uF] at h;simp only [AV.cq];exact ih h
 |fn f cs ih=>intro h;simp only [AV.uF] at h;simp only [AV.cq];exact ih h
 |ptr i o=>intro h;simp only [AV.uF,fS] at h;simp only [AV.cq,beq_eq_false_iff_ne];rintro rfl;exact hid h
 |sl a b i o n=>intro h;simp only [AV.uF,fS] at h;simp only [AV.cq,beq_eq_false_iff_ne];rintro rfl;exact hid h
 |yl i y=>intro h;simp only [AV.uF,fS] at h;simp only [AV.cq,beq_eq_false_iff_ne];rintro rfl;exact hid h
 |nil=>rfl
 |cons x r h1 h2=>rename_i h;simp only [AV.j6,qa1] at h;simp only [AV.bz,h1 h.1,h2 h.2,qf0]
 |_=>intro _;rfl
theorem Hy (hid:id ∉ ids) (cs:List AV) (h:AV.j6 ids cs=true):AV.bz id cs=false:=by
 have:=Cg hid (.agg cs) (by simpa only [AV.uF] using h);simpa only [AV.cq] using this
theorem xC {ids:List Nat} {id:Nat} (hid:id ∉ ids):∀ (hp:Hp),rX ids hp=true→cz id hp=false
 |[],_=>rfl
 |(i,b)::r,h=>by
  simp only [rX,qa1,fS] at h;simp only [cz,Hy hid _ h.1.2,xC hid r h.2,qc5,beq_eq_false_iff_ne];rintro rfl;exact hid h.1.1
variable {x:AV} {hp:Hp}
theorem zj (h:(AV.uF ids x&&rX ids hp)=true):iA ids x hp:=fun id hid=>by
 simp only [qa1] at h;exact ⟨Cg hid x h.1,xC hid hp h.2⟩
variable {pins:List Nat}
theorem Nc:∀ (x:AV),x.gq=true→AV.sr ids pins x=true:=by
 intro x
 induction x using AV.rec (motive_2:=fun cs=>AV.cu cs=true→AV.mJ ids pins cs=true) with
 |agg cs ih=>intro h;simp only [AV.gq] at h;simp only [AV.sr];exact ih h
 |dC cs ih=>intro h;simp only [AV.gq] at h;simp only [AV.sr];exact ih h
 |fn f cs ih=>intro h;simp only [AV.gq] at h;simp only [AV.sr];exact ih h
 |ptr=>intro h;simp [AV.gq] at h
 |sl=>intro h;simp [AV.gq] at h
 |yl=>intro h;simp [AV.gq] at h
 |nil=>rfl
 |cons x r h1 h2=>rename_i h;simp only [AV.cu,qa1] at h;simp only [AV.mJ,h1 h.1,h2 h.2,Bool.and_self]
 |_=>intro _;rfl
variable {l:List AV}
theorem mK (h:AV.cu l=true):AV.jP ids pins l=l:=by
 induction l with
 |nil=>rfl
 |cons x r ih=>simp only [AV.cu,qa1] at h;simp only [AV.jP,AV.fix,Nc x h.1,if_true,ih h.2]
theorem Jx {α:Type} (ids pins:List Nat) (f:α→AV) (xs:List α) (h:∀ a,(f a).gq=true):AV.jP ids pins (xs.map f)=xs.map f:=mK (dO f xs h)
theorem Nd:∀ (x:AV),x.gq=true→AV.uF ids x=true:=by
 intro x
 induction x using AV.rec (motive_2:=fun cs=>AV.cu cs=true→AV.j6 ids cs=true) with
 |agg cs ih=>intro h;simp only [AV.gq] at h;simp only [AV.uF];exact ih h
 |dC cs ih=>intro h;simp only [AV.gq] at h;simp only [AV.uF];exact ih h
 |fn f cs ih=>intro h;simp only [AV.gq] at h;simp only [AV.uF];exact ih h
 |ptr=>intro h;simp [AV.gq] at h
 |sl=>intro h;simp [AV.gq] at h
 |yl=>intro h;simp [AV.gq] at h
 |nil=>rfl
 |cons x r h1 h2=>rename_i h;simp only [AV.cu,qa1] at h;simp only [AV.j6,h1 h.1,h2 h.2,Bool.and_self]
 |_=>intro _;rfl
theorem oB (h:AV.cu l=true):AV.j6 ids l=true:=by
 induction l with
 |nil=>rfl
 |cons x r ih=>simp only [AV.cu,qa1] at h;simp only [AV.j6,Nd x h.1,ih h.2,Bool.and_self]
@[go_sem] theorem hh:(∀ (ids pins:List Nat),AV.fix ids pins .any= .any)∧
 (∀ (ids pins:List Nat) (x:Value),AV.fix ids pins (.v x)= .v x)∧
 (∀ (ids pins:List Nat) (a b:Nat) (es:List AV),AV.fix ids pins (.cD a b es)= .cD a b es)∧
 (∀ (ids pins:List Nat) (es:List AV),AV.fix ids pins (.bC es)= .bC es)∧
 (∀ (ids pins:List Nat) (i o:Nat),AV.fix ids pins (.ptr i o)=if (!eB i ids|| eB i pins)=true then .ptr i o else .any)∧
 (∀ (ids pins:List Nat) (a b i o n:Nat),AV.fix ids pins (.sl a b i o n)=if (!eB i ids)=true then .sl a b i o n else .any)∧
 (∀ (ids pins:List Nat) (y:cF),AV.fix ids pins (.yl 1000000001 y)= .yl 1000000001 y)∧
 (∀ (ids pins:List Nat) (l:List AV),AV.fix ids pins (.agg l)=if AV.mJ ids pins l=true then .agg l else .any)∧
 (∀ (ids pins:List Nat) (l:List AV),AV.fix ids pins (.dC l)=if AV.mJ ids pins l=true then .dC l else .any)∧
 (∀ (ids pins:List Nat) (f:FuncId) (l:List AV),AV.fix ids pins (.fn f l)=if AV.mJ ids pins l=true then .fn f l else .any)∧
 (∀ (ids pins:List Nat),AV.jP ids pins []=[])∧
 (∀ (ids pins:List Nat) (x:AV) (r:List AV),AV.jP ids pins (x::r)=AV.fix ids pins x::AV.jP ids pins r)∧
 (∀ (ids pins:List Nat),fT ids pins []=[])∧
 (∀ (ids pins:List Nat) (i:Nat) (b:iB) (r:Hp),fT ids pins ((i,b)::r)=if eB i ids=true then fT ids pins r else (i,⟨b.T,AV.jP ids pins b.cs,b.full⟩)::fT ids pins r)∧
 (∀ (i:Nat),eB i []=false)∧(∀ (i j:Nat) (r:List Nat),eB i (j::r)=(i == j|| eB i r))∧
 (bl []=[])∧(∀ (i:Nat) (b:iB) (r:Hp),bl ((i,b)::r)=i::bl r):=by
 refine ⟨?_,?_,?_,?_,?_,?_,?_,?_,?_,?_,?_,?_,?_,?_,?_,?_,?_,?_⟩<;>intros<;>rfl
@[go_sem] theorem TU (ids pins:List Nat) (y:cF):AV.fix ids pins (.yl 2000000001 y)=if (!eB 2000000001 ids)=true then .yl 2000000001 y else .any:=rfl
@[go_sem] theorem TV (ids pins:List Nat) (y:cF):AV.sr ids pins (.yl 2000000001 y)= !eB 2000000001 ids:=rfl
@[go_sem] theorem Uz:(∀ (ids pins:List Nat),AV.mJ ids pins []=true)∧
 (∀ (ids pins:List Nat) (x:AV) (r:List AV),AV.mJ ids pins (x::r)=(AV.sr ids pins x&&AV.mJ ids pins r))∧
 (∀ (ids pins:List Nat),AV.sr ids pins .any=true)∧
 (∀ (ids pins:List Nat) (x:Value),AV.sr ids pins (.v x)=true)∧
 (∀ (ids pins:List Nat) (a b:Nat) (es:List AV),AV.sr ids pins (.cD a b es)=true)∧
 (∀ (ids pins:List Nat) (es:List AV),AV.sr ids pins (.bC es)=true)∧
 (∀ (ids pins:List Nat) (i o:Nat),AV.sr ids pins (.ptr i o)=(!eB i ids|| eB i pins))∧
 (∀ (ids pins:List Nat) (a b i o n:Nat),AV.sr ids pins (.sl a b i o n)= !eB i ids)∧
 (∀ (ids pins:List Nat) (y:cF),AV.sr ids pins (.yl 1000000001 y)=true)∧
 (∀ (ids pins:List Nat) (l:List AV),AV.sr ids pins (.agg l)=AV.mJ ids pins l)∧
 (∀ (ids pins:List Nat) (l:List AV),AV.sr ids pins (.dC l)=AV.mJ ids pins l)∧
 (∀ (ids pins:List Nat) (f:FuncId) (l:List AV),AV.sr ids pins (.fn f l)=AV.mJ ids pins l)∧
 (∀ (ids pins:List Nat) (xs:List Int),AV.jP ids pins (xs.map AV.int)=xs.map AV.int)∧
 (∀ (ids pins:List Nat) (xs:List Bool),AV.jP ids pins (xs.map AV.bool)=xs.map AV.bool)∧
 (∀ (ids:List Nat),AV.j6 ids []=true)∧
 (∀ (ids:List Nat) (x:AV) (r:List AV),AV.j6 ids (x::r)=(AV.uF ids x&&AV.j6 ids r))∧
 (∀ (ids:List Nat),rX ids []=true)∧
 (∀ (ids:List Nat) (i:Nat) (b:iB) (r:Hp),rX ids ((i,b)::r)=(eB i ids&&AV.j6 ids b.cs&&rX ids r))∧
 (∀ (ids:List Nat) (xs:List Int),AV.j6 ids (xs.map AV.int)=true)∧
 (∀ (ids:List Nat) (xs:List Bool),AV.j6 ids (xs.map AV.bool)=true):=by
 refine ⟨?_,?_,?_,?_,?_,?_,?_,?_,?_,?_,?_,?_,?_,?_,?_,?_,?_,?_,?_,?_⟩<;>intros<;>first|rfl|exact Jx _ _ _ _ (fun _=>rfl)|exact oB (dO _ _ fun _=>rfl)
@[go_sem] theorem VT:(∀ (ids:List Nat),AV.uF ids .any=true)∧
 (∀ (ids:List Nat) (x:Value),AV.uF ids (.v x)=true)∧
 (∀ (ids:List Nat) (a b:Nat) (es:List AV),AV.uF ids (.cD a b es)=true)∧
 (∀ (ids:List Nat) (es:List AV),AV.uF ids (.bC es)=true)∧
 (∀ (ids:List Nat) (i o:Nat),AV.uF ids (.ptr i o)=eB i ids)∧
 (∀ (ids:List Nat) (a b i o n:Nat),AV.uF ids (.sl a b i o n)=eB i ids)∧
 (∀ (ids:List Nat) (i:Nat) (y:cF),AV.uF ids (.yl i y)=eB i ids)∧
 (∀ (ids:List Nat) (l:List AV),AV.uF ids (.agg l)=AV.j6 ids l)∧
 (∀ (ids:List Nat) (l:List AV),AV.uF ids (.dC l)=AV.j6 ids l)∧
 (∀ (ids:List Nat) (f:FuncId) (l:List AV),AV.uF ids (.fn f l)=AV.j6 ids l):=by
 refine ⟨?_,?_,?_,?_,?_,?_,?_,?_,?_,?_⟩<;>intros<;>rfl
@[go_sem] theorem VU:(∀ (ids:List Nat) (a b:List AV),AV.j6 ids (a++b)=(AV.j6 ids a&&AV.j6 ids b))∧
 (∀ (ids pins:List Nat) (a b:List AV),AV.mJ ids pins (a++b)=(AV.mJ ids pins a&&AV.mJ ids pins b))∧
 (∀ (ids pins:List Nat) (a b:List AV),AV.jP ids pins (a++b)=AV.jP ids pins a++AV.jP ids pins b):=by
 refine ⟨fun ids a b=>?_,fun ids pins a b=>?_,fun ids pins a b=>?_⟩
 ·induction a with
  |nil=>rfl
  |cons x r ih=>simp [AV.j6,ih,Bool.and_assoc]
 ·induction a with
  |nil=>rfl
  |cons x r ih=>simp [AV.mJ,ih,Bool.and_assoc]
 induction a with
 |nil=>rfl
 |cons x r ih=>simp [AV.jP,ih]
variable {recs:List Nat} {Q:AV→Hp→Prop} {rs:Array ResultVar}
theorem cA {f:FuncId} {fn:Func} {c:Code} {args fr:List AV} {hp2:Hp} {news:List Nat} {n:Nat} (hf:P.funcs[f]?=some fn) (hn:fn.ntmps=n)
 (h:AW P c ⟨fr,hp2⟩ (iN P rs ids pins recs Q)) (hb:fn.body=some c:=by rfl) (hrs:fn.results=rs:=by rfl)
 (hg:(AV.bz 1000000000 args|| cz 1000000000 hp)=false:=by first|rfl|(simp only [go_sem,Nat.reduceBEq,qf0,qc5,qc1];done))
 (hid:bl hp++news=ids:=by rfl) (hrc:Eo hp=recs:=by rfl) (hids:eB 1000000000 (bl hp++news)=false:=by rfl) (hp1:Jv hp pins=true:=by rfl)
 (he:args++List.replicate (n - args.length) .any=fr:=by simp only [go_sem,Nat.reduceAdd,Nat.reduceSub,qg6,qh3];exact rfl)
 (he2:hp++[(1000000000,fJ (pins.map fun i=>AV.ptr i 0))]=hp2:=by simp only [fJ,qd4,qg5,qi8,qk0];exact rfl):cX P f args hp news pins Q:=by
 subst hid hrc;exact Jw hf hb hn hrs hg (uQ.1 hids) hp1 (by rw [he,he2];exact h)
theorem bK {e:Exit} {s s':St} {hp':Hp} (hle:Le s s') (hrv:RV P rs s' x) (hs:iE s'.hp hp') (hg:bp s'.hp 1000000000=some (fJ (pins.map fun i=>AV.ptr i 0)))
 (hw:(AV.uF ids x&&rX ids hp')=true) (hQ:Q x hp')
 (he:e= .ret∨e= .normal:=by first|exact .inl rfl|exact .inr rfl) (hrk:Cc hp' recs=true:=by rfl):iN P rs ids pins recs Q e s:=by
 have:∃ s' x hp',Le s s'∧RV P rs s' x∧iE s'.hp hp'∧bp s'.hp 1000000000=some (fJ (pins.map fun i=>AV.ptr i 0))∧iA ids x hp'∧Cc hp' recs=true∧Q x hp':=⟨s',x,hp',hle,hrv,hs,hg,zj hw,hrk,hQ⟩
 rcases he with rfl|rfl<;>exact this
end Go.Ab
set_option maxRecDepth 10000
namespace Go.Ab
open Go.RowKit
variable {P:Program}
variable {w:World}
theorem jb {b:Nat} {o:Obj} (h:w.heap[b]?=some o):b < w.heap.size:=(Array.getElem?_eq_some_iff.1 h).1
variable {R:Rg} {G:bI} {lp':nb}
theorem pz {ds:List Deferred} (hd:tv R.w0.heap.size G ds) (hgs:∀ b o,G b=some o→w.heap[b]?=some o) (hkeep:vH R w) (hdom:∀ b,G b≠none→R.g0 b≠none∨R.w0.heap.size≤b∨R.ex b)
 {ex':Nat→Prop} (hx1:∀ b,ex' b→R.w0.heap.size≤b∨R.ex b) (hx2:∀ b,ex' b→G b=none∨∃ z,G b=some z∧soft z=true)
 {β':c9} {G':bI} {hp':Hp} {w':World} {out':Nat→Option (List Value)} (hrh:dx ⟨w,ex',G,out',lp'⟩ β' G' hp' w')
 (hgh:∀ id bk o,bp hp' id=some bk→β' id= .gh o→vD ⟨w,ex',G,out',lp'⟩ β' G' id bk.T bk.full bk.cs o→vD R β' G' id bk.T bk.full bk.cs o):
 ∃ G3,tv R.w0.heap.size G3 ds∧(∀ b o,G' b=some o→G3 b=some o)∧dx R β' G3 hp' w':=by
 have hk:=hrh.keeps;have hsame:∀ b,b < w.heap.size→¬ex' b→w'.heap[b]?=w.heap[b]?:=fun b h1 h2=>hk.block b h1 h2;have hgs':∀ b o,G b=some o→¬ex' b→w'.heap[b]?=some o:=fun b o hg hn=>by
  rw [hsame b (jb (hgs b o hg)) hn];exact hgs b o hg
 let G3:bI:=fun b=>@ite _ (ex' b) (Classical.propDecidable _) (G' b) (match G b with|some o=>some o|none=>G' b);have g3r:∀ b,ex' b→G3 b=G' b:=fun b hb=>by simp only [G3,hb,if_true]
 have g3n:∀ b,¬ex' b→G3 b=match G b with|some o=>some o|none=>G' b:=fun b hb=>by simp only [G3,hb,if_false]
 have m2:∀ b o,G' b=some o→G3 b=some o:=fun b o hb=>by
  by_cases hr:ex' b
  ·rw [g3r b hr];exact hb
  cases hg:G b with
  |none=>rw [g3n b hr,hg];exact hb
  |some o'=>
   have e1:=hgs' b o' hg hr;have e2:=hrh.gs b o hb;rw [e1] at e2;injection e2 with e2;subst e2
   rw [g3n b hr,hg]
 refine ⟨G3,?_,m2,⟨fun b o hb=>?_,fun i bk hi=>?_,hrh.inj,?_,fun b hb=>?_,hrh.kL,hrh.iC⟩⟩
 ·obtain ⟨Ds,d1,d2,d3⟩:=hd
  refine ⟨Ds,d1,d2,fun D hD=>⟨(d3 D hD).1,?_⟩⟩;have hG:=(d3 D hD).2;have hn:¬ex' D:=fun hx=>by
   rcases hx2 D hx with h|⟨z,h,hs⟩
   ·rw [hG] at h;cases h
   rw [hG] at h;injection h with h;subst h;cases hs
  rw [g3n D hn,hG]
 ·by_cases hr:ex' b
  ·rw [g3r b hr] at hb;exact hrh.gs b o hb
  rw [g3n b hr] at hb;split at hb
  ·rename_i o' hg;injection hb with hb;subst hb;exact hgs' b _ hg hr
  exact hrh.gs b o hb
 ·have:=hrh.blk i bk hi
  unfold bZ at this ⊢;cases hβ:β' i with
  |no=>rw [hβ] at this;exact this
  |nil=>rw [hβ] at this;exact this
  |gh o=>
   rw [hβ] at this;exact gA (hgh i bk o hi hβ this) m2 fun u _ v hc=>hc.mono m2
  |«at» b t=>
   rw [hβ] at this;obtain ⟨g1,g2,arr,g3,g4,g5,g6,g7⟩:=this;refine ⟨?_,?_,arr,g3,g4,g5,g6,fun j x y hx hy=>(g7 j x y hx hy).mono m2⟩
   ·by_cases hr:ex' b
    ·rw [g3r b hr];exact g1
    rcases g2 with h2|h2
    ·have hn:G b=none:=by
      cases hg:G b with
      |none=>rfl
      |some o=>have:=jb (hgs b o hg);simp only at h2;omega
     rw [g3n b hr,hn];exact g1
    exact absurd h2 hr
   rcases g2 with h2|h2
   ·exact .inl (qd3 hkeep.size h2)
   exact hx1 b h2
 ·refine ⟨hk.os.trans hkeep.os,hk.tape.trans hkeep.tape,hk.output.trans hkeep.output,qd3 hkeep.size hk.size,fun j h1 h2=>?_⟩
  rw [hsame j (qi4 h1 hkeep.size) (fun hx=>by rcases hx1 j hx with h3|h3;omega;exact h2 h3)];exact hkeep.block j h1 h2
 by_cases hr:ex' b
 ·exact .inr (hx1 b hr)
 rw [g3n b hr] at hb;cases hg:G b with
 |some o=>exact hdom b (by rw [hg];simp)
 |none=>
  rw [hg] at hb;rcases hrh.kH b hb with h1|h1|h1
  ·exact absurd hg h1
  ·exact .inr (.inl (qd3 hkeep.size h1))
  exact absurd h1 hr
variable {β:c9} {hp:Hp} {fr:List AV}
theorem tF {w0:World} {ex:Nat→Prop} {g:bI} {out:Nat→Option (List Value)} {lp:nb} (hH:dx ⟨w0,ex,g,out,lp⟩ β G hp w)
 (gid T:Nat) (o:Option (Nat×cF)) (hbig:1000000000≤gid) (hgb:gid < 2000000000) (hT:1000000000≤T) {tm:List Value} (hl:fr.length=tm.length) (hc:∀ (j:Nat) x y,fr[j]?=some x→tm[j]?=some y→Conc G β x y)
 (hm1:AV.bz gid fr=false) (hm2:cz gid hp=false) (hlp':∀ i,i≠gid→lp' i=lp i)
 (hlp:Eh ⟨w0,ex,g,fun i=>if i=gid then some tm else out i,lp'⟩ G gid (T - 1000000000) tm o):
 dx ⟨w0,ex,g,fun i=>if i=gid then some tm else out i,lp'⟩ (β.set gid (.gh o)) G (hp++[(gid,⟨T,fr,false⟩)]) w:=by
 have hgk:bp hp gid=none:=by
  cases hq:bp hp gid with
  |none=>rfl
  |some bk=>rw [eG hq] at hm2;cases hm2
 have hoth:∀ i,i≠gid→(β.set gid (.gh o)) i=β i:=fun i hi=>by simp [c9.set,hi]
 have hc1:∀ {i bk},bp hp i=some bk→∀ u∈bk.cs,∀ v,Conc G β u v→Conc G (β.set gid (.gh o)) u v:=fun {i bk} hi u hu v hcv=>by
  obtain ⟨j,hj⟩:=qf2 hu;refine hcv.iM ?_ _;cases hm:AV.cq gid u with
  |false=>rfl
  |true=>rw [gw hi (jg hj hm)] at hm2;cases hm2
 refine ⟨hH.gs,fun i bk hi=>?_,fun i j b t t' hi hj hbi hbj=>?_,⟨hH.keeps.os,hH.keeps.tape,hH.keeps.output,hH.keeps.size,hH.keeps.block⟩,hH.kH,fun i hi=>?_,hH.iC.Hn _ hgb fun i hne hi=>by
  rw [eh] at hi;cases hq:bp hp i with
  |some _=>rfl
  |none=>rw [hq] at hi;simp [bp,Ne.symm hne] at hi⟩
 ·rw [eh] at hi
  cases hq:bp hp i with
  |some bk'=>
   rw [hq] at hi;simp at hi;subst hi;have hne:i≠gid:=fun e=>by subst e;rw [hgk] at hq;cases hq
   have:=hH.blk i bk' hq;unfold bZ at this ⊢;rw [hoth i hne];cases hβ:β i with
   |no=>rw [hβ] at this;exact this
   |nil=>rw [hβ] at this;exact this
   |gh o'=>
    rw [hβ] at this;rcases gA this (fun _ _ h=>h) fun u hu v hcv=>hc1 hq u hu v hcv with ⟨outs,k0,k1,k2,k3⟩|hm
    ·refine .inl ⟨outs,by simp only [hne,if_false];exact k0,k1,?_,k3⟩
     cases o' with
     |none=>exact k2
     |some p=>
      obtain ⟨q0,qm,D,f,q1,q2⟩:=k2;exact ⟨q0,qm,D,f,by simp only at q1 ⊢;rw [hlp' i hne];exact q1,q2⟩
    exact .inr hm
   |«at» b t=>
    rw [hβ] at this;obtain ⟨g1,g2,arr,g3,g4,g5,g6,g7⟩:=this;exact ⟨g1,g2,arr,g3,g4,g5,g6,fun j u v hu hv=>hc1 hq u (qg0 hu) v (g7 j u v hu hv)⟩
  |none=>
   rw [hq] at hi;simp only [bp,qi1] at hi;split at hi
   ·rename_i e;subst e;injection hi with hi;subst hi
    unfold bZ
    have:(β.set gid (.gh o)) gid= .gh o:=by simp [c9.set]
    rw [this];exact .inl ⟨tm,by simp,⟨rfl,hT⟩,hlp,hl,fun j u v hu hv=>(hc j u v hu hv).iM (eb hm1 hu) _⟩
   cases hi
 ·have n1:i≠gid:=fun e=>by subst e;simp [c9.set] at hbi
  have n2:j≠gid:=fun e=>by subst e;simp [c9.set] at hbj
  rw [hoth i n1] at hbi;rw [hoth j n2] at hbj;have key:∀ i,i≠gid→(bp (hp++[(gid,⟨T,fr,false⟩)]) i).isSome→(bp hp i).isSome:=fun i hi his=>by
   rw [eh] at his;cases hq:bp hp i with
   |some bk=>rfl
   |none=>rw [hq] at his;simp [bp,Ne.symm hi] at his
  exact hH.inj i j b t t' (key i n1 hi) (key j n2 hj) hbi hbj
 by_cases he:i=gid
 ·subst he;simp [c9.set] at hi
 rw [hoth i he] at hi;exact hH.kL i hi
def mL:List Tmp→List AV→List AV→List AV
 |p::ps,v::vs,fr=>mL ps vs (fr.set p v)
 |_,_,fr=>fr
theorem xD {G:bI} {β:c9}:∀ (ps:List Tmp) (vs:List AV) (ys:List Value) (fr:List AV) (tm:Array Value),vs.length=ys.length→(∀ (j:Nat) x y,vs[j]?=some x→ys[j]?=some y→Conc G β x y)→
 tm.size=fr.length→(∀ (j:Nat) x y,fr[j]?=some x→tm[j]?=some y→Conc G β x y)→
 ((ps.zip ys).foldl (fun t (p:Tmp×Value)=>t.setIfInBounds p.1 p.2) tm).size=(mL ps vs fr).length∧∀ (j:Nat) x y,(mL ps vs fr)[j]?=some x→((ps.zip ys).foldl (fun t (p:Tmp×Value)=>t.setIfInBounds p.1 p.2) tm)[j]?=some y→Conc G β x y
 |[],vs,ys,fr,tm,_,_,h1,h2=>by
  cases vs<;>exact ⟨by simpa [mL] using h1,by simpa [mL] using h2⟩
 |p::ps,[],[],fr,tm,_,_,h1,h2=>⟨by simpa [mL] using h1,by simpa [mL] using h2⟩
 |p::ps,v::vs,y::ys,fr,tm,hl,hv,h1,h2=>by
  simp only [List.zip_cons_cons,List.foldl_cons,mL];refine xD ps vs ys (fr.set p v) (tm.setIfInBounds p y) (by simpa using hl) (fun j a b ha hb=>hv (j+1) a b (by simpa using ha) (by simpa using hb)) (by simp [h1]) fun j a b ha hb=>?_;rw [qi2] at ha;rw [Array.getElem?_setIfInBounds] at hb;by_cases hj:p=j
  ·subst hj
   rw [if_pos rfl] at ha hb;split at ha
   ·split at hb
    ·injection ha with ha;injection hb with hb;subst ha;subst hb
     exact hv 0 v y rfl rfl
    cases hb
   cases ha
  rw [if_neg hj] at ha;rw [if_neg hj] at hb;exact h2 j a b ha hb
def dj (P:Program) (all:Array Oper) (rest:List Oper) (s:St) (K:St→Prop):Prop:=∀ ro R β G a w,fw R β G s a w→wpListIn (jy ro) 0 P all (QN R K) rest a w
variable {s:St} {Q:Exit→St→Prop}
theorem fU {id:Nat} {l:List Oper} (h:dj P l.toArray l s (Q .normal)):AW P (.region id l.toArray false) s Q:=
 fun ro _ R β G a w hr=>wpIn_mono (wpIn_region_lit (h ro R β G a w hr)) FN
variable {all:Array Oper} {K:St→Prop}
theorem cH (h:K s):dj P all [] s K:=fun _ _ β G _ _ hr=>⟨β,G,s,h,hr⟩
variable {rest:List Oper}
theorem bD {o:Oper} (hg:o.guard=none) (hnd:iL [o]=true) (h:∀ K':St→Prop,(∀ s',dj P all rest s' K→K' s')→ff P o s K'):dj P all (o::rest) s K:=by
 intro ro R β G a w hr;have hw:Region.wanted o (yielded all a.tmps)=true:=by simp [Region.wanted,hg]
 simp only [wpListIn,hw,if_true];have hnd':∀ c,o.op≠.defer c:=sn hnd 0 o aC;exact Jt hnd' (fun a' w' ⟨β',G',s',hs,hr'⟩=>hs ro R β' G' a' w' hr') (h _ (fun _ h=>h) R β G a w _ hr)
def SM:Bool:=true
variable {a:Act} {gid l D:Nat} {y:cF} {fro:List AV} {outs:List Value}
theorem Ch (h:fw R β G s a w) {T1 T2:Nat}
 (hb:bp s.hp gid=some ⟨T1,fro,false⟩) (hTT:1000000000 < T1) (hβ:β gid= .gh (some (l,y))) (hout:R.out gid=some outs) (hlp:R.lp gid=some (l,D,y)) (hT:1000000001≤T2) (o':Obj) (f:FuncId) (ho:o'= .loop (y.loop f (T2 - 1000000001) outs D)):
 ∃ G2,fw R β G2 ⟨s.fr,cP s.hp gid ⟨T2,fro,false⟩⟩ a (w.putObj l o'):=by
 subst ho;have h0:=h.hp.blk gid _ hb;unfold bZ at h0;rw [hβ] at h0;rcases h0 with ⟨outs',k0,k1,⟨q0,qm,D',f',q1,q2,q3,q4,q5,q6⟩,k3,k4⟩|⟨_,_,_,_,⟨_,h9,_⟩,_⟩
 rotate_left
 ·simp only at h9;omega
 rw [hout] at k0;injection k0 with k0;subst k0
 rw [hlp] at q1;injection q1 with q1;injection q1 with _ q1;injection q1 with q1 _;subst q1
 have hlw:l < w.heap.size:=jb (h.hp.gs l _ q5);let G2:bI:=fun b=>if b=l then some (.loop (y.loop f (T2 - 1000000001) outs D)) else G b
 have g2l:G2 l=some (.loop (y.loop f (T2 - 1000000001) outs D)):=by simp [G2]
 have g2n:∀ b,b≠l→G2 b=G b:=fun b hb=>by simp [G2,hb]
 have hoth:∀ b,b≠l→(w.putObj l (.loop (y.loop f (T2 - 1000000001) outs D))).heap[b]?=w.heap[b]?:=fun b hb=>World.putObj_heap_other hb;have hcell:∀ x z,ep G x=some z→ep G2 x=some z:=fun x z hx=>by
  by_cases he:x.block=l
  ·unfold ep at hx;rw [he,q5] at hx;cases hx
  unfold ep at hx ⊢;rw [g2n _ he];exact hx
 have hc:∀ {x z},Conc G β x z→Conc G2 β x z:=fun hc=>hc.yQ (fun _ _=>rfl) hcell;refine ⟨G2,?_,h.size,fun i x z hx hz=>hc (h.fr i x z hx hz),⟨fun b o hb=>?_,fun i bk hi=>?_,fun i j b t t' hi hj hbi hbj=>?_,?_,fun b hb=>?_,h.hp.kL,h.hp.iC.cP (by rw [hb];rfl)⟩⟩
 ·obtain ⟨Ds,d1,d2,d3⟩:=h.defers
  refine ⟨Ds,d1,d2,fun X hX=>⟨(d3 X hX).1,?_⟩⟩;have hG:=(d3 X hX).2;rw [g2n X (fun e=>by rw [e,q5] at hG;cases hG)];exact hG
 ·by_cases he:b=l
  ·subst he;rw [g2l] at hb;injection hb with hb;subst hb;exact World.putObj_heap_same hlw
  rw [g2n b he] at hb;rw [hoth b he];exact h.hp.gs b o hb
 ·rw [cO] at hi
  split at hi
  ·rename_i e;subst e;injection hi with hi;subst hi
   unfold bZ;rw [hβ];have hDl:D≠l:=fun e=>by rw [e,q5] at q6;cases q6
   have eT:T2 - 1000000000 - 1=T2 - 1000000001:=by omega
   have b1:1000000000≤T2:=by omega
   have b2:1≤T2 - 1000000000:=Nat.le_sub_of_add_le (qd3 (Nat.le_of_eq aB) hT);refine .inl ⟨outs,hout,⟨rfl,b1⟩,?_,k3,fun j x z hx hz=>hc (k4 j x z hx hz)⟩;simp only [Eh];rw [eT];exact ⟨b2,qm,D,f,hlp,q2,q3,q4,g2l,by rw [g2n D hDl];exact q6⟩
  rename_i hne;have:=h.hp.blk i bk hi;unfold bZ at this ⊢;cases hβi:β i with
  |no=>rw [hβi] at this;exact this
  |nil=>rw [hβi] at this;exact this
  |gh o=>
   rw [hβi] at this;rcases this with ⟨outs2,z0,z1,z2,z3,z4⟩|⟨b,es,clock,e0,e1,e2,e3,e4,e5⟩
   ·refine .inl ⟨outs2,z0,z1,?_,z3,fun j x z hx hz=>hc (z4 j x z hx hz)⟩
    cases o with
    |none=>exact z2
    |some p=>
     obtain ⟨v0,vm,D2,f2,v1,v2,v3,v4,v5,v6⟩:=z2;have hpl:p.1≠l:=fun e=>hne (R.lp.inj gid i l D D2 y p.2 hlp (by rw [v1,e]));have hDl:D2≠l:=fun e=>by rw [e,q5] at v6;cases v6
     exact ⟨v0,vm,D2,f2,v1,v2,v3,v4,by rw [g2n _ hpl];exact v5,by rw [g2n _ hDl];exact v6⟩
   have hbl:b≠l:=fun e=>by rw [e,q5] at e3;cases e3
   exact .inr ⟨b,es,clock,e0,e1,e2,by rw [g2n b hbl];exact e3,e4,fun j x z hx hz=>hc (e5 j x z hx hz)⟩
  |«at» b t=>
   rw [hβi] at this;obtain ⟨g1,g2,arr,g3,g4,g5,g6,g7⟩:=this;have hbl:b≠l:=fun e=>by rw [e,q5] at g1;cases g1
   exact ⟨by rw [g2n b hbl];exact g1,g2,arr,by rw [hoth b hbl];exact g3,g4,g5,g6,fun j x z hx hz=>hc (g7 j x z hx hz)⟩
 ·have key:∀ i,(bp (cP s.hp gid ⟨T2,fro,false⟩) i).isSome→(bp s.hp i).isSome:=fun i hi=>by
   rw [cO] at hi;split at hi
   ·rename_i e;subst e;rw [hb];rfl
   exact hi
  exact h.hp.inj i j b t t' (key i hi) (key j hj) hbi hbj
 ·have hk:=h.hp.keeps
  refine ⟨hk.os,hk.tape,hk.output,by have:=hk.size;simpa [World.putObj] using this,fun k h1 h2=>?_⟩;rw [hoth k (fun e=>by subst e;exact h2 q4)];exact hk.block k h1 h2
 by_cases he:b=l
 ·subst he;exact h.hp.kH b (by rw [q5];simp)
 rw [g2n b he] at hb;exact h.hp.kH b hb
variable {T:Nat} {fl:Bool}
theorem su (h:dx R β G hp w) (hbig:1000000000≤gid) (hb:bp hp gid=some ⟨T,fro,fl⟩) (hT:1000000000 < T)
 (hout:R.out gid=some outs) (hlp:R.lp gid=some (l,D,y)):∃ f,β gid= .gh (some (l,y))∧w.heap[l]?=some (.loop (y.loop f (T - 1000000001) outs D))∧fro.length=outs.length∧(∀ (j:Nat) x z,fro[j]?=some x→outs[j]?=some z→Conc G β x z)∧w.heap[D]?=some (.deferred (some []))∧G D=some (.deferred (some []))∧G l=some (.loop (y.loop f (T - 1000000001) outs D)):=by
 have h0:=h.blk gid _ hb;unfold bZ at h0;cases hβ:β gid with
 |no=>rw [hβ] at h0;exact h0.elim
 |nil=>exact absurd (h.kL gid (.inl hβ)) ak
 |«at» b t=>exact absurd (h.kL gid (.inr ⟨b,t,hβ⟩)) ak
 |gh o=>
  rw [hβ] at h0;rcases h0 with ⟨outs',k0,k1,kl,k3,k4⟩|⟨_,_,_,_,⟨_,h9,_⟩,_⟩
  rotate_left
  ·simp only at h9;omega
  cases o with
  |none=>have:T - 1000000000=0:=kl;omega
  |some p=>
   obtain ⟨q0,qm,D',f,q1,q2,q3,q4,q5,q6⟩:=kl;rw [hout] at k0;injection k0 with k0;subst k0;rw [hlp] at q1;injection q1 with q1;injection q1 with e1 q1;injection q1 with e2 e3;subst e1 e2 e3;have e:T - 1000000000 - 1=T - 1000000001:=by omega
   simp only at q5;rw [e] at q5;exact ⟨f,rfl,h.gs _ _ q5,k3,k4,h.gs _ _ q6,q6,q5⟩
theorem zk (h:fw R β G s a w) (hbig:1000000000≤gid) (hb:bp s.hp gid=some ⟨T,fro,fl⟩) (hT:1000000000 < T)
 (hout:R.out gid=some outs) (hlp:R.lp gid=some (l,D,y)):∃ f,β gid= .gh (some (l,y))∧w.heap[l]?=some (.loop (y.loop f (T - 1000000001) outs D))∧fro.length=outs.length∧(∀ (j:Nat) x z,fro[j]?=some x→outs[j]?=some z→Conc G β x z)∧w.heap[D]?=some (.deferred (some []))∧G D=some (.deferred (some []))∧G l=some (.loop (y.loop f (T - 1000000001) outs D)):=su h.hp hbig hb hT hout hlp
def kp:Exit→Option Nat
 | .normal=>some 1000000001
 | .ret=>some 1000000003
 | .exit id=>some (1000000004+id)
 |_=>none
def P1 (P:Program) (all:Array Oper) (rest:List Oper) (gid g2:Nat) (d:Option Tmp) (K:St→Prop) (e:Exit) (s':St):Prop:=
 ∃ s2 fro' fr' T,Le s' s2∧bp s2.hp gid=some ⟨1000000002,fro',false⟩∧bp s2.hp g2=some ⟨1000000000,fr',false⟩∧SM=true∧kp e=some T∧
  dj P all rest ⟨(St.put ⟨fr',[]⟩ d (.bool (match e with| .normal=>true|_=>false))).fr,fg (cP s2.hp gid ⟨T,fro',false⟩) g2⟩ K
variable {fo:Operand} {args:Array Operand} {d:Option Tmp}
theorem yS {fx:Array TypeId} {ty:TypeId} {pos:String} {bF:Array Edge} {g:Option (Nat×Bool)} {r:Loop} (hv:a.eval fo= .func (.yield l) #[] #[]) (hl:w.heap[l]?=some (.loop r)) (hs:args.size=r.params.size):
 (execOp a.eval ⟨d,.call {callee:=.value fo,args,argTypes:=fx},ty,pos,bF,g⟩).run P w= .ok (.round l r.fn ((r.params.zip (args.map a.eval)).foldl (fun tmps (t,a)=>tmps.setIfInBounds t a) r.tmps) r.assign r.body) w:=by
 have h:=run_yield (P:=P) (args:=args.map a.eval) hl (by simpa using hs);simp [execOp,resolve,hv,Deferred.ofValue,invoke,h]
theorem vO {fx:Array TypeId} {ty:TypeId} {pos:String} {bF:Array Edge} (g2:Nat)
 (hf:(⟨fr,hp⟩:St).eval fo= .yl gid y) (hb:bp hp gid=some ⟨1000000001,fro,false⟩) (hps:args.size=y.ps.size) (ha:oz y.assign=true) (hbd:oz y.body=true)
 (hgid:1000000000≤gid) (hg2:1000000000≤g2) (hg2b:g2 < 2000000000) (hne:gid≠g2) (hm1:AV.bz g2 fr=false) (hm2:cz g2 hp=false) (hm3:AV.bz g2 (cv ⟨fr,hp⟩ args)=false) (hone:SM=true)
 (h:AW P y.assign ⟨mL y.ps.toList (cv ⟨fr,hp⟩ args) fro,hp++[(g2,fJ fr)]⟩ (vG (fun s1=>∃ s2 fro',Le s1 s2∧bp s2.hp gid=some ⟨1000000001,fro',false⟩∧SM=true∧
  AW P y.body ⟨s2.fr,cP s2.hp gid ⟨1000000002,fro',false⟩⟩ (P1 P all rest gid g2 d K)) (fun _ _=>False))):
 dj P all (⟨d,.call {callee:=.value fo,args,argTypes:=fx},ty,pos,bF,none⟩::rest) ⟨fr,hp⟩ K:=by
 intro ro R β G a w hr;simp only [wpListIn,show Region.wanted (⟨d,.call {callee:=.value fo,args,argTypes:=fx},ty,pos,bF,none⟩:Oper) (yielded all a.tmps)=true from rfl,if_true];refine ⟨fun _ _=>trivial,?_⟩;rw [show (jy ro).round=ro from rfl,Oper.semAt_eq ro _ _ (fun c hc=>by cases hc)];have e1:=hr.eval fo;rw [hf] at e1;generalize hv:a.eval fo=v at e1;cases e1 with
 |yl hβ=>
 rename_i l;have h0:=hr.hp.blk gid _ hb;unfold bZ at h0;rw [hβ] at h0;rcases h0 with ⟨outs,k0,k1,⟨q0,qm,D,f,q1,q2,q3,q4,q5,q6⟩,k3,k4⟩|⟨_,_,_,_,⟨_,h9,_⟩,_⟩
 rotate_left
 ·simp only at h9;omega
 have hv:a.eval fo= .func (.yield l) #[] #[]:=by rw [hv];unfold Jr;rw [if_neg (by simp [qm])]
 simp only at q5 k3 k4;have hl:=hr.hp.gs l _ q5;rw [yS hv hl (by exact hps)];refine ⟨fun h=>by simp [jy,Fence.wide] at h,roundIn_of_wpIn trivial ?_⟩;have hag:=iR hr args;have hin:∀ id bk,bp hp id=some bk→bp hp id=some bk:=fun _ _ h=>h;have hlm:=rf hr.hp hin;have hpg:=tF hlm g2 1000000000 none hg2 hg2b (qb3 _) (fr:=fr) (tm:=a.tmps.toList) (by rw [qi5];exact hr.size.symm) (fun j x z hx hz=>hr.fr j x z hx (by simpa using hz)) hm1 hm2 (fun _ _=>rfl) (qm0 _);have hcb:∀ x z,Conc G β x z→AV.cq g2 x=false→Conc G (β.set g2 (.gh none)) x z:=fun x z hc hm=>hc.iM hm _;have hlpl:iw R gid=some (l,D,y):=by simp [iw,q1,q2,q3,q4]
 have hrep:fw ⟨w,iW β (bl hp),G,fun i=>if i=g2 then some a.tmps.toList else R.out i,iw R⟩ (β.set g2 (.gh none)) G ⟨mL y.ps.toList (cv ⟨fr,hp⟩ args) fro,hp++[(g2,⟨1000000000,fr,false⟩)]⟩
  {tmps:=(y.ps.zip (args.map a.eval)).foldl (fun tmps (t,a)=>tmps.setIfInBounds t a) outs.toArray,defers:=[]} w:=by
  have hz:(y.ps.zip (args.map a.eval)).foldl (fun tmps (t,a)=>tmps.setIfInBounds t a) outs.toArray=(y.ps.toList.zip (args.map a.eval).toList).foldl (fun t (p:Tmp×Value)=>t.setIfInBounds p.1 p.2) outs.toArray:=by rw [← Array.foldl_toList,Array.toList_zip]
  rw [hz];obtain ⟨s1,s2⟩:=xD (G:=G) (β:=β.set g2 (.gh none)) y.ps.toList (cv ⟨fr,hp⟩ args) (args.map a.eval).toList fro outs.toArray hag.1 (fun j x z hx hz=>hcb x z (hag.2 j x z hx hz) (eb hm3 hx)) (by simpa using k3.symm)
   (fun j x z hx hz=>hcb x z (k4 j x z hx (by simpa using hz)) (by
    cases hm:AV.cq g2 x with
    |false=>rfl
    |true=>rw [gw hb (jg hx hm)] at hm2;cases hm2))
  exact ⟨uO,s1,s2,hpg⟩
 refine wpIn_mono (h (some l) (.inr ha) _ _ G _ w hrep) fun e a1 w1 hx=>?_;obtain ⟨β1,G1,s1,hs1,hr1⟩:=hx;cases e with
 |normal=>
  obtain ⟨s2,fro',hle,hg,hok,hbody⟩:=hs1;obtain ⟨β2,G2,hr2⟩:=hle _ _ _ _ _ hr1;have hout:(fun i=>if i=g2 then some a.tmps.toList else R.out i) gid=some outs:=by simp only [hne,if_false];exact k0
  obtain ⟨f1,r1,r2,_,_,_,_,_⟩:=zk hr2 hgid hg aB hout hlpl;obtain ⟨G3,hr3⟩:=Ch hr2 hg aB r1 hout hlpl (T2:=1000000002) aB _ f1 rfl;refine ⟨_,run_beginRound r2 rfl,?_⟩;refine wpIn_mono (hbody (some l) (.inr hbd) _ _ G3 _ _ hr3) fun e a2 w2 hx=>?_;obtain ⟨β4,G4,s4,⟨s5,fro5,fr5,T,hle5,hg5,hg25,hok5,hT,hk⟩,hr4⟩:=hx;obtain ⟨β5,G5,hr5⟩:=hle5 _ _ _ _ _ hr4;obtain ⟨f5,t1,t2,_,_,_,_,_⟩:=zk hr5 hgid hg5 aB hout hlpl;have key:∀ (jump:Option Code) (b:Bool) (o':Obj),1000000001≤T→o'= .loop (y.loop f5 (T - 1000000001) outs D)→dj P all rest ⟨(St.put ⟨fr5,[]⟩ d (.bool b)).fr,fg (cP s5.hp gid ⟨T,fro5,false⟩) g2⟩ K→
   wpListIn (jy ro) 0 P all (QN R K) rest (a.put d (.bool b)) (w2.putObj l o'):=fun jump b o' hT1 ho hk=>by
   obtain ⟨G6,hr6⟩:=Ch hr5 hg5 aB t1 hout hlpl (T2:=T) hT1 o' f5 ho;have hg26:bp (cP s5.hp gid ⟨T,fro5,false⟩) g2=some ⟨1000000000,fr5,false⟩:=by rw [cO,if_neg hne];exact hg25
   have hb6:=hr6.hp.blk g2 _ hg26;have iE:iE (cP s5.hp gid ⟨T,fro5,false⟩) (fg (cP s5.hp gid ⟨T,fro5,false⟩) g2):=fun i bk hi=>by
    rw [jj] at hi;split at hi
    ·cases hi
    exact hi
   obtain ⟨G7,d7,m7,h7⟩:=pz (R:=R) (G:=G) (w:=w) hr.defers hr.hp.gs hr.hp.keeps hr.hp.kH (fun b ⟨id,hid,hh⟩=>by
    obtain ⟨bk,hbk⟩:=dq.1 hid;rcases hh with ⟨t,ht⟩|⟨y',hy'⟩
    ·exact (hr.hp.block hbk ht).2.1
    ·have hq:=hr.hp.blk id bk hbk
     unfold bZ at hq;rw [hy'] at hq;exact ((ko hq).2.2 b y' rfl).1) (fun b ⟨id,hid,hh⟩=>by
    obtain ⟨bk,hbk⟩:=dq.1 hid;rcases hh with ⟨t,ht⟩|⟨y',hy'⟩
    ·exact .inl (hr.hp.block hbk ht).1
    ·have hq:=hr.hp.blk id bk hbk
     unfold bZ at hq;rw [hy'] at hq;exact .inr ((ko hq).2.2 b y' rfl).2.1) (hr6.hp.sub iE) (fun id bk o hid hβo hgb=>by
    have hn2:id≠g2:=fun e=>by
     subst e;rw [jj,if_pos rfl] at hid;cases hid
    have:=wJ (R:=⟨R.w0,R.ex,R.g0,fun i=>if i=g2 then some a.tmps.toList else R.out i,R.lp⟩) (w:=w) (ex:=iW β (bl hp)) (g:=G) hgb hr.hp.keeps.size (fun b ⟨id,hid,hh⟩=>by
     obtain ⟨bk,hbk⟩:=dq.1 hid;rcases hh with ⟨t,ht⟩|⟨y',hy'⟩
     ·exact (hr.hp.block hbk ht).2.1
     have hq:=hr.hp.blk id bk hbk;unfold bZ at hq;rw [hy'] at hq;exact ((ko hq).2.2 b y' rfl).1)
    rcases this with ⟨outs',z0,z1,z2,z3⟩|hm
    ·refine .inl ⟨outs',by simpa only [hn2,if_false] using z0,z1,?_,z3⟩
     cases o with
     |none=>exact z2
     |some p=>exact z2
    exact .inr hm)
   unfold bZ at hb6;have hfr:fr5.length=a.tmps.toList.length∧∀ (j:Nat) x z,fr5[j]?=some x→a.tmps.toList[j]?=some z→Conc G6 β5 x z:=by
    cases hβ5:β5 g2 with
    |no=>rw [hβ5] at hb6;exact hb6.elim
    |nil=>exact absurd (hr6.hp.kL g2 (.inl hβ5)) ak
    |«at» b t=>exact absurd (hr6.hp.kL g2 (.inr ⟨b,t,hβ5⟩)) ak
    |gh o=>
     rw [hβ5] at hb6;rcases hb6 with ⟨outs',z0,_,_,z3,z4⟩|⟨_,_,_,_,⟨_,_,h9⟩,_⟩
     rotate_left
     ·omega
     simp only [if_true] at z0;injection z0 with z0
     subst z0;exact ⟨z3,z4⟩
   have hrep7:fw R β5 G7 ⟨fr5,fg (cP s5.hp gid ⟨T,fro5,false⟩) g2⟩ a (w2.putObj l o'):=
    ⟨d7,by rw [hfr.1];simp,fun i x z hx hz=>(hfr.2 i x z hx (by simpa using hz)).mono m7,h7⟩
   have:=hrep7.put d (x:=.bool b) (y:=.bool b) .v;have e:(St.put ⟨fr5,fg (cP s5.hp gid ⟨T,fro5,false⟩) g2⟩ d (.bool b))=⟨(St.put ⟨fr5,[]⟩ d (.bool b)).fr,fg (cP s5.hp gid ⟨T,fro5,false⟩) g2⟩:=by cases d<;>rfl
   rw [e] at this;exact hk ro R _ _ _ _ this
  cases e with
  |normal=>
   injection hT with hT;subst hT
   exact ⟨_,_,run_endRound none t2,key none true _ aB rfl hk⟩
  |ret=>
   injection hT with hT;subst hT
   exact ⟨_,_,run_endRound (some .ret) t2,key (some .ret) false _ aB rfl hk⟩
  |exit id=>
   injection hT with hT;subst hT
   refine ⟨_,_,run_endRound (some (.exit id)) t2,key (some (.exit id)) false _ ak ?_ hk⟩;have e:1000000004+id - 1000000001=id+3:=by omega
   rw [e];rfl
  |goto t=>cases hT
  |panic c=>cases hT
  |outgrown=>cases hT
 |_=>exact hs1.elim
variable {z:Loop}
theorem sv (hl:G l=some (.loop z)) {a:Addr} {y:Value} (h:ep G a=some y):ep (G.del l) a=some y:=by
 unfold ep at *;by_cases hb:a.block=l
 ·rw [hb,hl] at h;cases h
 simp only [bI.del,hb,if_false];exact h
theorem dx.P2 (h:dx R β G hp w) (hn:R.w0.heap.size≤l) (hl:G l=some (.loop z)) (o':Obj):dx R β (G.del l) hp (w.putObj l o'):=by
 have hoth:∀ b,b≠l→(w.putObj l o').heap[b]?=w.heap[b]?:=fun b hb=>World.putObj_heap_other hb;have hc:∀ {x y},Conc G β x y→Conc (G.del l) β x y:=fun hc=>hc.yQ (fun _ _=>rfl) fun _ _ h=>sv hl h;refine ⟨fun b x hb=>?_,fun id bk hi=>?_,h.inj,?_,fun b hb=>?_,h.kL,h.iC⟩
 ·simp only [bI.del] at hb
  split at hb
  ·cases hb
  rename_i hne;rw [hoth b hne];exact h.gs b x hb
 ·have:=h.blk id bk hi
  unfold bZ at this ⊢;cases hβ:β id with
  |no=>rw [hβ] at this;exact this
  |nil=>rw [hβ] at this;exact this
  |«at» b t=>
   rw [hβ] at this;obtain ⟨g1,g2,arr,g3,g4,g5,g6,g7⟩:=this;have hne:b≠l:=fun e=>by subst e;rw [hl] at g1;cases g1
   exact ⟨by simp only [bI.del,hne,if_false];exact g1,g2,arr,by rw [hoth b hne];exact g3,g4,g5,g6,fun j x y hx hy=>hc (g7 j x y hx hy)⟩
  |gh o=>
   rw [hβ] at this;rcases this with ⟨outs,g0,gf,g1,g2,g3⟩|⟨b,es,clock,e0,e1,e2,e3,e4,e5⟩
   ·refine .inl ⟨outs,g0,gf,?_,g2,fun j x y hx hy=>hc (g3 j x y hx hy)⟩
    cases o with
    |none=>exact g1
    |some p=>
     obtain ⟨h0,hm,D',f',h1,h2,h3,h6,h4,h5⟩:=g1;exact ⟨h0,hm,D',f',h1,h2,h3,h6,by simp only [bI.del];rw [if_neg ak];exact h4,by simp only [bI.del];rw [if_neg ak];exact h5⟩
   exact .inr ⟨b,es,clock,e0,e1,e2,by simp only [bI.del];rw [if_neg (fun e=>by subst e;rw [hl] at e3;cases e3)];exact e3,e4,fun j x y hx hy=>hc (e5 j x y hx hy)⟩
 ·have hk:=h.keeps
  refine ⟨hk.os,hk.tape,hk.output,by have:=hk.size;simpa [World.putObj] using this,fun k h1 h2=>?_⟩;rw [hoth k ak];exact hk.block k h1 h2
 simp only [bI.del] at hb;split at hb
 ·exact absurd rfl hb
 exact h.kH b hb
def nb.one (gid l D:Nat) (y:cF):nb:=⟨fun i=>if i=gid then some (l,D,y) else none,fun i j _ _ _ _ _ h h'=>by
 split at h
 ·split at h'
  ·rename_i a b;exact a.trans b.symm
  exact absurd h' aC
 exact absurd h aC⟩
noncomputable def nb.add (R:Rg) (gid l D:Nat) (y:cF) (hl:R.w0.heap.size≤l):nb:=⟨fun i=>if i=gid then some (l,D,y) else iw R i,fun i j l' D1 D2 y1 y2 h h'=>by
 have key:∀ i D y,iw R i=some (l',D,y)→l' < R.w0.heap.size:=fun i D y h=>by
  simp only [iw,Option.filter_eq_some_iff,qa1,decide_eq_true_eq] at h;exact h.2.1.1
 split at h<;>split at h'
 ·rename_i a b;exact a.trans b.symm
 ·injection h with h;injection h with h _;have:=key _ _ _ h';omega
 ·injection h' with h';injection h' with h' _;have:=key _ _ _ h;omega
 exact (iw R).inj i j l' D1 D2 y1 y2 h h'⟩
theorem zl {e:Exit} (h:kp e=some T):1000000000 < T:=by
 cases e<;>simp only [kp] at h<;>first|(injection h with h;omega)|cases h
variable {f:Operand} {ps:Array Tmp} {assign body:Code} {g:FuncId} {caps:List AV} {news:List Nat} {Qh:AV→Hp→Prop}
theorem Hz [hc:cI P g] (gid:Nat)
 (hf:(⟨fr,hp⟩:St).eval f= .fn g caps) (hgid:1000000000≤gid) (hm1:AV.bz gid fr=false) (hm2:cz gid hp=false) (hm3:AV.bz gid caps=false) (hno:xA [] hp=true) (hfree:∀ id∈news,St.free ⟨fr,hp⟩ id=true)
 (h:cX P g (.yl gid ⟨ps,assign,body,false⟩::caps) (hp++[(gid,⟨1000000001,fr,false⟩)]) news [] Qh)
 (hQ:∀ x hp',Qh x hp'→∃ e T fr',kp e=some T∧bp hp' gid=some ⟨T,fr',false⟩∧xA [gid] hp'=true∧Q e ⟨fr',fg hp' gid⟩) (hgidb:gid < 2000000000:=by decide):AW P (.rangeFunc f ps assign body) ⟨fr,hp⟩ Q:=by
 intro ro ho R β0 G a w hr0;have hro:ro=none:=ho.elim (fun h=>h) (fun h=>by simp [oz] at h);subst hro;obtain ⟨β,hr,hnn⟩:=hr0.drop news hfree;refine wpIn_rangeFunc ?_;intro fn _;have e1:=hr.eval f;rw [hf] at e1;obtain ⟨xs,hfv,hxl,hxs⟩:=ki e1 hc.lt;obtain ⟨y,hy⟩:∃ y:cF,y=⟨ps,assign,body,false⟩:=⟨_,rfl⟩
 obtain ⟨D,hD⟩:∃ D,D=w.heap.size:=⟨_,rfl⟩
 obtain ⟨W1,hW1⟩:∃ W1,W1=(w.alloc (.deferred (some []))).alloc (.loop {state:=.ready,pending:=none,fn,tmps:=a.tmps,params:=ps,assign,body,defers:=w.heap.size}):=⟨_,rfl⟩
 have hrec:(Obj.loop {state:=.ready,pending:=none,fn,tmps:=a.tmps,params:=ps,assign,body,defers:=w.heap.size})= .loop (y.loop fn 0 a.tmps.toList D):=by subst hy hD;rfl
 have hsz1:W1.heap.size=D+2:=by subst hW1 hD;simp [World.size_alloc]
 have hold:∀ b,b < D→W1.heap[b]?=w.heap[b]?:=fun b hb=>by
  subst hW1 hD;rw [Below.heap_alloc _ _ _ (by rw [World.size_alloc];omega),Below.heap_alloc _ _ _ hb]
 have hDh:W1.heap[D]?=some (.deferred (some [])):=by subst hW1 hD;rw [Below.heap_alloc _ _ _ (by rw [World.size_alloc];omega)];exact World.alloc_heap_new w _
 have hlh:W1.heap[D+1]?=some (.loop (y.loop fn 0 a.tmps.toList D)):=by rw [← hrec];subst hW1 hD;have:=World.alloc_heap_new (w.alloc (.deferred (some []))) (.loop {state:=.ready,pending:=none,fn,tmps:=a.tmps,params:=ps,assign,body,defers:=w.heap.size});rwa [World.size_alloc] at this
 let G1:bI:=fun b=>if b=D then some (.deferred (some [])) else if b=D+1 then some (.loop (y.loop fn 0 a.tmps.toList D)) else G b
 have g1D:G1 D=some (.deferred (some [])):=by simp [G1]
 have g1l:G1 (D+1)=some (.loop (y.loop fn 0 a.tmps.toList D)):=by simp [G1]
 have hGlt:∀ b o,G b=some o→b < D:=fun b o hg=>by rw [hD];exact jb (hr.hp.gs b o hg)
 have g1o:∀ b,b < D→G1 b=G b:=fun b hb=>by simp only [G1];rw [if_neg ak,if_neg ak]
 have gm:∀ b o,G b=some o→G1 b=some o:=fun b o hg=>by rw [g1o b (hGlt b o hg)];exact hg
 have hgs1:∀ b o,G1 b=some o→W1.heap[b]?=some o:=fun b o hb=>by
  simp only [G1] at hb;split at hb
  ·rename_i e;subst e;rw [hDh];exact hb
  split at hb
  ·rename_i e;subst e;rw [hlh];exact hb
  rw [hold b (hGlt b o hb)];exact hr.hp.gs b o hb
 obtain ⟨β1,hβ1⟩:∃ β1,β1=β.set gid (.gh (some (D+1,y))):=⟨_,rfl⟩
 have hgk:bp hp gid=none:=by
  cases hq:bp hp gid with
  |none=>rfl
  |some bk=>rw [eG hq] at hm2;cases hm2
 have hb1o:∀ i,i≠gid→β1 i=β i:=fun i hi=>by rw [hβ1];simp [c9.set,hi]
 have hb1g:β1 gid= .gh (some (D+1,y)):=by rw [hβ1];simp [c9.set]
 have hkeys:∀ i,i∈bl (hp++[(gid,(⟨1000000001,fr,false⟩:iB))])↔i∈bl hp∨i=gid:=fun i=>by
  rw [dq,dq];simp only [eh,bp];constructor
  ·rintro ⟨bk,hbk⟩
   cases hq:bp hp i with
   |some b=>exact .inl ⟨b,rfl⟩
   |none=>
    rw [hq] at hbk;simp only [qi1] at hbk;split at hbk
    ·rename_i e;exact .inr e.symm
    cases hbk
  rintro (⟨bk,hbk⟩|rfl)
  ·exact ⟨bk,by rw [hbk];rfl⟩
  exact ⟨_,by rw [hgk];simp;rfl⟩
 obtain ⟨ex',hex⟩:∃ ex',ex'=iW β1 (bl (hp++[(gid,(⟨1000000001,fr,false⟩:iB))])):=⟨_,rfl⟩
 have hnoR:∀ id bk o,bp hp id=some bk→β id= .gh o→∀ l y,o=some (l,y)→y.mp=true:=fun id bk o hid hβ l y he=>by
  have h0:=hr.hp.blk id bk hid;unfold bZ at h0;rw [hβ] at h0;cases hm:y.mp with
  |true=>rfl
  |false=>
   have:=uR hno hid ((ko h0).1.2 ⟨l,y,he,hm⟩);cases this
 have hexA:∀ id b t,bp hp id≠none→β id= .at b t→ex' b:=fun id b t hid hβ=>by
  rw [hex];have hne:id≠gid:=fun e=>by subst e;exact hid hgk
  obtain ⟨bk,hbk⟩:=Option.ne_none_iff_exists'.1 hid;exact ⟨id,(hkeys id).2 (.inl (dq.2 ⟨bk,hbk⟩)),.inl ⟨t,by rw [hb1o id hne];exact hβ⟩⟩
 have hexL:ex' (D+1):=by rw [hex];exact ⟨gid,(hkeys gid).2 (.inr rfl),.inr ⟨y,hb1g⟩⟩
 have hexC:∀ b,ex' b→b=D+1∨((G b=none∨∃ z,G b=some z∧soft z=true)∧(R.w0.heap.size≤b∨R.ex b)∧b < D):=fun b hb=>by
  rw [hex] at hb;obtain ⟨id,hid,hh⟩:=hb;rcases (hkeys id).1 hid with hk|rfl
  ·obtain ⟨bk,hbk⟩:=dq.1 hk
   have hne:id≠gid:=fun e=>by subst e;rw [hgk] at hbk;cases hbk
   rw [hb1o id hne] at hh;rcases hh with ⟨t,ht⟩|⟨y',hy'⟩
   ·obtain ⟨p1,p2,arr,p3,_⟩:=hr.hp.block hbk ht
    exact .inr ⟨.inl p1,p2,by rw [hD];exact jb p3⟩
   have h0:=hr.hp.blk id bk hbk;unfold bZ at h0;rw [hy'] at h0;obtain ⟨g1,⟨z,g2,g3⟩,_⟩:=(ko h0).2.2 b y' rfl;exact .inr ⟨.inr ⟨z,g2,g3⟩,g1,hGlt b z g2⟩
  rw [hb1g] at hh;rcases hh with ⟨t,ht⟩|⟨y',hy'⟩
  ·cases ht
  injection hy' with hy';injection hy' with hy';injection hy' with hy' _;exact .inl hy'.symm
 have hA:dx ⟨W1,ex',G1,R.out,nb.no⟩ β G1 hp W1:=by
  refine ⟨hgs1,fun id bk hi=>?_,hr.hp.inj,⟨rfl,rfl,rfl,qb3 _,fun _ _ _=>rfl⟩,fun b hb=>.inl hb,hr.hp.kL,hr.hp.iC⟩;have:=hr.hp.blk id bk hi;unfold bZ at this ⊢;cases hβ:β id with
  |no=>rw [hβ] at this;exact this
  |nil=>rw [hβ] at this;exact this
  |gh o=>
   rw [hβ] at this;have ho:=hnoR id bk o hi hβ;rcases this with ⟨outs,z0,z1,z2,z3,z4⟩|⟨b,es,clock,e0,e1,e2,e3,e4,e5⟩
   ·have hn:o=none:=by
     cases o with
     |none=>rfl
     |some p=>have:=ho p.1 p.2 rfl;rw [z2.2.1] at this;cases this
    subst hn;exact .inl ⟨outs,z0,z1,z2,z3,fun j x z hx hz=>(z4 j x z hx hz).mono gm⟩
   refine .inr ⟨b,es,clock,e0,e1,.inr ?_,gm _ _ e3,e4,fun j x z hx hz=>(e5 j x z hx hz).mono gm⟩;have hne:id≠gid:=fun e=>by subst e;rw [hgk] at hi;cases hi
   show ex' b;rw [hex];exact ⟨id,(hkeys id).2 (.inl (dq.2 ⟨bk,hi⟩)),.inr ⟨wv,by rw [hb1o id hne,hβ,e0]⟩⟩
  |«at» b t=>
   rw [hβ] at this;obtain ⟨p1,p2,arr,p3,p4,p5,p6,p7⟩:=this;have hlt:b < D:=by rw [hD];exact jb p3
   exact ⟨by rw [g1o b hlt];exact p1,.inr (hexA id b t (by rw [hi];simp) hβ),arr,by rw [hold b hlt];exact p3,p4,p5,p6,fun j x z hx hz=>(p7 j x z hx hz).mono gm⟩
 have hpg:=tF (lp':=nb.one gid (D+1) D y) hA gid 1000000001 (some (D+1,y)) hgid hgidb aB (fr:=fr) (tm:=a.tmps.toList) (by rw [qi5];exact hr.size.symm)
  (fun j x z hx hz=>(hr.fr j x z hx (by simpa using hz)).mono gm) hm1 hm2 (fun i hi=>by simp [hi,nb.one,nb.no]) ⟨by decide,by rw [hy],D,fn,by simp [nb.one],by show D < W1.heap.size;omega,by show D+1 < W1.heap.size;omega,hexL,g1l,g1D⟩
 rw [← hβ1] at hpg;have hcall:=h (fun id hid=>iD (hfree id hid)) β1 G1 W1 (.func (.yield (D+1)) #[] #[]::xs) _ _ (by rw [hex] at hpg;exact hpg) (fun id hid=>by
  have h1:=iD (hfree id hid);rw [hb1o id ak];exact hnn id hid) ⟨by simp [hxl],fun j x z hx hz=>by
  cases j with
  |zero=>simp at hx hz;subst hx;subst hz;subst hy;exact .yl hb1g
  |succ j=>
   simp at hx hz;have:=(hxs j x z hx hz).mono gm;rw [hβ1];exact this.iM (eb hm3 hx) _⟩
 refine ⟨D+1,[{target:=.collected D,args:=#[]}],W1,{target:=.fn (.func g) xs.toArray,args:=#[.func (.yield (D+1)) #[] #[]]},W1,g,(.func (.yield (D+1)) #[] #[]::xs).toArray,W1,?_,?_,fun _ _=>trivial,?_,fun h=>by simp [jy,Fence.wide] at h,Ap (hcall.mono ?_)⟩
 ·subst hW1 hD;exact run_enterLoop_outer _ _ _ _ _
 ·simp only [resolve,hfv]
  simp [go_sem]
 ·simp [invoke,hc.ok]
 rintro e w3 ⟨y',G',β',x,hp',rfl,hqh,_,_,hgr,_,hrh⟩;obtain ⟨e,T,fr',hj,hgg,hok,hq⟩:=hQ x hp' hqh;rw [← hex] at hrh;obtain ⟨fr7,r1,r2,r3,r4,r5,r6,r7⟩:=su hrh hgid hgg (zl hj) (if_pos rfl) (if_pos rfl);have iE:iE hp' (fg hp' gid):=fun i bk hi=>by
  rw [jj] at hi;split at hi
  ·cases hi
  exact hi
 have hR0:R.w0.heap.size≤D:=by rw [hD];exact hr.hp.keeps.size
 obtain ⟨Ds,d1,d2,d3⟩:=hr.defers;have hdef:tv R.w0.heap.size G1 ({target:=.collected D,args:=#[]}::a.defers):=by
  refine ⟨D::Ds,by rw [d1];rfl,List.nodup_cons.2 ⟨fun hm=>?_,d2⟩,fun X hX=>?_⟩
  ·have:=hGlt D _ (d3 D hm).2;omega
  rcases qc2.1 hX with rfl|hX
  ·exact ⟨hR0,g1D⟩
  exact ⟨(d3 X hX).1,gm _ _ (d3 X hX).2⟩
 obtain ⟨G3,d7,m7,h7⟩:=pz (R:=R) (G:=G1) (w:=W1) (ds:={target:=.collected D,args:=#[]}::a.defers) hdef hgs1
  ⟨by rw [hW1];exact hr.hp.keeps.os,by rw [hW1];exact hr.hp.keeps.tape,by rw [hW1];exact hr.hp.keeps.output,by rw [hsz1];omega,fun k h1 h2=>by rw [hold k ak];exact hr.hp.keeps.block k h1 h2⟩
  (fun b hb=>by
   by_cases hlt:b < D
   ·rw [g1o b hlt] at hb;exact hr.hp.kH b hb
   exact .inr (.inl ak))
  (fun b hb=>by
   rcases hexC b hb with rfl|⟨_,h2,_⟩
   ·exact .inl ak
   exact h2)
  (fun b hb=>by
   rcases hexC b hb with rfl|⟨h1,_,h3⟩
   ·exact .inr ⟨_,g1l,rfl⟩
   ·rw [g1o b h3];exact h1) (hrh.sub iE) (fun id bk o hid hβo hgb=>by
   have hn2:id≠gid:=fun e=>by
    subst e;rw [jj,if_pos rfl] at hid;cases hid
   have hT:¬1000000000 < bk.T:=fun hT=>by
    have:=uR hok (iE _ _ hid) hT;simp at this;exact hn2 this
   rcases hgb with ⟨outs',z0,z1,z2,z3⟩|⟨b,es,clock,e0,e1,e2,e3⟩
   ·have ho:o=none:=by
     cases o with
     |none=>rfl
     |some p=>exact absurd (Nat.sub_pos_iff_lt.1 z2.1) hT
    subst ho;exact .inl ⟨outs',by simpa only [hn2,if_false] using z0,z1,z2,z3⟩
   refine .inr ⟨b,es,clock,e0,e1,?_,e3⟩;rcases e2 with e2|e2
   ·simp only at e2;left;omega
   rcases hexC b e2 with rfl|⟨_,h2,_⟩
   ·left;omega
   exact h2)
 have hlG:=m7 _ _ r7;obtain ⟨o',ho'⟩:∃ o':Obj,o'= .loop {y.loop fr7 (T - 1000000001) a.tmps.toList D with state:=.exhausted}:=⟨_,rfl⟩
 have hun:=h7.P2 (l:=D+1) ak hlG o';have hrep:fw R β' (G3.del (D+1)) ⟨fr',fg hp' gid⟩ {a with defers:=[{target:=.collected D,args:=#[]}]++a.defers} (w3.putObj (D+1) o'):=by refine ⟨?_,by rw [r3];simp,fun i x z hx hz=>((r4 i x z hx (by simpa using hz)).mono m7).yQ (fun _ _=>rfl) fun _ _ h=>sv hlG h,hun⟩;obtain ⟨Es,e1,e2,e3⟩:=d7;refine ⟨Es,e1,e2,fun X hX=>⟨(e3 X hX).1,?_⟩⟩;have hX3:=(e3 X hX).2;simp only [bI.del];rw [if_neg (fun e=>by rw [e,hlG] at hX3;cases hX3)];exact hX3
 have hnb:(y.loop fr7 (T - 1000000001) a.tmps.toList D).state≠.busy:=by
  cases e with
  |normal=>injection hj with hj;subst hj;simp [cF.loop,QE]
  |ret=>injection hj with hj;subst hj;simp [cF.loop,QE]
  |exit id=>
   injection hj with hj;subst hj
   have e:1000000004+id - 1000000001=id+3:=by omega
   rw [e];simp [cF.loop,QE]
  |goto t=>cases hj
  |panic c=>cases hj
  |outgrown=>cases hj
 have hend:=run_endLoop (P:=P) r2 hnb;rw [← ho'] at hend;refine ⟨_,_,hend,?_⟩;have hT:∀ k,T=1000000001+k→(y.loop fr7 (T - 1000000001) a.tmps.toList D).pending=Ux k:=fun k hk=>by
  rw [hk,Nat.add_sub_cancel_left];rfl
 generalize (y.loop fr7 (T - 1000000001) a.tmps.toList D).pending=pp at hT ⊢;cases e with
 |normal=>
  simp only [kp,qd9] at hj;rw [hT 0 ak];exact ⟨_,_,_,hq,hrep⟩
 |ret=>
  simp only [kp,qd9] at hj;rw [hT 2 ak];exact wpIn_ret ⟨_,_,_,hq,hrep⟩
 |exit id=>
  simp only [kp,qd9] at hj;rw [hT (id+3) ak];exact wpIn_exit ⟨_,_,_,hq,hrep⟩
 |goto t=>cases hj
 |panic c=>cases hj
 |outgrown=>cases hj
theorem Ep [hc:cI P g] (gid:Nat)
 (hf:(⟨fr,hp⟩:St).eval f= .fn g caps) (hgid:1000000000≤gid) (hm1:AV.bz gid fr=false) (hm2:cz gid hp=false) (hm3:AV.bz gid caps=false) (hno:xA [] hp=true) (hfree:∀ id∈news,St.free ⟨fr,hp⟩ id=true)
 (h:∀ y:cF,y.ps=ps→y.assign=assign→y.body=body→cX P g (.yl gid y::caps) (hp++[(gid,⟨1000000001,fr,false⟩)]) news [] Qh)
 (hQ:∀ x hp',Qh x hp'→∃ e T fr',kp e=some T∧bp hp' gid=some ⟨T,fr',false⟩∧xA [gid] hp'=true∧Q e ⟨fr',fg hp' gid⟩) (hgidb:gid < 2000000000:=by decide):AW P (.rangeFunc f ps assign body) ⟨fr,hp⟩ Q:=
 Hz gid hf hgid hm1 hm2 hm3 hno hfree (h _ rfl rfl rfl) hQ hgidb
theorem b8 {fx:Array TypeId} {ty:TypeId} {pos:String} {bF:Array Edge} (g2:Nat) {A B:Code}
 (hyp:y.ps=ps) (hya:y.assign=A) (hyb:y.body=B)
 (hf:(⟨fr,hp⟩:St).eval fo= .yl gid y) (hb:bp hp gid=some ⟨1000000001,fro,false⟩) (hps:args.size=ps.size) (ha:oz A=true) (hbd:oz B=true)
 (hgid:1000000000≤gid) (hg2:1000000000≤g2) (hne:gid≠g2) (hm1:AV.bz g2 fr=false) (hm2:cz g2 hp=false) (hm3:AV.bz g2 (cv ⟨fr,hp⟩ args)=false) (hone:SM=true)
 (h:AW P A ⟨mL ps.toList (cv ⟨fr,hp⟩ args) fro,hp++[(g2,fJ fr)]⟩ (vG (fun s1=>∃ s2 fro',Le s1 s2∧bp s2.hp gid=some ⟨1000000001,fro',false⟩∧SM=true∧
  AW P B ⟨s2.fr,cP s2.hp gid ⟨1000000002,fro',false⟩⟩ (P1 P all rest gid g2 d K)) (fun _ _=>False))) (hg2b:g2 < 2000000000:=by decide):
 dj P all (⟨d,.call {callee:=.value fo,args,argTypes:=fx},ty,pos,bF,none⟩::rest) ⟨fr,hp⟩ K:=by
 subst hyp hya hyb;exact vO g2 hf hb hps ha hbd hgid hg2 hg2b hne hm1 hm2 hm3 hone h
@[go_sem] theorem R8 (vs:List AV) (fr:List AV):mL [] vs fr=fr:=by cases vs<;>rfl
@[go_sem] theorem QJ (p:Tmp) (ps:List Tmp) (v:AV) (vs fr:List AV):mL (p::ps) (v::vs) fr=mL ps vs (fr.set p v):=rfl
end Go.Ab
set_option maxRecDepth 10000
namespace Go.Ab
open Go.RowKit
variable {P:Program}
abbrev AV.mp (id:Nat):AV:=.yl id wv
def UA (kv:List (Int×Int)):List AV:=kv.flatMap fun p=>[.int p.1,.int p.2]
variable {t:TypeId} {s:St}
theorem lu {d:Tmp} {ty:TypeId} {pos:String} {bF:Array Edge} {g:Option (Nat×Bool)} {K:St→Prop} (id:Nat) (hid:2000000000≤id) (hm1:AV.bz id s.fr=false) (hm2:cz id s.hp=false)
 (hk:K ⟨s.fr.set d (.mp id),cP s.hp id ⟨1000000000,[],false⟩⟩):ff P ⟨some d,.makeMap t none,ty,pos,bF,g⟩ s K:=by
 intro R β G a w Q hr;have hgk:bp s.hp id=none:=by
  cases hq:bp s.hp id with
  |none=>rfl
  |some bk=>rw [eG hq] at hm2;cases hm2
 let β2:=β.set id (.gh (some (w.heap.size,wv)));have hself:β2 id= .gh (some (w.heap.size,wv)):=by simp [β2,c9.set]
 have hoth:∀ i,i≠id→β2 i=β i:=fun i hi=>by simp [β2,c9.set,hi]
 have hGlt:∀ b o,G b=some o→b < w.heap.size:=fun b o hb=>db (hr.hp.gs b o hb);let G2:bI:=fun b=>if b=w.heap.size then some (.map #[] 0) else G b
 have g2s:G2 w.heap.size=some (.map #[] 0):=by simp [G2]
 have gm:∀ b o,G b=some o→G2 b=some o:=fun b o hb=>by
  simp only [G2];rw [if_neg (by have:=hGlt b o hb;omega)];exact hb
 have hc:∀ {x y},Conc G β x y→AV.cq id x=false→Conc G2 β2 x y:=fun hc hm=>(hc.mono gm).iM hm _;have hcb:∀ {i bk},bp s.hp i=some bk→∀ u∈bk.cs,AV.cq id u=false:=fun {i bk} hi u hu=>by
  obtain ⟨j,hj⟩:=qf2 hu;cases hm:AV.cq id u with
  |false=>rfl
  |true=>rw [gw hi (jg hj hm)] at hm2;cases hm2
 have hrep:fw R β2 G2 ⟨s.fr,cP s.hp id ⟨1000000000,[],false⟩⟩ a (w.alloc (.map #[] 0)):=by
  refine ⟨hr.defers.mono gm,hr.size,fun i x y hx hy=>hc (hr.fr i x y hx hy) (eb hm1 hx),⟨fun b o hb=>?_,fun i bk hi=>?_,fun i j b t t' hi hj hbi hbj=>?_,hr.hp.keeps.alloc _,fun b hb=>?_,fun i hi=>?_,fun i j b y y' h1 h2 hi hj hbi hbj=>?_⟩⟩
  rotate_right
  ·have hlt:∀ k,k≠id→2000000000≤k→(bp (cP s.hp id ⟨1000000000,[],false⟩) k).isSome→∀ c z,β2 k= .gh (some (c,z))→(bp s.hp k).isSome∧β k= .gh (some (c,z))∧c < w.heap.size:=fun k hne hk hs c z hc=>by
    rw [cO,if_neg (Ne.symm hne)] at hs;rw [hoth k hne] at hc;obtain ⟨bk,hbk⟩:=qb0.1 hs;have h0:=hr.hp.blk k bk hbk;unfold bZ at h0;rw [hc] at h0;obtain ⟨_,⟨o,ho,_⟩,_⟩:=(ko h0).2.2 c z rfl;exact ⟨hs,hc,hGlt c o ho⟩
   by_cases ei:i=id
   ·by_cases ej:j=id
    ·rw [ei,ej]
    obtain ⟨_,_,c3⟩:=hlt j ej h2 hj b y' hbj;rw [ei,hself] at hbi;injection hbi with hbi;injection hbi with hbi;injection hbi with hbi _;omega
   obtain ⟨a1,a2,a3⟩:=hlt i ei h1 hi b y hbi;by_cases ej:j=id
   ·rw [ej,hself] at hbj
    injection hbj with hbj
    injection hbj with hbj
    injection hbj with hbj _
    omega
   obtain ⟨c1,c2,_⟩:=hlt j ej h2 hj b y' hbj;exact hr.hp.iC i j b y y' h1 h2 a1 c1 a2 c2
  ·simp only [G2] at hb
   split at hb
   ·rename_i e;subst e;injection hb with hb;subst hb;exact heap_alloc_new w _
   rw [gN w _ (hGlt b o hb)];exact hr.hp.gs b o hb
  ·rw [cO] at hi
   unfold bZ;by_cases hid':id=i
   ·subst hid'
    simp only [if_true,qd9] at hi;subst hi;rw [hself];exact .inr ⟨w.heap.size,#[],0,rfl,⟨rfl,rfl,hid⟩,.inl hr.hp.keeps.size,g2s,rfl,fun j x y hx _=>by simp at hx⟩
   simp only [hid',if_false] at hi;rw [hoth i (Ne.symm hid')];have:=hr.hp.blk i bk hi;unfold bZ at this;cases hβ:β i with
   |no=>rw [hβ] at this;exact this
   |nil=>rw [hβ] at this;exact this
   |«at» b t=>
    rw [hβ] at this;obtain ⟨g1,g2,arr',g3,g4,g5,g6,g7⟩:=this;have hlt:=db g3;exact ⟨by simp only [G2];rw [if_neg ak];exact g1,g2,arr',by rw [gN w _ hlt];exact g3,g4,g5,g6,fun j x y hx hy=>hc (g7 j x y hx hy) (hcb hi x (qg0 hx))⟩
   |gh o=>
    rw [hβ] at this;exact gA this gm fun x hx y hcv=>hc hcv (hcb hi x hx)
  ·have n1:i≠id:=fun e=>by subst e;rw [hself] at hbi;cases hbi
   have n2:j≠id:=fun e=>by subst e;rw [hself] at hbj;cases hbj
   rw [cO,if_neg (Ne.symm n1)] at hi;rw [cO,if_neg (Ne.symm n2)] at hj;rw [hoth i n1] at hbi;rw [hoth j n2] at hbj;exact hr.hp.inj i j b t t' hi hj hbi hbj
  ·by_cases e:b=w.heap.size
   ·subst e;exact .inr (.inl hr.hp.keeps.size)
   simp only [G2,e,if_false] at hb;exact hr.hp.kH b hb
  by_cases e:i=id
  ·subst e;rw [hself] at hi;rcases hi with hi|⟨_,_,hi⟩<;>cases hi
  rw [hoth i e] at hi;exact hr.hp.kL i hi
 have hrun:(execOp a.eval ⟨some d,.makeMap t none,ty,pos,bF,g⟩).run P w= .ok (.value (.map (some w.heap.size))) (w.alloc (.map #[] 0)):=by simp [execOp,run_makeMap]
 unfold Oper.wp;rw [hrun,Oper.upon_value];have hv:Conc G2 β2 (.mp id) (.map (some w.heap.size)):=.yl (y:=wv) hself;exact ⟨_,_,_,hk,hrep.put (some d) hv⟩
variable {β:c9} {G:bI}
theorem fw.Jy {R:Rg} {a:Act} {w:World} (h:fw R β G s a w) {id b:Nat} {cs0:List AV} {es:Array MapEntry} {clock:Nat} (hb:bp s.hp id=some ⟨1000000000,cs0,false⟩)
 (hβ:β id= .gh (some (b,wv))) (hid:2000000000≤id) (hex:R.w0.heap.size≤b∨R.ex b) (hG:G b=some (.map es clock)) (es2:Array MapEntry) (clock2:Nat) (cs2:List AV) (hl2:cs2.length=(B3 es2).length)
 (hc2:∀ (j:Nat) x y,cs2[j]?=some x→(B3 es2)[j]?=some y→Conc G β x y):
 ∃ G2,fw R β G2 ⟨s.fr,cP s.hp id ⟨1000000000,cs2,false⟩⟩ a (w.putObj b (.map es2 clock2)):=by
 have hlw:b < w.heap.size:=jb (h.hp.gs b _ hG);let G2:bI:=fun c=>if c=b then some (.map es2 clock2) else G c
 have g2b:G2 b=some (.map es2 clock2):=by simp [G2]
 have g2n:∀ c,c≠b→G2 c=G c:=fun c hc=>by simp [G2,hc]
 have hoth:∀ c,c≠b→(w.putObj b (.map es2 clock2)).heap[c]?=w.heap[c]?:=fun c hc=>World.putObj_heap_other hc;have hcell:∀ x z,ep G x=some z→ep G2 x=some z:=fun x z hx=>by
  by_cases he:x.block=b
  ·unfold ep at hx;rw [he,hG] at hx;cases hx
  unfold ep at hx ⊢;rw [g2n _ he];exact hx
 have hc:∀ {x z},Conc G β x z→Conc G2 β x z:=fun hc=>hc.yQ (fun _ _=>rfl) hcell;refine ⟨G2,?_,h.size,fun i x z hx hz=>hc (h.fr i x z hx hz),⟨fun c o hc'=>?_,fun i bk hi=>?_,fun i j c t t' hi hj hbi hbj=>?_,?_,fun c hc'=>?_,h.hp.kL,h.hp.iC.cP (by rw [hb];rfl)⟩⟩
 ·obtain ⟨Ds,d1,d2,d3⟩:=h.defers
  refine ⟨Ds,d1,d2,fun X hX=>⟨(d3 X hX).1,?_⟩⟩;have hG':=(d3 X hX).2;rw [g2n X (fun e=>by rw [e,hG] at hG';cases hG')];exact hG'
 ·by_cases he:c=b
  ·subst he;rw [g2b] at hc';injection hc' with hc';subst hc';exact World.putObj_heap_same hlw
  rw [g2n c he] at hc';rw [hoth c he];exact h.hp.gs c o hc'
 ·rw [cO] at hi
  split at hi
  ·rename_i e;subst e;injection hi with hi;subst hi
   unfold bZ;rw [hβ];exact .inr ⟨b,es2,clock2,rfl,⟨rfl,rfl,hid⟩,hex,g2b,hl2,fun j x y hx hy=>hc (hc2 j x y hx hy)⟩
  rename_i hne;have:=h.hp.blk i bk hi;unfold bZ at this ⊢;cases hβi:β i with
  |no=>rw [hβi] at this;exact this
  |nil=>rw [hβi] at this;exact this
  |gh o=>
   rw [hβi] at this;rcases this with ⟨outs,z0,z1,z2,z3,z4⟩|⟨c,es',clock',e0,e1,e2,e3,e4,e5⟩
   ·refine .inl ⟨outs,z0,z1,?_,z3,fun j x z hx hz=>hc (z4 j x z hx hz)⟩
    cases o with
    |none=>exact z2
    |some p=>
     obtain ⟨k0,km,D,f,k1,k2,k3,k4,k5,k6⟩:=z2;have n1:p.1≠b:=fun e=>by rw [e,hG] at k5;cases k5
     have n2:D≠b:=fun e=>by rw [e,hG] at k6;cases k6
     exact ⟨k0,km,D,f,k1,k2,k3,k4,by rw [g2n _ n1];exact k5,by rw [g2n _ n2];exact k6⟩
   subst e0;have hcb:c≠b:=fun e=>by
    subst e;exact hne (h.hp.iC id i c wv wv hid e1.2.2 (by rw [hb];rfl) (by rw [hi];rfl) hβ hβi)
   exact .inr ⟨c,es',clock',rfl,e1,e2,by rw [g2n c hcb];exact e3,e4,fun j x z hx hz=>hc (e5 j x z hx hz)⟩
  |«at» c t=>
   rw [hβi] at this;obtain ⟨g1,g2,arr,g3,g4,g5,g6,g7⟩:=this;have hcb:c≠b:=fun e=>by rw [e,hG] at g1;cases g1
   exact ⟨by rw [g2n c hcb];exact g1,g2,arr,by rw [hoth c hcb];exact g3,g4,g5,g6,fun j x z hx hz=>hc (g7 j x z hx hz)⟩
 ·have key:∀ i,(bp (cP s.hp id ⟨1000000000,cs2,false⟩) i).isSome→(bp s.hp i).isSome:=fun i hi=>by
   rw [cO] at hi;split at hi
   ·rename_i e;subst e;rw [hb];rfl
   exact hi
  exact h.hp.inj i j c t t' (key i hi) (key j hj) hbi hbj
 ·have hk:=h.hp.keeps
  refine ⟨hk.os,hk.tape,hk.output,by have:=hk.size;simpa [World.putObj] using this,fun c h1 h2=>?_⟩;rw [hoth c (fun e=>by subst e;rcases hex with h3|h3;omega;exact h2 h3)];exact hk.block c h1 h2
 by_cases he:c=b
 ·subst he;exact h.hp.kH c (by rw [hG];simp)
 rw [g2n c he] at hc';exact h.hp.kH c hc'
variable {N:Nat}
theorem Ci {T:Nat} {x:AV} {y:Value} (h:Conc G β (.fn N [x]) y) (hN:N=1000000000+T):∃ v,y= .iface T v∧Conc G β x v:=by
 generalize hz:AV.fn N [x]=z at h;cases h with
 |fn xs hf hl hs=>
  injection hz with h1 h2
  subst h1;exact absurd hf (by rw [hN];exact Nat.not_le.2 (qi4 aB (Nat.le_add_right 1000000000 T)))
 |@sZ _ T' x' v h=>
  injection hz with h1 h2
  injection h2 with h2 _
  subst h2;have h3:T'=T:=Nat.add_left_cancel (h1.symm.trans hN);subst h3;exact ⟨v,rfl,h⟩
 |_=>cases hz
def Nf:TypeDesc→Bool
 | .interface _=>false
 |_=>true
variable {x:Operand} {d:TypeDesc}
theorem uS [hu:cT P t d] (hd:Nf d=true:=by rfl):PV P (.makeInterface t x) s (.fn (1000000000+t) [s.eval x]):=
 dW fun R β G a w h=>⟨_,.sZ (h.eval x),fun w' _ _ _ _ _=>by
  have hc:P.concrete t=true:=by unfold Program.concrete;rw [hu.ok];cases d<;>first|rfl|(cases hd;done)
  simp [execOp,run_makeInterface _ _ _ hc]⟩
theorem yT {xt:TypeId} {v:AV} [hu:cT P t d] (hx:s.eval x= .fn N [v]) (hN:N=1000000000+t) (hd:Nf d=true:=by rfl):PV P (.typeAssert x xt t false) s v:=
 dW fun R β G a w h=>by
  have e1:=h.eval x;rw [hx] at e1;obtain ⟨y,hy,hc⟩:=Ci e1 hN;refine ⟨y,hc,fun w' _ _ _ _ _=>?_⟩
  have:(Instr.typeAssert (.iface t y) xt t false).run P w'= .ok y w':=by simp only [Instr.typeAssert,Sem.run_bind,run_underlying hu.ok,qb1];cases d<;>first|(simp;done)|(cases hd;done)
  simp [execOp,hy,this]
end Go.Ab
