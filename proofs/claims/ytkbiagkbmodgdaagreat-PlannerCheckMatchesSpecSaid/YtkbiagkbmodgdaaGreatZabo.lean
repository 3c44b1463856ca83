/- Part of a proof. No condition. -/
import Derived.ChangeKeysEq
import Derived.Laws.BitsLemmas
import Derived.Laws.StructEq
import Derived.MapKept
import Derived.OrdersIn
import Derived.Test.YtkbiagkbmodgdaaGreatZabk
import Derived.WideKeyRuns
set_option linter.unusedSimpArgs false
set_option linter.unusedVariables false
set_option maxRecDepth 10000
namespace Go.Ab
open Go.RowKit
variable {P:Program}
@[go_sem] theorem Ni (i g:Nat) (y:cF):AV.cq i (.yl g y)=(g == i):=rfl
variable {P:Program} {rs:Array ResultVar} {pins:List Nat} {e:Exit} {s:St} {x:AV}
theorem xG {ids recs:List Nat} {Q:AV→Hp→Prop} (hrv:RV P rs s x) (he:e= .ret∨e= .normal) (hg:bp s.hp 1000000000=some (fJ (pins.map fun i=>AV.ptr i 0)))
 (hw:(AV.uF ids x&&rX ids (fg s.hp 1000000000))=true) (hrk:Cc (fg s.hp 1000000000) recs=true) (hQ:Q x (fg s.hp 1000000000)):iN P rs ids pins recs Q e s:=
 bK (Le.refl _) hrv (fun i bk hi=>by
  rw [jj] at hi;split at hi
  ·cases hi
  exact hi) hg hw hQ he hrk
def lA:Hp→Hp→Hp
 |[],h=>h
 |(i,b)::r,h=>lA r (cP h i b)
@[go_sem] theorem HK (h:Hp):lA [] h=h:=rfl
@[go_sem] theorem Ev (i:Nat) (b:iB) (r h:Hp):lA ((i,b)::r) h=lA r (cP h i b):=rfl
variable {c:Code} {fr:List AV} {hp:Hp}
theorem bP {ι:Type} {Q:Exit→St→Prop} (ws:List Nat) (C:ι→Prop) (μ:ι→Nat) (sl:ι→List (Nat×AV)) (ms:ι→Hp) (i0:ι) (h0:C i0)
 (hs:Le ⟨fr,hp⟩ ⟨ib (sl i0) (kN ws fr),lA (ms i0) hp⟩)
 (hr:∀ i,C i→∀ K:St→Prop,(∀ s',(∃ j,C j∧μ j < μ i∧Le s' ⟨ib (sl j) (kN ws fr),lA (ms j) hp⟩)→K s')→AW P c ⟨ib (sl i) (kN ws fr),lA (ms i) hp⟩ (vG K Q)):AW P (.loop c) ⟨fr,hp⟩ Q:=
 ba ws C μ sl (fun i=>lA (ms i) hp) i0 h0 hs hr
variable {f:FuncId} {args:List AV}
theorem xH {args':List AV} {news:List Nat} {Q:AV→Hp→Prop} (h:cX P f args hp news pins Q) (hl:xF args' args):cX P f args' hp news pins Q:=by
 unfold cX at h ⊢;exact fun hle β G w vals out lp hH hno hv=>h hle β G w vals out lp hH hno ⟨by rw [← (kr hl).1];exact hv.1,fun j x y hx hy=>by
  have hj:j < args'.length:=by have:=bX hx;rw [(kr hl).1];exact this
  exact (kr hl).2 j _ _ (qa7 hj) hx G β y (hv.2 j _ y (qa7 hj) hy)⟩
variable {ops:Array Oper} {hs:List Nat} {listed:Array Bool} {K:St→Prop} {d:Option Tmp} {op:Go.Op} {ty:TypeId} {pos:String} {bF:Array Edge} {j t i:Nat} {b:Bool}
theorem Nj {f:Nat} (hi:ops[i]?=some ⟨d,op,ty,pos,bF,some (j,b)⟩)
 (ht:(ops[j]?).bind (·.dst)=some t) (hc:s.fr[t]?=some (.bool b))
 (h:∀ K':St→Prop,(∀ s',dt P ops hs f (listed.setIfInBounds i true) s' K→K' s')→dJ P ⟨d,op,ty,pos,bF,none⟩ s K'):uM P ops hs f listed i s K:=by
 intro R β G a w hrep hcl hmem;have g1:=ix hrep ht hc;have h2:=h _ (fun _ h=>h);have h3:dJ P ⟨d,op,ty,pos,bF,some (j,b)⟩ s (fun s'=>dt P ops hs f (listed.setIfInBounds i true) s' K):=by unfold dJ at h2 ⊢;exact h2
 unfold dJ at h3;unfold wpOp;simp only [hi];rw [if_pos (by simp [Region.wanted,g1])];exact .inl (Oper.wp_mono (fun a' w' ⟨hx,β',G',s',hs',hr'⟩=>⟨fun _=>hx,(by unfold dt at hs';exact hs' R β' G' a' w' hr' (hcl.set hmem))⟩) (h3 R β G a w _ hrep))
theorem Nk {f:Nat} (hi:ops[i]?=some ⟨d,op,ty,pos,bF,some (j,b)⟩) (he:Go.Ab.early ops hs i=false)
 (ht:(ops[j]?).bind (·.dst)=some t) (hc:s.fr[t]?=some (.bool b))
 (h:∀ K':St→Prop,(∀ s',dt P ops hs f (listed.setIfInBounds i true) s' K→K' s')→ff P ⟨d,op,ty,pos,bF,none⟩ s K'):uM P ops hs f listed i s K:=by
 intro R β G a w hrep hcl hmem;have g1:=ix hrep ht hc;have h2:=h _ (fun _ h=>h);have h3:ff P ⟨d,op,ty,pos,bF,some (j,b)⟩ s (fun s'=>dt P ops hs f (listed.setIfInBounds i true) s' K):=by unfold ff at h2 ⊢;exact h2
 unfold ff at h3;unfold wpOp;simp only [hi];rw [if_pos (by simp [Region.wanted,g1])];exact .inl (Oper.wp_mono (fun a' w' ⟨β',G',s',hs',hr'⟩=>⟨fun h=>(by rw [he] at h;cases h),(by unfold dt at hs';exact hs' R β' G' a' w' hr' (hcl.set hmem))⟩) (h3 R β G a w _ hrep))
@[go_sem] theorem SO (cs:List AV):(fJ cs).cs=cs:=rfl
theorem iT {all:Array Oper} {rest:List Oper} {op:Op}
 (ht:(all[j]?).bind (·.dst)=some t) (hc:s.fr[t]?=some (.bool b)) (h:dj P all (⟨d,op,ty,pos,bF,none⟩::rest) s K):dj P all (⟨d,op,ty,pos,bF,some (j,b)⟩::rest) s K:=by
 intro ro R β G a w hr;have h1:=h ro R β G a w hr;have g1:=ix hr ht hc;have w1:Region.wanted (⟨d,op,ty,pos,bF,none⟩:Oper) (yielded all a.tmps)=true:=rfl;have w2:Region.wanted (⟨d,op,ty,pos,bF,some (j,b)⟩:Oper) (yielded all a.tmps)=true:=by simp [Region.wanted,g1]
 simp only [wpListIn,w1,if_true] at h1;simp only [wpListIn,w2,if_true];exact h1
@[go_sem] theorem SQ (id:Nat) (kv:List (Int×Int)):AV.bz id (UA kv)=false:=ef id _ kv fun _=>rfl
@[go_sem] theorem Sa (id:Nat) (kv:List (Int×Int)):AV.cG id (UA kv)=UA kv:=ir id _ kv fun _=>rfl
theorem zn:∀ (l:List AV) (i:Nat),oh l (l.set i .any)
 |[],_=>.nil
 |x::l,0=>.drop (mF _)
 |x::l,i+1=>.keep (zn l i)
theorem oC {c:Code} {Q:Exit→St→Prop} {hp:Hp}:∀ (ws:List Nat) {fr:List AV},AW P c ⟨kN ws fr,hp⟩ Q→AW P c ⟨fr,hp⟩ Q
 |[],_,h=>h
 |i::r,fr,h=>cE (ea (zn fr i) (fun _ _ h=>h)) (oC r h)
def QK (P:Program) (rs:Array ResultVar) (id:Nat) (pin:AV) (Q:AV→iB→Prop):Exit→St→Prop
 | .normal,s| .ret,s=>∃ s' x bk',Le s s'∧RV P rs s' x∧bp s'.hp id=some bk'∧bp s'.hp 1000000000=some (fJ [pin])∧xE id x∧AV.cu bk'.cs=true∧Q x bk'
 |_,_=>False
variable {sz bw id off n:Nat}
theorem JE {G G2:bI} {β β2:c9} {v:Value} (h:Conc G β (.sl sz bw id off n) v) (h2:Conc G2 β2 (.sl sz bw id off n) v):β2 id=β id:=by
 cases h with
 |lU h=>cases h2 with
  |lU h'=>rw [h,h']
 |sl h hn ht hm hb=>cases h2 with
  |sl h' hn' ht' hm' hb'=>rw [h,h',← ht,← ht']
variable {fn:Func} {m:Nat} {bk:iB} {Q:AV→iB→Prop}
theorem JF (hf:P.funcs[f]?=some fn) (hb:fn.body=some c) (hn:fn.ntmps=n) (hrs:fn.results=rs)
 (hid:id < 1000000000) (hg:(AV.bz 1000000000 (.sl sz bw id off m::args)|| cz 1000000000 [(id,bk)])=false)
 (h:AW P c ⟨(.sl sz bw id off m::args)++List.replicate (n - (AV.sl sz bw id off m::args).length) .any,[(id,bk),(1000000000,fJ [.sl sz bw id off m])]⟩ (QK P rs id (.sl sz bw id off m) Q)):dQ P f (.sl sz bw id off m::args) id bk Q:=by
 intro β G w vals out lp hH ⟨hl,hc⟩;subst hn;simp only [qg7] at hg;obtain ⟨hg1,hg2⟩:=hg
 match vals,hl,hc with
 |v::vs,hl,hc=>
 have hv:=hc 0 _ v rfl rfl;have hpm:AV.bz 1000000000 [AV.sl sz bw id off m]=false:=by simp only [AV.bz,qg7] at hg1 ⊢;exact ⟨hg1.1,trivial⟩
 have hH1:=tF (lp':=lp) hH 1000000000 1000000000 none (qb3 _) aB (qb3 _) (fr:=[AV.sl sz bw id off m]) (tm:=[v]) rfl (fun j x y hx hy=>by
  match j,hx,hy with
  |0,hx,hy=>simp at hx hy;subst hx;subst hy;exact hv
  |j+1,hx,hy=>simp at hx) hpm hg2 (fun _ _=>rfl) (qm0 _)
 have hne:id≠1000000000:=by omega
 have hβ1:(β.set 1000000000 (.gh none)) id=β id:=by simp [c9.set,hne]
 have hc1:∀ (j:Nat) x y,(AV.sl sz bw id off m::args)[j]?=some x→(v::vs)[j]?=some y→Conc G (β.set 1000000000 (.gh none)) x y:=fun j x y hx hy=>(hc j x y hx hy).iM (eb hg1 hx) _;refine iq (R:=⟨w,kq β id,G,fun i=>if i=1000000000 then some [v] else out i,lp⟩) (β:=β.set 1000000000 (.gh none)) (G:=G) hf hb hrs (jS hl hc1 hH1) h fun e s' hq=>?_;have key:(∃ s'' x bk',Le s' s''∧RV P rs s'' x∧bp s''.hp id=some bk'∧bp s''.hp 1000000000=some (fJ [AV.sl sz bw id off m])∧xE id x∧AV.cu bk'.cs=true∧Q x bk')→
  ∃ s'' x,Le s' s''∧RV P rs s'' x∧∀ β2 G2 y w2,Conc G2 β2 x y→dx ⟨w,kq β id,G,fun i=>if i=1000000000 then some [v] else out i,lp⟩ β2 G2 s''.hp w2→
  (fun (e:Ending) (w':World)=>∃ y G' x bk',e=Ending.returned y∧Q x bk'∧xE id x∧AV.cu bk'.cs=true∧Conc G' β x y∧dx ⟨w,kq β id,G,out,lp⟩ β G' [(id,bk')] w') (.returned y) w2:=by
  rintro ⟨s'',x,bk',hle,hrv,hbk,hgh,ho,hpu,hQ⟩;refine ⟨s'',x,hle,hrv,fun β2 G2 y w2 hcy hH2=>?_⟩;obtain ⟨o,ho',h7⟩:=P0 hH2 hgh;rcases h7 with ⟨outs,k0,_,_,_,k4⟩|⟨_,_,_,_,⟨_,_,h8⟩,_⟩
  rotate_left
  ·omega
  simp only [if_true] at k0;injection k0 with k0
  subst k0;have hpv:=k4 0 (AV.sl sz bw id off m) v (by simp [fJ]) aC;have e:=JE hv hpv;have hcell:∀ u∈bk'.cs,∀ z,Conc G2 β2 u z→Conc G2 β u z:=fun u hu z hz=>by
   obtain ⟨j,hj⟩:=qf2 hu;exact hz.oq (gB hpu hj) β
  refine ⟨y,G2,x,bk',rfl,hQ,ho,hpu,hcy.ext (fun j hj=>?_) (fun _ _ h=>h),hH2.gs,fun i b hi=>?_,fun i j b t t' hi hj _ _=>?_,⟨hH2.keeps.os,hH2.keeps.tape,hH2.keeps.output,hH2.keeps.size,hH2.keeps.block⟩,hH2.kH,hH.kL,jw.one⟩
  ·by_cases hji:j=id
   ·subst hji;exact e.symm
   rw [ho j hji] at hj;cases hj
  ·obtain ⟨rfl,rfl⟩:=fV hi
   have:=hH2.blk _ _ hbk;unfold bZ at this ⊢;rw [← e];cases hβ:β2 id with
   |no=>rw [hβ] at this;exact this
   |nil=>rw [hβ] at this;exact this
   |«at» b t=>
    rw [hβ] at this;obtain ⟨g1,g2,arr,g3,g4,g5,g6,g7⟩:=this;exact ⟨g1,g2,arr,g3,g4,g5,g6,fun j u z hu hz=>hcell u (qg0 hu) z (g7 j u z hu hz)⟩
   |gh o=>
    rw [hβ] at this;rcases gA this (fun _ _ h=>h) hcell with ⟨outs,k0,k1,k2,k3⟩|hm
    ·refine .inl ⟨outs,by simpa [hne] using k0,k1,?_,k3⟩
     cases o with
     |none=>exact k2
     |some p=>exact k2
    exact .inr hm
  obtain ⟨x,hx⟩:=qb0.1 hi;obtain ⟨y,hy⟩:=qb0.1 hj;exact (fV hx).1.symm.trans (fV hy).1
 cases e with
 |normal=>exact ⟨.inl rfl,key hq⟩
 |ret=>exact ⟨.inr rfl,key hq⟩
 |_=>exact hq.elim
theorem xI (hf:P.funcs[f]?=some fn) (hn:fn.ntmps=n)
 (h:AW P c ⟨fr,[(id,bk),(1000000000,⟨1000000000,[.sl sz bw id off m],false⟩)]⟩ (QK P rs id (.sl sz bw id off m) Q)) (hb:fn.body=some c:=by rfl) (hrs:fn.results=rs:=by rfl) (hid:id < 1000000000:=by decide)
 (hg:(AV.bz 1000000000 (.sl sz bw id off m::args)|| cz 1000000000 [(id,bk)])=false:=by first|rfl|(simp only [go_sem,Nat.reduceBEq,qf0,qc5,qc1];done))
 (he:(.sl sz bw id off m::args)++List.replicate (n - (AV.sl sz bw id off m::args).length) .any=fr:=by simp only [go_sem,Nat.reduceAdd,Nat.reduceSub,qg6,qh3];exact rfl):dQ P f (.sl sz bw id off m::args) id bk Q:=
 JF hf hb hn hrs hid hg (by rw [he];exact h)
theorem ri {pin:AV} {s':St} {bk':iB} (hle:Le s s') (hrv:RV P rs s' x) (hbk:bp s'.hp id=some bk') (hg:bp s'.hp 1000000000=some ⟨1000000000,[pin],false⟩)
 (ho:xE id x) (hpu:AV.cu bk'.cs=true) (hQ:Q x bk') (he:e= .ret∨e= .normal:=by first|exact .inl rfl|exact .inr rfl):QK P rs id pin Q e s:=by
 have:∃ s' x bk',Le s s'∧RV P rs s' x∧bp s'.hp id=some bk'∧bp s'.hp 1000000000=some (fJ [pin])∧xE id x∧AV.cu bk'.cs=true∧Q x bk':=⟨s',x,bk',hle,hrv,hbk,hg,ho,hpu,hQ⟩
 rcases he with rfl|rfl<;>exact this
theorem rj (n:Int) (h₀:0≤n) (h₁:n < 2 ^ 32):IntKind.u32.wrap n=n:=by rw [IntKind.wrap_u32];omega
theorem yW {a:Nat} {x:Int} (hx:0≤x) (hx2:x≤31) (ha:a < 2 ^ x.toNat):bits .or .u32 (a:Int) (1 * 2 ^ x.toNat)=((a+2 ^ x.toNat:Nat):Int):=by
 have h1:2 ^ x.toNat < 2 ^ 32:=Nat.pow_lt_pow_right aB ak;have e:(1 * 2 ^ x.toNat:Int)=((2 ^ x.toNat:Nat):Int):=by rw [Int.one_mul,Int.natCast_pow];rfl
 rw [e,(bits_nat .u32 32 aB rj _ _ ak h1).2];have:=Nat.two_pow_add_eq_or_of_lt ha 1;rw [Nat.mul_one] at this;rw [Nat.or_comm,← this,Nat.add_comm]
end Go.Ab
set_option maxRecDepth 10000
namespace Go.Ab
open Go.RowKit
variable {P:Program}
section
variable {κ:Type} [DecidableEq κ] {α:Type}
def jt:List (κ×α)→κ→Nat→Option (Nat×α)
 |[],_,_=>none
 |p::r,k,i=>if p.1=k then some (i,p.2) else jt r k (i+1)
def lk:List (κ×α)→κ→Option α
 |[],_=>none
 |p::r,k=>if p.1=k then some p.2 else lk r k
def kK:List (κ×α)→κ→α→List (κ×α)
 |[],k,v=>[(k,v)]
 |p::r,k,v=>if p.1=k then (p.1,v)::r else p::kK r k v
def wx:List (κ×α)→κ→List (κ×α)
 |[],_=>[]
 |p::r,k=>if p.1=k then r else p::wx r k
theorem tH:∀ (kv:List (κ×α)) (k:κ) (i:Nat),(jt kv k i).map (·.2)=lk kv k
 |[],_,_=>rfl
 |p::r,k,i=>by
  rw [jt,lk];split
  ·rfl
  exact tH r k (i+1)
theorem lf:∀ (kv:List (κ×α)) (k:κ) (v:α) (k':κ),lk (kK kv k v) k'=if k'=k then some v else lk kv k'
 |[],k,v,k'=>by
  simp only [kK,lk];by_cases h:k=k'
  ·rw [if_pos h,if_pos h.symm]
  rw [if_neg h,if_neg (Ne.symm h)]
 |p::r,k,v,k'=>by
  rw [kK];split
  ·rename_i h
   subst h;simp only [lk];by_cases h2:p.1=k'
   ·rw [if_pos h2,if_pos h2.symm]
   rw [if_neg h2,if_neg h2,if_neg (Ne.symm h2)]
  rename_i h;simp only [lk];rw [lf r k v k'];by_cases h2:p.1=k'
  ·rw [if_pos h2,if_pos h2,if_neg (fun e=>h (h2.trans e))]
  rw [if_neg h2,if_neg h2]
def uG (kA:κ→AV) (kv:List (κ×AV)):List AV:=kv.flatMap fun p=>[kA p.1,p.2]
inductive sw (G:bI) (β:c9):List (κ×AV)→List (κ×Value)→Prop
 |nil:sw G β [] []
 |cons {k:κ} {x:AV} {y:Value} {kv:List (κ×AV)} {vs:List (κ×Value)} (h:Conc G β x y) (r:sw G β kv vs):sw G β ((k,x)::kv) ((k,y)::vs)
variable {G:bI} {β:c9} {kv:List (κ×AV)} {vs:List (κ×Value)}
theorem sw.find (h:sw G β kv vs) (k:κ):∀ i,(jt kv k i=none∧jt vs k i=none)∨∃ j x y,jt kv k i=some (j,x)∧jt vs k i=some (j,y)∧Conc G β x y:=by
 induction h with
 |nil=>exact fun i=>.inl ⟨rfl,rfl⟩
 |@cons k' x y kv vs hc r ih=>
  intro i;by_cases hk:k'=k
  ·exact .inr ⟨i,x,y,by simp [jt,hk],by simp [jt,hk],hc⟩
  have:=ih (i+1);simpa [jt,hk] using this
theorem sw.put (h:sw G β kv vs) (k:κ) {x:AV} {y:Value} (hc:Conc G β x y):sw G β (kK kv k x) (kK vs k y):=by
 induction h with
 |nil=>exact .cons hc .nil
 |@cons k' x' y' kv vs hc' r ih=>
  simp only [kK];by_cases hk:k'=k
  ·rw [if_pos hk,if_pos hk];exact .cons hc r
  rw [if_neg hk,if_neg hk];exact .cons hc' ih
theorem sw.del (h:sw G β kv vs) (k:κ):sw G β (wx kv k) (wx vs k):=by
 induction h with
 |nil=>exact .nil
 |@cons k' x' y' kv vs hc' r ih=>
  simp only [wx];by_cases hk:k'=k
  ·rw [if_pos hk,if_pos hk];exact r
  rw [if_neg hk,if_neg hk];exact .cons hc' ih
end
class uT (P:Program) (kt:TypeId) (κ:Type) [DecidableEq κ] (kA:κ→AV) (kV:outParam (κ→Value)):Prop where
 Ca:∀ {G:bI} {β:c9} {k:κ} {y:Value},Conc G β (kA k) y→y=kV k
 self:∀ {G:bI} {β:c9} {k:κ},Conc G β (kA k) (kV k)
 check:∀ (e:Bool) (k:κ) (w:World),(Instr.checkKey e 10000 kt (kV k)).run P w= .ok () w
 find:∀ (k:κ) (es:List MapEntry) (kv:List (κ×Value)) (w:World),es.map (fun e=>(e.key,e.val))=kv.map (fun p=>(kV p.1,p.2))→(Instr.findKey kt (kV k) es).run P w= .ok (jt kv k 0) w
 stays:∀ (k:κ) (w:World),(Instr.keyThatStays (kV k) (kV k)).run P w= .ok (kV k) w
section
variable {κ:Type} {kA:κ→AV} {kV:κ→Value}
theorem JG {G:bI} {β:c9} (hk:∀ {k y},Conc G β (kA k) y→y=kV k):∀ (kv:List (κ×AV)) (es:List MapEntry),(uG kA kv).length=(es.flatMap fun e=>[e.key,e.val]).length→
 (∀ (j:Nat) x y,(uG kA kv)[j]?=some x→(es.flatMap fun e=>[e.key,e.val])[j]?=some y→Conc G β x y)→∃ vs:List (κ×Value),es.map (fun e=>(e.key,e.val))=vs.map (fun p=>(kV p.1,p.2))∧sw G β kv vs
 |[],[],_,_=>⟨[],rfl,.nil⟩
 |[],e::es,hl,_=>by simp [uG] at hl
 |p::kv,[],hl,_=>by simp [uG] at hl
 |(k,x)::kv,e::es,hl,hc=>by
  obtain ⟨vs,h1,h2⟩:=JG hk kv es (by simpa [uG] using hl) (fun j u v hu hv=>hc (j+2) u v (by simpa [uG] using hu) (by simpa using hv));have h3:=hk (hc 0 (kA k) e.key rfl rfl);have h4:=hc 1 x e.val rfl rfl;exact ⟨(k,e.val)::vs,by simp [h1,h3],.cons h4 h2⟩
theorem Co {G:bI} {β:c9} (hs:∀ {k},Conc G β (kA k) (kV k)) {kv:List (κ×AV)} {vs:List (κ×Value)} (h:sw G β kv vs):∀ (es:List MapEntry),es.map (fun e=>(e.key,e.val))=vs.map (fun p=>(kV p.1,p.2))→
 (uG kA kv).length=(es.flatMap fun e=>[e.key,e.val]).length∧∀ (j:Nat) x y,(uG kA kv)[j]?=some x→(es.flatMap fun e=>[e.key,e.val])[j]?=some y→Conc G β x y:=by
 induction h with
 |nil=>
  intro es he;cases es with
  |nil=>exact ⟨rfl,fun j x y hx=>by simp [uG] at hx⟩
  |cons e es=>simp at he
 |@cons k x y kv vs hc r ih=>
  intro es he;cases es with
  |nil=>simp at he
  |cons e es=>
   simp only [qd4,List.cons.injEq,qg8] at he;obtain ⟨i1,i2⟩:=ih es he.2;refine ⟨by simpa [uG] using i1,fun j u v hu hv=>?_⟩
   match j,hu,hv with
   |0,hu,hv=>simp [uG] at hu;simp at hv;subst hu;subst hv;rw [he.1.1];exact hs
   |1,hu,hv=>simp [uG] at hu;simp at hv;subst hu;subst hv;rw [he.1.2];exact hc
   |j+2,hu,hv=>exact i2 j u v (by simpa [uG] using hu) (by simpa using hv)
end
section
variable {κ:Type} [DecidableEq κ] {kA:κ→AV} {kV:κ→Value} {kt:TypeId}
variable {R:Rg} {β:c9} {G:bI} {s:St} {a:Act} {w:World} {m:Operand} {id:Nat} {kv:List (κ×AV)} {fl:Bool}
theorem mM (h:fw R β G s a w) [hk:uT P kt κ kA kV] (hm:s.eval m= .mp id) (hb:bp s.hp id=some ⟨1000000000,uG kA kv,fl⟩):
 ∃ b es clock vs,a.eval m= .map (some b)∧β id= .gh (some (b,wv))∧2000000000≤id∧fl=false∧(R.w0.heap.size≤b∨R.ex b)∧G b=some (.map es clock)∧w.heap[b]?=some (.map es clock)∧
  es.toList.map (fun e=>(e.key,e.val))=vs.map (fun p=>(kV p.1,p.2))∧sw G β kv vs:=by
 have e1:=h.eval m;rw [hm] at e1;generalize hy:a.eval m=y at e1;cases e1 with
 |@yl _ _ _ l hβ=>
  have h0:=h.hp.blk id _ hb;unfold bZ at h0;rw [hβ] at h0;rcases h0 with ⟨_,_,_,⟨_,k,_⟩,_⟩|⟨b,es,clock,e0,⟨e1,_,e7⟩,e2,e3,e4,e5⟩
  ·cases k
  injection e0 with e0
  injection e0 with e0 _
  subst e0;obtain ⟨vs,h1,h2⟩:=JG (kA:=kA) (kV:=kV) (fun hc=>hk.Ca hc) kv es.toList e4 e5;exact ⟨l,es,clock,vs,rfl,hβ,e7,e1,e2,e3,h.hp.gs _ _ e3,h1,h2⟩
variable {x:Operand} {k:κ}
theorem wM (h:fw R β G s a w) [hk:uT P kt κ kA kV] (hx:s.eval x=kA k):a.eval x=kV k:=by
 have:=h.eval x;rw [hx] at this;exact hk.Ca this
theorem uU {w':World} (he:Ext w w') {b:Nat} {o:Obj} (h:w.heap[b]?=some o):w'.heap[b]?=some o:=by rw [he.block b (jb h)];exact h
variable {t et:TypeId} {v:AV}
theorem zo [hu:cT P t (.map kt et)] [hk:uT P kt κ kA kV] (hl:lk kv k=some v) (hm:s.eval m= .mp id) (hb:bp s.hp id=some ⟨1000000000,uG kA kv,fl⟩) (hx:s.eval x=kA k):
 PV P (.lookup t m x false) s v∧PV P (.lookup t m x true) s (.dC [v,.bool true]):=by
 have key:∀ {R β G a w},fw R β G s a w→∃ y,Conc G β v y∧∀ w',Ext w w'→(Instr.lookup t (a.eval m) (a.eval x) false).run P w'= .ok y w'∧(Instr.lookup t (a.eval m) (a.eval x) true).run P w'= .ok (.tuple #[y,.bool true]) w':=fun {R β G a w} h=>by
  obtain ⟨b,es,clock,vs,h1,_,_,_,_,_,h2,h3,h4⟩:=mM (P:=P) (kt:=kt) h hm hb;rcases h4.find k 0 with ⟨f1,_⟩|⟨j,u,y,f1,f2,f3⟩
  ·have:=tH kv k 0;rw [f1,hl] at this;cases this
  have:=tH kv k 0;rw [f1,hl] at this;injection this with this
  simp only at this;subst this;refine ⟨y,f3,fun w' he=>?_⟩;have hf:=hk.find k es.toList vs w' h3;rw [f2] at hf;simp [h1,wM (P:=P) (kt:=kt) h hx,Instr.lookup,run_underlying hu.ok,MapKept.run_getObj_map (uU he h2),hk.check,hf,Result.andThen]
 constructor
 ·intro R β G a w h
  obtain ⟨y,hc,hr⟩:=key h;exact ⟨y,hc,fun w' d ty pos bF g he=>by simp [execOp,(hr w' he).1]⟩
 intro R β G a w h;obtain ⟨y,hc,hr⟩:=key h;refine ⟨_,Conc.dC (cs:=[v,.bool true]) [y,.bool true] rfl (fun j u z hu hz=>?_),fun w' d ty pos bF g he=>by simp [execOp,(hr w' he).2]⟩
 match j,hu,hz with
 |0,hu,hz=>simp at hu hz;subst hu;subst hz;exact hc
 |1,hu,hz=>simp at hu hz;subst hu;subst hz;exact .v
 |j+2,hu,hz=>simp at hu
theorem Cp {z:Value} {n bw:Nat} [hu:cT P t (.map kt et)] [hi:dI P et z n bw] [hk:uT P kt κ kA kV] (hl:lk kv k=none) (hm:s.eval m= .mp id) (hb:bp s.hp id=some ⟨1000000000,uG kA kv,fl⟩) (hx:s.eval x=kA k):
 PV P (.lookup t m x false) s (.v z)∧PV P (.lookup t m x true) s (.dC [.v z,.bool false]):=by
 have key:∀ {R β G a w},fw R β G s a w→∀ w',Ext w w'→(Instr.lookup t (a.eval m) (a.eval x) false).run P w'= .ok z w'∧(Instr.lookup t (a.eval m) (a.eval x) true).run P w'= .ok (.tuple #[z,.bool false]) w':=fun {R β G a w} h w' he=>by
  obtain ⟨b,es,clock,vs,h1,_,_,_,_,_,h2,h3,h4⟩:=mM (P:=P) (kt:=kt) h hm hb;rcases h4.find k 0 with ⟨f1,f2⟩|⟨j,u,y,f1,_⟩
  ·have hf:=hk.find k es.toList vs w' h3
   rw [f2] at hf;simp [h1,wM (P:=P) (kt:=kt) h hx,Instr.lookup,run_underlying hu.ok,MapKept.run_getObj_map (uU he h2),hk.check,hf,pq hi,Result.andThen]
  have:=tH kv k 0;rw [f1,hl] at this;cases this
 constructor
 ·intro R β G a w h
  exact ⟨z,.v,fun w' d ty pos bF g he=>by simp [execOp,(key h w' he).1]⟩
 intro R β G a w h;refine ⟨_,Conc.dC (cs:=[.v z,.bool false]) [z,.bool false] rfl (fun j u y hu hy=>?_),fun w' d ty pos bF g he=>by simp [execOp,(key h w' he).2]⟩
 match j,hu,hy with
 |0,hu,hy=>simp at hu hy;subst hu;subst hy;exact .v
 |1,hu,hy=>simp at hu hy;subst hu;subst hy;exact .v
 |j+2,hu,hy=>simp at hu
theorem sx {α:Type}:∀ {vs:List (κ×α)} {k:κ} {i j:Nat} {y:α},jt vs k i=some (j,y)→i≤j∧∃ p,vs[j - i]?=some p∧p.1=k∧p.2=y∧∀ z,kK vs k z=vs.set (j - i) (k,z)∧wx vs k=vs.eraseIdx (j - i)
 |[],_,_,_,_,h=>by cases h
 |p::r,k,i,j,y,h=>by
  rw [jt] at h;split at h
  ·rename_i e
   injection h with h
   injection h with h1 h2
   subst h1 h2;refine ⟨qb3 _,p,by simp,e,rfl,fun z=>?_⟩;rw [qm0,kK,if_pos e,wx,if_pos e,e];exact ⟨rfl,rfl⟩
  rename_i e;obtain ⟨h1,q,h2,h3,h4,h5⟩:=sx h;have e1:j - i=(j - (i+1))+1:=by omega
  refine ⟨by omega,q,by rw [e1];simpa using h2,h3,h4,fun z=>?_⟩;rw [e1,kK,if_neg e,wx,if_neg e,(h5 z).1,(h5 z).2];exact ⟨rfl,rfl⟩
theorem zp {α:Type} {vs:List (κ×α)} {i:Nat} (h:jt vs k i=none) (z:α):kK vs k z=vs++[(k,z)]∧wx vs k=vs:=by
 induction vs generalizing i with
 |nil=>exact ⟨rfl,rfl⟩
 |cons p r ih=>
  rw [jt] at h;split at h
  ·cases h
  rename_i e;obtain ⟨i1,i2⟩:=ih h;rw [kK,if_neg e,wx,if_neg e,i1,i2];exact ⟨rfl,rfl⟩
theorem xJ {y:Operand} {ty:TypeId} {pos:String} {bF:Array Edge} {g:Option (Nat×Bool)} {K:St→Prop} [hu:cT P t (.map kt et)] [hK:uT P kt κ kA kV]
 (hm:s.eval m= .mp id) (hb:bp s.hp id=some ⟨1000000000,uG kA kv,false⟩) (hx:s.eval x=kA k) (hy:s.eval y=v)
 (hk:K ⟨s.fr,cP s.hp id ⟨1000000000,uG kA (kK kv k v),false⟩⟩):ff P ⟨none,.mapUpdate t m x y,ty,pos,bF,g⟩ s K∧ff P ⟨none,.insert t m x y,ty,pos,bF,g⟩ s K:=by
 have key:∀ (op:Op),(∀ (a:Act) (p:Nat) (w:World),a.eval m= .map (some p)→(execOp a.eval ⟨none,op,ty,pos,bF,g⟩).run P w=((Instr.mapUpdate t (a.eval m) (a.eval x) (a.eval y)).run P w).andThen fun _ w=>.ok .skip w)→ff P ⟨none,op,ty,pos,bF,g⟩ s K:=by
  intro op hop R β G a w Q hr;obtain ⟨b,es,clock,vs,h1,hβ,hid,_,hex,hG,h2,h3,h4⟩:=mM (P:=P) (kt:=kt) hr hm hb;have hxe:=wM (P:=P) (kt:=kt) hr hx;have hyc:=hr.eval y;rw [hy] at hyc;have hf:=hK.find k es.toList vs w h3;have h5:=h4.put k hyc;obtain ⟨es2,clock2,he2,hrun⟩:∃ (es2:Array MapEntry) (clock2:Nat),es2.toList.map (fun e=>(e.key,e.val))=(kK vs k (a.eval y)).map (fun p=>(kV p.1,p.2))∧(Instr.mapUpdate t (a.eval m) (a.eval x) (a.eval y)).run P w= .ok () (w.putObj b (.map es2 clock2)):=by
   rcases h4.find k 0 with ⟨_,f2⟩|⟨j,u,z,_,f2,_⟩
   ·rw [f2] at hf
    refine ⟨es.push {key:=kV k,val:=a.eval y,born:=clock},clock+1,?_,?_⟩
    ·rw [(zp f2 (a.eval y)).1,qb5,← h3]
     simp
    simp [h1,hxe,Instr.mapUpdate,run_underlying hu.ok,MapKept.run_getObj_map h2,hK.check,hf,MapKept.run_setObj_map _ h2,Result.andThen,World.putObj]
   rw [f2] at hf;obtain ⟨_,q,q1,q2,_,q4⟩:=sx f2;rw [Nat.sub_zero] at q1;have hqe:(es.toList.map (fun e=>(e.key,e.val)))[j]?=some (kV k,q.2):=by rw [h3,qc9,q1,← q2];rfl
   rw [qc9,qa6] at hqe;obtain ⟨e,he,hee⟩:=hqe;have hej:es[j]?=some e:=by simpa using he
   injection hee with hek _
   refine ⟨es.modify j fun e=>{e with key:=kV k,val:=a.eval y},clock,?_,?_⟩
   ·rw [(q4 (a.eval y)).1,Nat.sub_zero,List.map_set,← h3]
    apply List.ext_getElem?;intro i;simp only [Array.toList_modify,qc9,List.getElem?_modify,qi2,qa2];by_cases hij:j=i
    ·subst hij
     have hlt:j < es.toList.length:=(qk2.1 he).1;simp [he];simpa using hlt
    simp [hij]
   simp [h1,hxe,Instr.mapUpdate,run_underlying hu.ok,MapKept.run_getObj_map h2,hK.check,hf,hej,hek,hK.stays,MapKept.run_setObj_map _ h2,Result.andThen,World.putObj]
  obtain ⟨l2,c2⟩:=Co (kA:=kA) (kV:=kV) (fun {k}=>hK.self (k:=k)) h5 es2.toList he2;obtain ⟨G2,hr2⟩:=hr.Jy hb hβ hid hex hG es2 clock2 _ l2 c2;have hrun2:=hop a b w h1;rw [hrun] at hrun2;simp only [Result.andThen] at hrun2;unfold Oper.wp;rw [hrun2,Oper.upon_skip];exact ⟨β,G2,_,hk,hr2⟩
 exact ⟨key _ fun a p w _=>by simp [execOp,Result.andThen],key _ fun a p w _=>by simp [execOp,Result.andThen]⟩
end
end Go.Ab
set_option maxRecDepth 20000
namespace Go.Ab
open Go.RowKit
variable {P:Program}
def kI (k:IntKind) (n:Int):AV:=.v (.int k n)
def vI (k:IntKind) (n:Int):Value:=.int k n
theorem vQ (k:IntKind) (n:Int):∀ (es:List MapEntry) (kv:List (Int×Value)) (i:Nat),es.map (fun e=>(e.key,e.val))=kv.map (fun p=>(vI k p.1,p.2))→Instr.findNow (.int k) (vI k n) es i=some (jt kv n i)
 |[],[],i,_=>rfl
 |[],p::kv,i,h=>by simp at h
 |e::es,[],i,h=>by simp at h
 |e::es,p::kv,i,h=>by
  simp only [qd4,List.cons.injEq,qg8] at h;rw [Instr.findNow,h.1.1];simp only [vI,Instr.sameNow,if_true];by_cases hp:p.1=n
  ·simp only [hp,beq_self_eq_true,jt,if_true,h.1.2]
  have:(n == p.1)=false:=by simpa using Ne.symm hp
  simp only [this,jt,hp,if_false];exact vQ k n es kv (i+1) h.2
variable {kt:TypeId} {k:IntKind}
instance SS [hk:cT P kt (.int k)]:uT P kt Int (kI k) (vI k) where
 Ca:=fun h=>fz h
 self:=.v
 check:=fun e n w=>MapKept.run_checkKey hk.ok (by simp [vI,MapKept.IsKey]) e 9999
 find:=fun n es kv w h=>MapKept.run_findKey hk.ok (vQ k n es kv 0 h)
 stays:=fun n w=>by simp [Instr.keyThatStays,vI,Instr.sameBits]
abbrev I3:=Int×Int×Int
def k3 (x:I3):AV:=.agg [.int x.1,.int x.2.1,.int x.2.2]
def v3 (x:I3):Value:=.agg #[.int .i64 x.1,.int .i64 x.2.1,.int .i64 x.2.2]
variable {G:bI} {β:c9} {x:I3}
theorem Nl {y:Value} (h:Conc G β (k3 x) y):y=v3 x:=by
 unfold k3 at h;cases h with
 |agg xs hl hs=>
  match xs,hl with
  |[x1,x2,x3],_=>
   have e1:=dr (hs 0 _ _ rfl rfl);have e2:=dr (hs 1 _ _ rfl rfl);have e3:=dr (hs 2 _ _ rfl rfl);subst e1;subst e2;subst e3;rfl
theorem Nn:Conc G β (k3 x) (v3 x):=by
 refine .agg [.int .i64 x.1,.int .i64 x.2.1,.int .i64 x.2.2] rfl fun j a b ha hb=>?_
 match j,ha,hb with
 |0,ha,hb=>cases ha;cases hb;exact .v
 |1,ha,hb=>cases ha;cases hb;exact .v
 |2,ha,hb=>cases ha;cases hb;exact .v
 |j+3,ha,_=>simp at ha
theorem Cq {kt:TypeId} (heq:∀ (x y:I3) (w:World),(Op.equal kt (v3 x) (v3 y)).run P w= .ok (decide (x=y)) w) (x:I3):∀ (es:List MapEntry) (kv:List (I3×Value)) (i:Nat) (w:World),es.map (fun e=>(e.key,e.val))=kv.map (fun p=>(v3 p.1,p.2))→(Instr.findAsking kt (v3 x) es i).run P w= .ok (jt kv x i) w
 |[],[],i,w,_=>by simp [Instr.findAsking,jt]
 |[],p::kv,i,w,h=>by simp at h
 |e::es,[],i,w,h=>by simp at h
 |e::es,p::kv,i,w,h=>by
  simp only [qd4,List.cons.injEq,qg8] at h;rw [Instr.findAsking,h.1.1];simp only [Sem.run_bind,heq,qb1];by_cases hp:p.1=x
  ·simp only [hp,decide_true,jt,if_true,h.1.2,Sem.run_pure]
  have:¬x=p.1:=fun e=>hp e.symm
  simp only [this,decide_false,jt,hp,if_false,qa8];exact Cq heq x es kv (i+1) w h.2
theorem SU (x y:I3):decide (x=y)=(x.1 == y.1&&(x.2.1 == y.2.1&&x.2.2 == y.2.2)):=by
 obtain ⟨a,b,c⟩:=x;obtain ⟨d,e,f⟩:=y;rw [qf7];simp [qg8]
class JH (P:Program) (kt:TypeId):Prop where
 wide:(match P.underlying kt with|some (.array _ _)|some (.struct _)=>true|_=>false)=true
 check:∀ (e:Bool) (x:I3) (w:World),(Instr.checkKey e 10000 kt (v3 x)).run P w= .ok () w
 eq:∀ (x y:I3) (w:World),(Op.equal kt (v3 x) (v3 y)).run P w= .ok (decide (x=y)) w
instance UB [hk:JH P kt]:uT P kt I3 k3 v3 where
 Ca:=Nl
 self:=Nn
 check:=hk.check
 find:=fun x es kv w h=>by rw [run_findKey_eq w hk.wide];exact Cq hk.eq x es kv 0 w h
 stays:=fun x w=>by simp [Instr.keyThatStays,v3,Instr.sameBits]
variable {t:TypeId}
theorem Ew {e:TypeId} (hu:cT P t (.array 3 e)) (h1:cT P e (.int k)) (hc:P.cellsOf e=1) (hs:(P.info? e).isSome=true):JH P t where
 wide:=by rw [hu.ok]
 check:=fun em x w=>by
  obtain ⟨i,hi⟩:=qb0.1 hs;have hz:P.cellsOf e=i.size:=by simp [Program.cellsOf,hi]
  have hi1:i.size=1:=by omega
  rw [show (10000:Nat)=9999+1 from rfl,Instr.checkKey];simp only [Sem.run_bind,run_underlying hu.ok,qb1,v3];simp only [Std.Legacy.Range.forIn_eq_forIn_range',Std.Legacy.Range.size,Nat.sub_zero,Nat.add_one_sub_one,Nat.div_one,show (3+1 - 1:Nat)=3 from rfl,List.range'_succ,List.range'_zero,List.forIn_cons,List.forIn_nil];simp only [Sem.run_bind,run_sizeOf w hi,hi1,qb1,part,dv h1.ok,l8,qa8,if_false,Nat.zero_mul,Nat.mul_one,Nat.one_mul,ql4,qa0,qb9,qb2,Sem.run_pure];have hk:∀ n:Int,(Instr.checkKey em 9999 e (.int .i64 n)).run P w= .ok () w:=fun n=>by
   rw [show (9999:Nat)=9998+1 from rfl,Instr.checkKey];simp [run_underlying h1.ok]
  simp [hk,run_sizeOf w hi,hc,hi1,dv h1.ok,l8,part]
 eq:=fun x y w=>by
  obtain ⟨i,hi⟩:=qb0.1 hs;rw [Op.equal,Op.maxDepth,show (10000:Nat)=9999+1 from rfl,v3,v3,run_equalIn_array w 9999 _ _ hu.ok hi,show List.range 3=[0,1,2] from rfl,hc,SU];have hq:∀ a b:Int,(Op.equalIn 9999 e (.int .i64 a) (.int .i64 b)).run P w= .ok (a == b) w:=fun a b=>run_equalIn_int w 9998 _ _ _ _ _ h1.ok;simp only [Op.eqItems,Sem.run_bind,part,dv h1.ok,l8,qb1,qa8,if_false,Nat.zero_mul,Nat.mul_one,Nat.one_mul,qa0,qb9,qb2,Sem.run_pure];obtain ⟨q,hqe⟩:∃ q:Int→Int→Bool,∀ a b,(a == b)=q a b:=⟨fun a b=>a == b,fun _ _=>rfl⟩
  simp only [hqe] at hq ⊢;simp only [hq,qb1];cases q x.1 y.1<;>cases hb:q x.2.1 y.2.1<;>cases hd:q x.2.2 y.2.2<;>simp [Op.eqItems,part,dv h1.ok,l8,hq,hb,hd]
theorem Cr {f1 f2 f3:Field} {k1 k2 k3:IntKind} (hu:cT P t (.struct #[f1,f2,f3])) (h1:cT P f1.type (.int k1)) (h2:cT P f2.type (.int k2)) (h3:cT P f3.type (.int k3)) (ho:f1.offset=0∧f2.offset=1∧f3.offset=2)
 (hn : (f1.name == "_" || f2.name == "_" || f3.name == "_") = false) (hs : P.stoodInHeld t = false): JH P t where
 wide:=by rw [hu.ok]
 check:=fun em x w=>by
  simp only [qg7,beq_eq_false_iff_ne] at hn;obtain ⟨⟨n1,n2⟩,n3⟩:=hn;have hk:∀ (k:IntKind) (e:TypeId) (n:Int),cT P e (.int k)→(Instr.checkKey em 9999 e (.int .i64 n)).run P w= .ok () w:=fun k e n he=>by
   rw [show (9999:Nat)=9998+1 from rfl,Instr.checkKey];simp [run_underlying he.ok]
  rw [show (10000:Nat)=9999+1 from rfl,Instr.checkKey];simp only [Sem.run_bind,run_underlying hu.ok,qb1,v3];rw [← Array.forIn_toList];simp only [List.forIn_cons,List.forIn_nil,n1,n2,n3,ne_eq,not_false_eq_true,if_true,Sem.run_bind,part,dv h1.ok,dv h2.ok,dv h3.ok,l8,qb1,qa8,if_false,ho.1,ho.2.1,ho.2.2];simp [hk _ _ _ h1,hk _ _ _ h2,hk _ _ _ h3,dv h1.ok,dv h2.ok,dv h3.ok,l8,part]
 eq:=fun x y w=>by
  have hf:P.fieldsOf t=#[f1,f2,f3]:=by simp [Program.fieldsOf,hu.ok]
  simp only [qg7,beq_eq_false_iff_ne] at hn;obtain ⟨⟨n1,n2⟩,n3⟩:=hn;rw [Op.equal,Op.maxDepth,show (10000:Nat)=9999+1 from rfl,v3,v3,run_equalIn_agg w 9999 t _ _ (by rw [hf];exact hu.ok) hs,hf,SU];have hq:∀ (k:IntKind) (e:TypeId) (a b:Int),cT P e (.int k)→(Op.equalIn 9999 e (.int .i64 a) (.int .i64 b)).run P w= .ok (a == b) w:=fun k e a b he=>run_equalIn_int w 9998 _ _ _ _ _ he.ok;simp only [Op.eqFields,n1,n2,n3,ne_eq,not_false_eq_true,if_true,Sem.run_bind,part,dv h1.ok,dv h2.ok,dv h3.ok,l8,qb1,qa8,if_false,ho.1,ho.2.1,ho.2.2,qa0,qb9,qb2,Sem.run_pure];obtain ⟨q,hqe⟩:∃ q:Int→Int→Bool,∀ a b,(a == b)=q a b:=⟨fun a b=>a == b,fun _ _=>rfl⟩
  simp only [hqe] at hq ⊢;simp only [hq _ _ _ _ h1,qb1];cases q x.1 y.1<;>cases hb:q x.2.1 y.2.1<;>cases hd:q x.2.2 y.2.2<;>simp [hb,hd,Op.eqFields,n1,n2,n3,part,dv h1.ok,dv h2.ok,dv h3.ok,l8,ho.1,ho.2.1,ho.2.2,hq _ _ _ _ h1,hq _ _ _ _ h2,hq _ _ _ _ h3]
section
variable {κ:Type} [DecidableEq κ] {kA:κ→AV} {kV:κ→Value} {kt:TypeId}
theorem uV {α β:Type} (f:α→β):∀ (l:List α) (j:Nat),(l.eraseIdx j).map f=(l.map f).eraseIdx j
 |[],_=>rfl
 |_::_,0=>rfl
 |a::l,j+1=>by simp only [List.eraseIdx_cons_succ,qd4];rw [uV f l j]
variable {t et:TypeId} {x:Operand} {id:Nat} {kv:List (κ×AV)} {s:St}
theorem Ex {m:Operand} {fx:Array TypeId} {k:κ} {d:Option Tmp} {ty:TypeId} {pos:String} {bF:Array Edge} {g:Option (Nat×Bool)} {K:St→Prop} [hu:cT P t (.map kt et)] [hK:uT P kt κ kA kV]
 (hm:s.eval m= .mp id) (hb:bp s.hp id=some ⟨1000000000,uG kA kv,false⟩) (hx:s.eval x=kA k) (ht:fx[0]?=some t)
 (hk:K ((⟨s.fr,cP s.hp id ⟨1000000000,uG kA (wx kv k),false⟩⟩:St).put d (.v (.tuple #[])))):ff P ⟨d,.call {callee:=.builtin .delete,args:=#[m,x],argTypes:=fx},ty,pos,bF,g⟩ s K:=by
 intro R β G a w Q hr;obtain ⟨b,es,clock,vs,h1,hβ,hid,_,hex,hG,h2,h3,h4⟩:=mM (P:=P) (kt:=kt) hr hm hb;have hxe:=wM (P:=P) (kt:=kt) hr hx;have hf:=hK.find k es.toList vs w h3;have h5:=h4.del k;obtain ⟨es2,he2,hrun⟩:∃ (es2:Array MapEntry),es2.toList.map (fun e=>(e.key,e.val))=(wx vs k).map (fun p=>(kV p.1,p.2))∧(Builtin.delete_ fx ty #[a.eval m,a.eval x]).run P w= .ok (.tuple #[]) (w.putObj b (.map es2 clock)):=by
  rcases h4.find k 0 with ⟨_,f2⟩|⟨j,u,z,_,f2,_⟩
  ·rw [f2] at hf
   refine ⟨es,?_,?_⟩
   ·rw [(zp f2 (Value.bool true)).2,h3]
   simp [Builtin.delete_,ht,h1,hxe,run_underlying hu.ok,MapKept.run_getObj_map h2,hK.check,hf,MapKept.run_setObj_map _ h2,Result.andThen,World.putObj]
  rw [f2] at hf;obtain ⟨_,q,q1,q2,_,q4⟩:=sx f2;rw [Nat.sub_zero] at q1;have hlt:j < es.size:=by
   have hq:(es.toList.map (fun e=>(e.key,e.val)))[j]?=some (kV q.1,q.2):=by rw [h3,qc9,q1];rfl
   rw [qc9,qa6] at hq;obtain ⟨e,he,_⟩:=hq;exact by simpa using (qk2.1 he).1
  refine ⟨es.eraseIdxIfInBounds j,?_,?_⟩
  ·rw [(q4 (Value.bool true)).2,Nat.sub_zero]
   simp only [Array.eraseIdxIfInBounds,hlt,dif_pos,Array.toList_eraseIdx];rw [uV,h3,uV]
  simp [Builtin.delete_,ht,h1,hxe,run_underlying hu.ok,MapKept.run_getObj_map h2,hK.check,hf,MapKept.run_setObj_map _ h2,Result.andThen,World.putObj]
 obtain ⟨l2,c2⟩:=Co (kA:=kA) (kV:=kV) (fun {k}=>hK.self (k:=k)) h5 es2.toList he2;obtain ⟨G2,hr2⟩:=hr.Jy hb hβ hid hex hG es2 clock _ l2 c2;unfold Oper.wp
 have:(execOp a.eval ⟨d,.call {callee:=.builtin .delete,args:=#[m,x],argTypes:=fx},ty,pos,bF,g⟩).run P w= .ok (.value (.tuple #[])) (w.putObj b (.map es2 clock)):=by simp [execOp,resolve,invoke,builtin,hrun,Result.andThen]
 rw [this,Oper.upon_value];exact ⟨β,G2,_,hk,hr2.put d .v⟩
theorem HL {fl:Bool} [hu:cT P t (.map kt et)] [hK:uT P kt κ kA kV] (hx:s.eval x= .mp id) (hb:bp s.hp id=some ⟨1000000000,uG kA kv,fl⟩):
 PV P (.call {callee:=.builtin .len,args:=#[x],argTypes:=#[t]}) s (.int kv.length):=fun R β G a w hr=>by
 obtain ⟨b,es,clock,vs,h1,hβ,hid,_,hex,hG,h2,h3,h4⟩:=mM (P:=P) (kt:=kt) hr hx hb;have hl:es.size=kv.length:=by
  have e1:=congrArg List.length h3;simp only [qa2,qi5] at e1
  have:∀ {kv:List (κ×AV)} {vs:List (κ×Value)},sw G β kv vs→vs.length=kv.length:=fun h=>by
   induction h with
   |nil=>rfl
   |cons _ _ ih=>simp [ih]
  rw [e1,this h4]
 refine ⟨_,.v,fun w' d ty pos bF g he=>?_⟩;have h2':=uU he h2;simp [execOp,resolve,invoke,builtin,h1,Builtin.len_,run_underlying hu.ok,MapKept.run_getObj_map h2',goInt,hl,Result.andThen]
end
end Go.Ab
set_option maxRecDepth 20000
namespace Go.Ab
open Go.RowKit
variable {P:Program}
section
variable {κ:Type} {kA:κ→AV}
def MH (kv:List (κ×Int)):List (κ×AV):=kv.map fun p=>(p.1,AV.int p.2)
def zq (kA:κ→AV) (kv:List (κ×Int)):List AV:=uG kA (MH kv)
class vR {κ:Type} (kA:κ→AV):Prop where
 ok:∀ k,(kA k).gq=true
instance {k:IntKind}:vR (kI k):=⟨fun _=>rfl⟩
instance:vR k3:=⟨fun _=>rfl⟩
theorem tI [hp:vR kA] (kv:List (κ×Int)):AV.cu (zq kA kv)=true:=by
 unfold zq uG MH;rw [qg9];exact gu _ kv fun p=>by simp only [AV.cu,hp.ok,AV.gq,Bool.and_self]
@[go_sem] theorem SV [hp:vR kA] (id:Nat) (kv:List (κ×Int)):AV.bz id (zq kA kv)=false:=jT (tI kv)
@[go_sem] theorem Sb [hp:vR kA] (id:Nat) (kv:List (κ×Int)):AV.cG id (zq kA kv)=zq kA kv:=mC (tI kv)
@[go_sem] theorem TW [hp:vR kA] (ids pins:List Nat) (kv:List (κ×Int)):AV.jP ids pins (zq kA kv)=zq kA kv:=mK (tI kv)
@[go_sem] theorem TX [hp:vR kA] (ids:List Nat) (kv:List (κ×Int)):AV.j6 ids (zq kA kv)=true:=oB (tI kv)
end
section
variable {κ:Type} [DecidableEq κ] {kA:κ→AV} {kV:κ→Value} {kt:TypeId}
theorem Ey:∀ (kv:List (κ×Int)) (k:κ),lk (MH kv) k=(lk kv k).map AV.int
 |[],_=>rfl
 |p::r,k=>by
  simp only [MH,qd4,lk];split
  ·rfl
  exact Ey r k
theorem Cs:∀ (kv:List (κ×Int)) (k:κ) (v:Int),kK (MH kv) k (AV.int v)=MH (kK kv k v)
 |[],_,_=>rfl
 |p::r,k,v=>by
  simp only [MH,qd4,kK];split
  ·rfl
  rw [qd4];exact congrArg _ (Cs r k v)
variable {s:St} {t et:TypeId} {m x:Operand} {id:Nat} {kv:List (κ×Int)} {k:κ} {v:Int} {fl:Bool}
theorem mh [hu:cT P t (.map kt et)] [hk:uT P kt κ kA kV] (hl:lk kv k=some v) (hm:s.eval m= .mp id) (hb:bp s.hp id=some ⟨1000000000,zq kA kv,fl⟩) (hx:s.eval x=kA k):
 PV P (.lookup t m x false) s (.int v)∧PV P (.lookup t m x true) s (.dC [.int v,.bool true]):=
 zo (kt:=kt) (kv:=MH kv) (by rw [Ey,hl];rfl) hm hb hx
variable {n bw:Nat}
theorem qB [hu:cT P t (.map kt et)] [hi:dI P et (.int .i64 0) n bw] [hk:uT P kt κ kA kV] (hl:lk kv k=none) (hm:s.eval m= .mp id) (hb:bp s.hp id=some ⟨1000000000,zq kA kv,fl⟩) (hx:s.eval x=kA k):
 PV P (.lookup t m x false) s (.int 0)∧PV P (.lookup t m x true) s (.dC [.int 0,.bool false]):=
 Cp (kt:=kt) (kv:=MH kv) (by rw [Ey,hl];rfl) hm hb hx
theorem JI [hu:cT P t (.map kt et)] [hi:dI P et (.int .i64 0) n bw] [hk:uT P kt κ kA kV] (hm:s.eval m= .mp id) (hb:bp s.hp id=some ⟨1000000000,zq kA kv,fl⟩) (hx:s.eval x=kA k):
 PV P (.lookup t m x false) s (.int ((lk kv k).getD 0))∧PV P (.lookup t m x true) s (.dC [.int ((lk kv k).getD 0),.bool (lk kv k).isSome]):=by
 cases hl:lk kv k with
 |none=>exact qB (kt:=kt) hl hm hb hx
 |some v=>exact mh (kt:=kt) hl hm hb hx
theorem jF {y:Operand} {ty:TypeId} {pos:String} {bF:Array Edge} {g:Option (Nat×Bool)} {K:St→Prop} [hu:cT P t (.map kt et)] [hK:uT P kt κ kA kV]
 (hm:s.eval m= .mp id) (hb:bp s.hp id=some ⟨1000000000,zq kA kv,false⟩) (hx:s.eval x=kA k) (hy:s.eval y= .int v)
 (hk:K ⟨s.fr,cP s.hp id ⟨1000000000,zq kA (kK kv k v),false⟩⟩):ff P ⟨none,.mapUpdate t m x y,ty,pos,bF,g⟩ s K∧ff P ⟨none,.insert t m x y,ty,pos,bF,g⟩ s K:=
 xJ (kt:=kt) (kv:=MH kv) hm hb hx hy (by rw [Cs];exact hk)
end
end Go.Ab
set_option maxRecDepth 10000
namespace Go.Ab
open Go.RowKit
variable {P:Program}
def QL (P:Program) (rs:Array ResultVar) (gid:Nat) (d:Option Tmp) (K:St→Prop):Exit→St→Prop
 | .normal,s| .ret,s=>∃ s2 x fr',Le s s2∧RV P rs s2 x∧bp s2.hp gid=some (fJ fr')∧K ⟨(St.put ⟨fr',[]⟩ d x).fr,fg s2.hp gid⟩
 |_,_=>False
variable {R:Rg} {β:c9} {G:bI} {fr:List AV} {hp hp2:Hp} {a:Act} {w:World} {gid:Nat}
theorem Ct (hr:fw R β G ⟨fr,hp⟩ a w) (hgid:1000000000≤gid) (hgidb:gid < 2000000000)
 {β2:c9} {G2:bI} {w2:World} {fr':List AV} {x:AV} {y:Value} (hcy:Conc G2 β2 x y) (hH2:dx ⟨w,iW β (bl hp),G,fun i=>if i=gid then some a.tmps.toList else R.out i,iw R⟩ β2 G2 hp2 w2) (hg:bp hp2 gid=some (fJ fr')) (d:Option Tmp):
 ∃ G3,fw R β2 G3 ⟨(St.put ⟨fr',[]⟩ d x).fr,fg hp2 gid⟩ (a.put d y) w2:=by
 have hb6:=hH2.blk gid _ hg;have iE:iE hp2 (fg hp2 gid):=fun i bk hi=>by
  rw [jj] at hi;split at hi
  ·cases hi
  exact hi
 have hex:∀ b,iW β (bl hp) b→R.w0.heap.size≤b∨R.ex b:=fun b ⟨id,hid,hh⟩=>by
  obtain ⟨bk,hbk⟩:=dq.1 hid;rcases hh with ⟨t,ht⟩|⟨y',hy'⟩
  ·exact (hr.hp.block hbk ht).2.1
  have hq:=hr.hp.blk id bk hbk;unfold bZ at hq;rw [hy'] at hq;exact ((ko hq).2.2 b y' rfl).1
 obtain ⟨G7,d7,m7,h7⟩:=pz (R:=R) (G:=G) (w:=w) hr.defers hr.hp.gs hr.hp.keeps hr.hp.kH hex (fun b ⟨id,hid,hh⟩=>by
  obtain ⟨bk,hbk⟩:=dq.1 hid;rcases hh with ⟨t,ht⟩|⟨y',hy'⟩
  ·exact .inl (hr.hp.block hbk ht).1
  ·have hq:=hr.hp.blk id bk hbk
   unfold bZ at hq;rw [hy'] at hq;exact .inr ((ko hq).2.2 b y' rfl).2.1) (hH2.sub iE) (fun id bk o hid hβo hgb=>by
  have hn2:id≠gid:=fun e=>by
   subst e;rw [jj,if_pos rfl] at hid;cases hid
  have:=wJ (R:=⟨R.w0,R.ex,R.g0,fun i=>if i=gid then some a.tmps.toList else R.out i,R.lp⟩) (w:=w) (ex:=iW β (bl hp)) (g:=G) hgb hr.hp.keeps.size hex;rcases this with ⟨outs',z0,z1,z2,z3⟩|hm
  ·refine .inl ⟨outs',by simpa only [hn2,if_false] using z0,z1,?_,z3⟩
   cases o with
   |none=>exact z2
   |some p=>exact z2
  exact .inr hm)
 unfold bZ at hb6;have hfr:fr'.length=a.tmps.toList.length∧∀ (j:Nat) x z,fr'[j]?=some x→a.tmps.toList[j]?=some z→Conc G2 β2 x z:=by
  cases hβ5:β2 gid with
  |no=>rw [hβ5] at hb6;exact hb6.elim
  |nil=>exact absurd (hH2.kL gid (.inl hβ5)) ak
  |«at» b t=>exact absurd (hH2.kL gid (.inr ⟨b,t,hβ5⟩)) ak
  |gh o=>
   rw [hβ5] at hb6;rcases hb6 with ⟨outs',z0,_,_,z3,z4⟩|⟨_,_,_,_,⟨_,_,h9⟩,_⟩
   rotate_left
   ·omega
   simp only [if_true] at z0;injection z0 with z0
   subst z0;exact ⟨z3,z4⟩
 have hrep7:fw R β2 G7 ⟨fr',fg hp2 gid⟩ a w2:=⟨d7,by rw [hfr.1];simp,fun i x z hx hz=>(hfr.2 i x z hx (by simpa using hz)).mono m7,h7⟩
 have:=hrep7.put d (hcy.mono m7);have e:(St.put ⟨fr',fg hp2 gid⟩ d x)=⟨(St.put ⟨fr',[]⟩ d x).fr,fg hp2 gid⟩:=by cases d<;>rfl
 rw [e] at this;exact ⟨G7,this⟩
variable {n:Nat} {f:FuncId} {fn:Func} {c:Code} {rs:Array ResultVar} {d:Option Tmp} {K:St→Prop}
theorem tJ (hr:fw R β G ⟨fr,hp⟩ a w) {args:List AV} {vals:List Value}
 (hf:P.funcs[f]?=some fn) (hb:fn.body=some c) (hn:fn.ntmps=n) (hrs:fn.results=rs) (hgid:1000000000≤gid) (hgidb:gid < 2000000000) (hm1:AV.bz gid fr=false) (hm2:cz gid hp=false) (hm3:AV.bz gid args=false)
 (hl:args.length=vals.length) (hc:∀ (j:Nat) x y,args[j]?=some x→vals[j]?=some y→Conc G β x y)
 (h:AW P c ⟨args++List.replicate (n - args.length) .any,hp++[(gid,fJ fr)]⟩ (QL P rs gid d K)):
 Calls P f vals.toArray w fun e w'=>∃ y,e= .returned y∧∃ β2 G2 s,K s∧fw R β2 G2 s (a.put d y) w':=by
 subst hn;have hlm:=rf hr.hp (fun _ _ h=>h);have hpg:=tF hlm gid 1000000000 none hgid hgidb (qb3 _) (fr:=fr) (tm:=a.tmps.toList) (lp':=iw R) (by rw [qi5];exact hr.size.symm) (fun j x z hx hz=>hr.fr j x z hx (by simpa using hz)) hm1 hm2 (fun _ _=>rfl) (qm0 _);have hc1:∀ (j:Nat) x y,args[j]?=some x→vals[j]?=some y→Conc G (β.set gid (.gh none)) x y:=fun j x y hx hy=>(hc j x y hx hy).iM (eb hm3 hx) _;refine iq (R:=⟨w,iW β (bl hp),G,fun i=>if i=gid then some a.tmps.toList else R.out i,iw R⟩) (β:=β.set gid (.gh none)) (G:=G) hf hb hrs (jS hl hc1 hpg) h fun e s' hq=>?_;have key:(∃ s2 x fr',Le s' s2∧RV P rs s2 x∧bp s2.hp gid=some (fJ fr')∧K ⟨(St.put ⟨fr',[]⟩ d x).fr,fg s2.hp gid⟩)→∃ s'' x,Le s' s''∧RV P rs s'' x∧∀ β2 G2 y w2,Conc G2 β2 x y→
  dx ⟨w,iW β (bl hp),G,fun i=>if i=gid then some a.tmps.toList else R.out i,iw R⟩ β2 G2 s''.hp w2→
  (fun (e:Ending) (w':World)=>∃ y,e=Ending.returned y∧∃ β2 G2 s,K s∧fw R β2 G2 s (a.put d y) w') (.returned y) w2:=by
  rintro ⟨s2,x,fr',hle,hrv,hg,hk⟩;refine ⟨s2,x,hle,hrv,fun β2 G2 y w2 hcy hH2=>?_⟩;obtain ⟨G3,h3⟩:=Ct hr hgid hgidb hcy hH2 hg d;exact ⟨y,rfl,β2,G3,_,hk,h3⟩
 cases e with
 |normal=>exact ⟨.inl rfl,key hq⟩
 |ret=>exact ⟨.inr rfl,key hq⟩
 |_=>exact hq.elim
theorem pA {args:Array Operand} {fx:Array TypeId} {ty:TypeId} {pos:String} {bF:Array Edge} {g:Option (Nat×Bool)} {fr2:List AV} [hc:cI P f] (gid:Nat)
 (hf:P.funcs[f]?=some fn) (hn:fn.ntmps=n) (hgid:1000000000≤gid) (hgidb:gid < 2000000000) (hm1:AV.bz gid fr=false) (hm2:cz gid hp=false) (hm3:AV.bz gid (cv ⟨fr,hp⟩ args)=false)
 (h:AW P c ⟨fr2,hp2⟩ (QL P rs gid d K)) (hb:fn.body=some c:=by rfl) (hrs:fn.results=rs:=by rfl)
 (he:cv ⟨fr,hp⟩ args++List.replicate (n - (cv ⟨fr,hp⟩ args).length) .any=fr2:=by simp only [go_sem,Nat.reduceAdd,Nat.reduceSub,qg6,qh3];exact rfl)
 (he2:hp++[(gid,fJ fr)]=hp2:=by simp only [fJ,qd4,qg5,qi8,qk0];exact rfl):
 ff P ⟨d,.call {callee:=.value (.func f),args,argTypes:=fx},ty,pos,bF,g⟩ ⟨fr,hp⟩ K:=by
 intro R β G a w Q' hr;have hrun:(execOp a.eval ⟨d,.call {callee:=.value (.func f),args,argTypes:=fx},ty,pos,bF,g⟩).run P w= .ok (.enter f (args.map a.eval)) w:=by simp [execOp,resolve,Act.eval,Deferred.ofValue,invoke,hc.ok]
 unfold Oper.wp;rw [hrun,Oper.upon_enter];subst he he2;obtain ⟨l1,l2⟩:=iR hr args;have:=tJ hr (d:=d) (K:=K) hf hb hn hrs hgid hgidb hm1 hm2 hm3 l1 l2 h;simp only [qf5] at this;refine this.mono fun e w' ⟨y,he,hh⟩=>?_;subst he;exact hh
end Go.Ab
set_option maxRecDepth 20000
namespace Go.Ab
open Go.RowKit
variable {P:Program}
def pB (ops:Array Oper):Nat→Array Bool→List (List Nat)
 |0,_=>[[]]
 |f+1,l=>match Region.ready .any ops l with
  |[]=>[[]]
  |r=>r.flatMap fun i=>(pB ops f (l.setIfInBounds i true)).map (i::·)
theorem Ez (ops:Array Oper):∀ (f t:Nat) (l:Array Bool),Region.linearise.go .any ops f t l []∈pB ops f l
 |0,t,l=>by simp [Region.linearise.go,pB]
 |f+1,t,l=>by
  simp only [Region.linearise.go,pB];change (match (Region.ready .any ops l)[t % (Region.ready .any ops l).length]? with
   |some i=>Region.linearise.go .any ops f (t / (Region.ready .any ops l).length) (l.setIfInBounds i true) [i]
   |none=>[].reverse)∈_
  cases hr:Region.ready .any ops l with
  |nil=>simp
  |cons x xs=>
   have hlt:t % (x::xs).length < (x::xs).length:=Nat.mod_lt _ aC;rw [qa7 hlt];simp only [];rw [linearise_go_acc,List.reverse_singleton,List.singleton_append];exact qh0.2 ⟨_,qa4 hlt,List.mem_map_of_mem (Ez ops f _ _)⟩
theorem ku {F:Fence} {n:Nat} {ops:Array Oper} {Q:Exit→Act→World→Prop}:∀ (l:List Nat) (a:Act) (w:World),wpListIn F n P ops Q (l.filterMap fun i=>ops[i]?) a w→wpOpsIn F n P ops Q l a w
 |[],a,w,h=>h
 |i::l,a,w,h=>by
  simp only [wpOpsIn];cases ho:ops[i]? with
  |none=>
   simp only [qe3,ho] at h;exact ku l a w h
  |some o=>
   simp only [qe3,ho,wpListIn] at h;simp only [];split
   ·rename_i hw
    simp only [hw,if_true] at h;exact Oper.wpIn_mono (fun a' w' h'=>ku l a' w' h') h
   rename_i hw;simp only [hw,if_false,qa8] at h;exact ⟨h.1,ku l _ w h.2⟩
theorem jQ {id:Nat} {l:List Oper} {s:St} {Q:Exit→St→Prop} (hm:P.follows .mixedOrders=true)
 (h:∀ o∈pB l.toArray l.length (Array.replicate l.length false),dj P l.toArray (o.filterMap fun i=>l.toArray[i]?) s (Q .normal)):AW P (.region id l.toArray true) s Q:=by
 intro ro _ R β G a w hr;refine wpIn_mono (wpIn_region_draw fun t=>?_) FN;simp only [Region.schedule,hm,qi7,if_true];have hr':=hr.drew;refine ku _ _ _ (h _ ?_ ro R β G a _ hr');have:=Ez l.toArray l.toArray.size t (Array.replicate l.toArray.size false);simpa [Region.linearise] using this
end Go.Ab
set_option maxRecDepth 10000
namespace Go.Ab
open Go.RowKit
variable {P:Program}
def SX (P:Program) (rs:Array ResultVar) (gid:Nat) (Q:Exit→St→Prop):Exit→St→Prop
 | .normal,s| .ret,s=>∃ s2 x e' T fr',Le s s2∧RV P rs s2 x∧kp e'=some T∧bp s2.hp gid=some ⟨T,fr',false⟩∧Q e' ⟨fr',fg s2.hp gid⟩
 |_,_=>False
variable {f:Operand} {ps:Array Tmp} {assign body c:Code} {fr caps:List AV} {hp:Hp} {Q:Exit→St→Prop} {g:FuncId} {fn0:Func} {n:Nat} {rs:Array ResultVar}
theorem zr [hc:cI P g] (gid:Nat)
 (hf:(⟨fr,hp⟩:St).eval f= .fn g caps) (hgid:1000000000≤gid) (hm1:AV.bz gid fr=false) (hm2:cz gid hp=false) (hm3:AV.bz gid caps=false)
 (hfn:P.funcs[g]?=some fn0) (hn:fn0.ntmps=n) (hb:fn0.body=some c) (hrs:fn0.results=rs)
 (h:AW P c ⟨(.yl gid ⟨ps,assign,body,false⟩::caps)++List.replicate (n - (caps.length+1)) .any,hp++[(gid,⟨1000000001,fr,false⟩)]⟩ (SX P rs gid Q))
 (hgidb:gid < 2000000000:=by decide):AW P (.rangeFunc f ps assign body) ⟨fr,hp⟩ Q:=by
 intro ro ho R β G a w hr;have hro:ro=none:=ho.elim (fun h=>h) (fun h=>by simp [oz] at h);subst hro;refine wpIn_rangeFunc ?_;intro fn _;have e1:=hr.eval f;rw [hf] at e1;obtain ⟨xs,hfv,hxl,hxs⟩:=ki e1 hc.lt;obtain ⟨y,hy⟩:∃ y:cF,y=⟨ps,assign,body,false⟩:=⟨_,rfl⟩
 obtain ⟨D,hD⟩:∃ D,D=w.heap.size:=⟨_,rfl⟩
 obtain ⟨W1,hW1⟩:∃ W1,W1=(w.alloc (.deferred (some []))).alloc (.loop {state:=.ready,pending:=none,fn,tmps:=a.tmps,params:=ps,assign,body,defers:=w.heap.size}):=⟨_,rfl⟩
 have hrec:(Obj.loop {state:=.ready,pending:=none,fn,tmps:=a.tmps,params:=ps,assign,body,defers:=w.heap.size})= .loop (y.loop fn 0 a.tmps.toList D):=by subst hy hD;rfl
 have hsz1:W1.heap.size=D+2:=by subst hW1 hD;simp [World.size_alloc]
 have hold:∀ b,b < D→W1.heap[b]?=w.heap[b]?:=fun b hb=>by
  subst hW1 hD;rw [Below.heap_alloc _ _ _ (by rw [World.size_alloc];omega),Below.heap_alloc _ _ _ hb]
 have hDh:W1.heap[D]?=some (.deferred (some [])):=by subst hW1 hD;rw [Below.heap_alloc _ _ _ (by rw [World.size_alloc];omega)];exact World.alloc_heap_new w _
 have hlh:W1.heap[D+1]?=some (.loop (y.loop fn 0 a.tmps.toList D)):=by rw [← hrec];subst hW1 hD;have:=World.alloc_heap_new (w.alloc (.deferred (some []))) (.loop {state:=.ready,pending:=none,fn,tmps:=a.tmps,params:=ps,assign,body,defers:=w.heap.size});rwa [World.size_alloc] at this
 have hRD:R.w0.heap.size≤D:=by rw [hD];exact hr.hp.keeps.size
 let G1:bI:=fun b=>if b=D then some (.deferred (some [])) else if b=D+1 then some (.loop (y.loop fn 0 a.tmps.toList D)) else G b
 have g1D:G1 D=some (.deferred (some [])):=by simp [G1]
 have g1l:G1 (D+1)=some (.loop (y.loop fn 0 a.tmps.toList D)):=by simp [G1]
 have hGlt:∀ b o,G b=some o→b < D:=fun b o hg=>by rw [hD];exact jb (hr.hp.gs b o hg)
 have g1o:∀ b,b < D→G1 b=G b:=fun b hb=>by simp only [G1];rw [if_neg ak,if_neg ak]
 have gm:∀ b o,G b=some o→G1 b=some o:=fun b o hg=>by rw [g1o b (hGlt b o hg)];exact hg
 have hgs1:∀ b o,G1 b=some o→W1.heap[b]?=some o:=fun b o hb=>by
  simp only [G1] at hb;split at hb
  ·rename_i e;subst e;rw [hDh];exact hb
  split at hb
  ·rename_i e;subst e;rw [hlh];exact hb
  rw [hold b (hGlt b o hb)];exact hr.hp.gs b o hb
 obtain ⟨β1,hβ1⟩:∃ β1,β1=β.set gid (.gh (some (D+1,y))):=⟨_,rfl⟩
 have hgk:bp hp gid=none:=by
  cases hq:bp hp gid with
  |none=>rfl
  |some bk=>rw [eG hq] at hm2;cases hm2
 have hb1o:∀ i,i≠gid→β1 i=β i:=fun i hi=>by rw [hβ1];simp [c9.set,hi]
 have hb1g:β1 gid= .gh (some (D+1,y)):=by rw [hβ1];simp [c9.set]
 have hkeys:∀ i,i∈bl (hp++[(gid,(⟨1000000001,fr,false⟩:iB))])↔i∈bl hp∨i=gid:=fun i=>by
  rw [dq,dq];simp only [eh,bp];constructor
  ·rintro ⟨bk,hbk⟩
   cases hq:bp hp i with
   |some b=>exact .inl ⟨b,rfl⟩
   |none=>
    rw [hq] at hbk;simp only [qi1] at hbk;split at hbk
    ·rename_i e;exact .inr e.symm
    cases hbk
  rintro (⟨bk,hbk⟩|rfl)
  ·exact ⟨bk,by rw [hbk];rfl⟩
  exact ⟨_,by rw [hgk];simp;rfl⟩
 obtain ⟨ex',hex⟩:∃ ex',ex'=iW β1 (bl (hp++[(gid,(⟨1000000001,fr,false⟩:iB))])):=⟨_,rfl⟩
 have hexA:∀ id b t,bp hp id≠none→β id= .at b t→ex' b:=fun id b t hid hβ=>by
  rw [hex];have hne:id≠gid:=fun e=>by subst e;exact hid hgk
  obtain ⟨bk,hbk⟩:=Option.ne_none_iff_exists'.1 hid;exact ⟨id,(hkeys id).2 (.inl (dq.2 ⟨bk,hbk⟩)),.inl ⟨t,by rw [hb1o id hne];exact hβ⟩⟩
 have hexG:∀ id b y',bp hp id≠none→β id= .gh (some (b,y'))→ex' b:=fun id b y' hid hβ=>by
  rw [hex];have hne:id≠gid:=fun e=>by subst e;exact hid hgk
  obtain ⟨bk,hbk⟩:=Option.ne_none_iff_exists'.1 hid;exact ⟨id,(hkeys id).2 (.inl (dq.2 ⟨bk,hbk⟩)),.inr ⟨y',by rw [hb1o id hne];exact hβ⟩⟩
 have hexL:ex' (D+1):=by rw [hex];exact ⟨gid,(hkeys gid).2 (.inr rfl),.inr ⟨y,hb1g⟩⟩
 have hexC:∀ b,ex' b→b=D+1∨((G b=none∨∃ z,G b=some z∧soft z=true)∧(R.w0.heap.size≤b∨R.ex b)∧b < D):=fun b hb=>by
  rw [hex] at hb;obtain ⟨id,hid,hh⟩:=hb;rcases (hkeys id).1 hid with hk|rfl
  ·obtain ⟨bk,hbk⟩:=dq.1 hk
   have hne:id≠gid:=fun e=>by subst e;rw [hgk] at hbk;cases hbk
   rw [hb1o id hne] at hh;rcases hh with ⟨t,ht⟩|⟨y',hy'⟩
   ·obtain ⟨p1,p2,arr,p3,_⟩:=hr.hp.block hbk ht
    exact .inr ⟨.inl p1,p2,by rw [hD];exact jb p3⟩
   have h0:=hr.hp.blk id bk hbk;unfold bZ at h0;rw [hy'] at h0;obtain ⟨g1,⟨z,g2,g3⟩,_⟩:=(ko h0).2.2 b y' rfl;exact .inr ⟨.inr ⟨z,g2,g3⟩,g1,hGlt b z g2⟩
  rw [hb1g] at hh;rcases hh with ⟨t,ht⟩|⟨y',hy'⟩
  ·cases ht
  injection hy' with hy';injection hy' with hy';injection hy' with hy' _;exact .inl hy'.symm
 have hA:dx ⟨W1,ex',G1,R.out,iw R⟩ β G1 hp W1:=by
  refine ⟨hgs1,fun id bk hi=>?_,hr.hp.inj,⟨rfl,rfl,rfl,qb3 _,fun _ _ _=>rfl⟩,fun b hb=>.inl hb,hr.hp.kL,hr.hp.iC⟩;have:=hr.hp.blk id bk hi;unfold bZ at this ⊢;cases hβ:β id with
  |no=>rw [hβ] at this;exact this
  |nil=>rw [hβ] at this;exact this
  |gh o=>
   rw [hβ] at this;have:=FM (w:=W1) (ex:=ex') (g:=G1) this ak fun l y' ho=>hexG id l y' (by rw [hi];simp) (by rw [hβ,ho]);exact gA this gm fun u _ v hc=>hc.mono gm
  |«at» b t=>
   rw [hβ] at this;obtain ⟨p1,p2,arr,p3,p4,p5,p6,p7⟩:=this;have hlt:b < D:=by rw [hD];exact jb p3
   exact ⟨by rw [g1o b hlt];exact p1,.inr (hexA id b t (by rw [hi];simp) hβ),arr,by rw [hold b hlt];exact p3,p4,p5,p6,fun j x z hx hz=>(p7 j x z hx hz).mono gm⟩
 have hpg:=tF (lp':=nb.add R gid (D+1) D y ak) hA gid 1000000001 (some (D+1,y)) hgid hgidb aB (fr:=fr) (tm:=a.tmps.toList) (by rw [qi5];exact hr.size.symm)
  (fun j x z hx hz=>(hr.fr j x z hx (by simpa using hz)).mono gm) hm1 hm2 (fun i hi=>by simp [hi,nb.add]) ⟨by decide,by rw [hy],D,fn,by simp [nb.add],by show D < W1.heap.size;omega,by show D+1 < W1.heap.size;omega,hexL,g1l,g1D⟩
 rw [← hβ1] at hpg;have hcargs:∀ (j:Nat) x z,(AV.yl gid y::caps)[j]?=some x→(Value.func (.yield (D+1)) #[] #[]::xs)[j]?=some z→Conc G1 β1 x z:=fun j x z hx hz=>by
  cases j with
  |zero=>simp at hx hz;subst hx;subst hz;subst hy;exact .yl hb1g
  |succ j=>
   simp at hx hz;have:=(hxs j x z hx hz).mono gm;rw [hβ1];exact this.iM (eb hm3 hx) _
 have hback:∀ (β':c9) (G':bI) (hp':Hp) (w3:World) (e:Exit) (T:Nat) (fr':List AV),kp e=some T→bp hp' gid=some ⟨T,fr',false⟩→Q e ⟨fr',fg hp' gid⟩→
  dx ⟨W1,ex',G1,fun i=>if i=gid then some a.tmps.toList else R.out i,nb.add R gid (D+1) D y ak⟩ β' G' hp' w3→
  ∃ f7,(y.loop f7 (T - 1000000001) a.tmps.toList D).state≠.busy∧w3.heap[D+1]?=some (.loop (y.loop f7 (T - 1000000001) a.tmps.toList D))∧
   ∃ o',o'=Obj.loop {y.loop f7 (T - 1000000001) a.tmps.toList D with state:=.exhausted}∧∃ β2 G2,fw R β2 G2 ⟨fr',fg hp' gid⟩ {a with defers:=[{target:=.collected D,args:=#[]}]++a.defers} (w3.putObj (D+1) o'):=by
  intro β' G' hp' w3 e T fr' hj hgg hq hrh;have hlpg:(nb.add R gid (D+1) D y ak) gid=some (D+1,D,y):=by simp [nb.add]
  obtain ⟨f7,r1,r2,r3,r4,r5,r6,r7⟩:=su hrh hgid hgg (zl hj) (if_pos rfl) hlpg;have iE:iE hp' (fg hp' gid):=fun i bk hi=>by
   rw [jj] at hi;split at hi
   ·cases hi
   exact hi
  obtain ⟨Ds,d1,d2,d3⟩:=hr.defers;have hdef:tv R.w0.heap.size G1 ({target:=.collected D,args:=#[]}::a.defers):=by
   refine ⟨D::Ds,by rw [d1];rfl,List.nodup_cons.2 ⟨fun hm=>?_,d2⟩,fun X hX=>?_⟩
   ·have:=hGlt D _ (d3 D hm).2;omega
   rcases qc2.1 hX with rfl|hX
   ·exact ⟨hRD,g1D⟩
   exact ⟨(d3 X hX).1,gm _ _ (d3 X hX).2⟩
  obtain ⟨G3,d7,m7,h7⟩:=pz (R:=R) (G:=G1) (w:=W1) (ds:={target:=.collected D,args:=#[]}::a.defers) hdef hgs1
   ⟨by rw [hW1];exact hr.hp.keeps.os,by rw [hW1];exact hr.hp.keeps.tape,by rw [hW1];exact hr.hp.keeps.output,by rw [hsz1];omega,fun k h1 h2=>by rw [hold k ak];exact hr.hp.keeps.block k h1 h2⟩
   (fun b hb=>by
    by_cases hlt:b < D
    ·rw [g1o b hlt] at hb;exact hr.hp.kH b hb
    exact .inr (.inl ak))
   (fun b hb=>by
    rcases hexC b hb with rfl|⟨_,h2,_⟩
    ·exact .inl ak
    exact h2)
   (fun b hb=>by
    rcases hexC b hb with rfl|⟨h1,_,h3⟩
    ·exact .inr ⟨_,g1l,rfl⟩
    ·rw [g1o b h3];exact h1) (hrh.sub iE) (fun id bk o hid hβo hgb=>by
    have hn2:id≠gid:=fun e=>by
     subst e;rw [jj,if_pos rfl] at hid;cases hid
    rcases hgb with ⟨outs',z0,z1,z2,z3⟩|⟨b,es,clock,e0,e1,e2,e3⟩
    ·refine .inl ⟨outs',by simpa only [hn2,if_false] using z0,z1,?_,z3⟩
     cases o with
     |none=>exact z2
     |some p=>
      obtain ⟨k0,km,D2,f2,k1,k2⟩:=z2;have k1':iw R id=some (p.1,D2,p.2):=by
       have:(nb.add R gid (D+1) D y ak) id=iw R id:=by simp [nb.add,hn2]
       rw [← this];exact k1
      simp only [iw,Option.filter_eq_some_iff,qa1,decide_eq_true_eq] at k1';exact ⟨k0,km,D2,f2,k1'.1,k1'.2.1.2,k1'.2.1.1,k1'.2.2,k2.2.2.2⟩
    refine .inr ⟨b,es,clock,e0,e1,?_,e3⟩;rcases e2 with e2|e2
    ·simp only at e2;left;omega
    rcases hexC b e2 with rfl|⟨_,h2,_⟩
    ·left;omega
    exact h2)
  have hlG:=m7 _ _ r7;obtain ⟨o',ho'⟩:∃ o':Obj,o'= .loop {y.loop f7 (T - 1000000001) a.tmps.toList D with state:=.exhausted}:=⟨_,rfl⟩
  have hun:=h7.P2 (l:=D+1) ak hlG o';refine ⟨f7,?_,r2,o',ho',β',G3.del (D+1),?_,by rw [r3];simp,fun i x z hx hz=>((r4 i x z hx (by simpa using hz)).mono m7).yQ (fun _ _=>rfl) fun _ _ h=>sv hlG h,hun⟩
  ·cases e with
   |normal=>injection hj with hj;subst hj;simp [cF.loop,QE]
   |ret=>injection hj with hj;subst hj;simp [cF.loop,QE]
   |exit id=>
    injection hj with hj;subst hj
    have e:1000000004+id - 1000000001=id+3:=by omega
    rw [e];simp [cF.loop,QE]
   |goto t=>cases hj
   |panic c=>cases hj
   |outgrown=>cases hj
  obtain ⟨Es,e1,e2,e3⟩:=d7;refine ⟨Es,e1,e2,fun X hX=>⟨(e3 X hX).1,?_⟩⟩;have hX3:=(e3 X hX).2;simp only [bI.del];rw [if_neg (fun e=>by rw [e,hlG] at hX3;cases hX3)];exact hX3
 have hcall:Calls P g (Value.func (.yield (D+1)) #[] #[]::xs).toArray W1 fun e w3=>∃ y',e= .returned y'∧∃ β' G' hp' e' T fr',kp e'=some T∧bp hp' gid=some ⟨T,fr',false⟩∧Q e' ⟨fr',fg hp' gid⟩∧
  dx ⟨W1,ex',G1,fun i=>if i=gid then some a.tmps.toList else R.out i,nb.add R gid (D+1) D y ak⟩ β' G' hp' w3:=by
  subst hn;refine iq (R:=⟨W1,ex',G1,fun i=>if i=gid then some a.tmps.toList else R.out i,nb.add R gid (D+1) D y ak⟩) (β:=β1) (G:=G1) hfn hb hrs
   (jS (args:=AV.yl gid y::caps) (vals:=Value.func (.yield (D+1)) #[] #[]::xs) (by simp [hxl]) hcargs hpg) (by have:=h;rw [← hy] at this;simpa only [qb8] using this) fun e s' hq=>?_
  have key:(∃ s2 x e' T fr',Le s' s2∧RV P rs s2 x∧kp e'=some T∧bp s2.hp gid=some ⟨T,fr',false⟩∧Q e' ⟨fr',fg s2.hp gid⟩)→∃ s'' x,Le s' s''∧RV P rs s'' x∧∀ β2 G2 z w2,Conc G2 β2 x z→
   dx ⟨W1,ex',G1,fun i=>if i=gid then some a.tmps.toList else R.out i,nb.add R gid (D+1) D y ak⟩ β2 G2 s''.hp w2→
   (fun (e:Ending) (w3:World)=>∃ y',e= .returned y'∧∃ β' G' hp' e' T fr',kp e'=some T∧bp hp' gid=some ⟨T,fr',false⟩∧Q e' ⟨fr',fg hp' gid⟩∧
    dx ⟨W1,ex',G1,fun i=>if i=gid then some a.tmps.toList else R.out i,nb.add R gid (D+1) D y ak⟩ β' G' hp' w3) (.returned z) w2:=by
   rintro ⟨s2,x,e',T,fr',hle,hrv,hj,hgg,hq⟩;exact ⟨s2,x,hle,hrv,fun β2 G2 z w2 _ hH=>⟨z,rfl,β2,G2,s2.hp,e',T,fr',hj,hgg,hq,hH⟩⟩
  cases e with
  |normal=>exact ⟨.inl rfl,key hq⟩
  |ret=>exact ⟨.inr rfl,key hq⟩
  |_=>exact hq.elim
 refine ⟨D+1,[{target:=.collected D,args:=#[]}],W1,{target:=.fn (.func g) xs.toArray,args:=#[.func (.yield (D+1)) #[] #[]]},W1,g,(.func (.yield (D+1)) #[] #[]::xs).toArray,W1,?_,?_,fun _ _=>trivial,?_,fun h=>by simp [jy,Fence.wide] at h,Ap (hcall.mono ?_)⟩
 ·subst hW1 hD;exact run_enterLoop_outer _ _ _ _ _
 ·simp only [resolve,hfv]
  simp [go_sem]
 ·simp [invoke,hc.ok]
 rintro e w3 ⟨y',rfl,β',G',hp',e,T,fr',hj,hgg,hq,hrh⟩;obtain ⟨f7,hnb,r2,o',ho',β2,G2,hrep⟩:=hback β' G' hp' w3 e T fr' hj hgg hq hrh;have hend:=run_endLoop (P:=P) r2 hnb;rw [← ho'] at hend;refine ⟨_,_,hend,?_⟩;have hT:∀ k,T=1000000001+k→(y.loop f7 (T - 1000000001) a.tmps.toList D).pending=Ux k:=fun k hk=>by
  rw [hk,Nat.add_sub_cancel_left];rfl
 generalize (y.loop f7 (T - 1000000001) a.tmps.toList D).pending=pp at hT ⊢;cases e with
 |normal=>
  simp only [kp,qd9] at hj;rw [hT 0 ak];exact ⟨_,_,_,hq,hrep⟩
 |ret=>
  simp only [kp,qd9] at hj;rw [hT 2 ak];exact wpIn_ret ⟨_,_,_,hq,hrep⟩
 |exit id=>
  simp only [kp,qd9] at hj;rw [hT (id+3) ak];exact wpIn_exit ⟨_,_,_,hq,hrep⟩
 |goto t=>cases hj
 |panic c=>cases hj
 |outgrown=>cases hj
theorem kX [hc:cI P g] (gid:Nat)
 (hf:(⟨fr,hp⟩:St).eval f= .fn g caps) (hgid:1000000000≤gid) (hm1:AV.bz gid fr=false) (hm2:cz gid hp=false) (hm3:AV.bz gid caps=false)
 (hfn:P.funcs[g]?=some fn0) (hn:fn0.ntmps=n) (hb:fn0.body=some c) (hrs:fn0.results=rs)
 (h:∀ y:cF,y.ps=ps→y.assign=assign→y.body=body→AW P c ⟨(.yl gid y::caps)++List.replicate (n - (caps.length+1)) .any,hp++[(gid,⟨1000000001,fr,false⟩)]⟩ (SX P rs gid Q))
 (hgidb:gid < 2000000000:=by decide):AW P (.rangeFunc f ps assign body) ⟨fr,hp⟩ Q:=zr gid hf hgid hm1 hm2 hm3 hfn hn hb hrs (h _ rfl rfl rfl) hgidb
end Go.Ab
set_option maxRecDepth 10000
namespace Go.Ab
open Go.RowKit
variable {P:Program}
def Enters (P:Program) (op:Op) (s:St) (f:FuncId) (as:List AV):Prop:=
 ∀ R β G a w,fw R β G s a w→∃ vals:List Value,Ce G β as vals∧∀ (d:Option Tmp) (ty:TypeId) (pos:String) (bF:Array Edge) (g:Option (Nat×Bool)) (w':World),Ext w w'→(execOp a.eval ⟨d,op,ty,pos,bF,g⟩).run P w'= .ok (.enter f vals.toArray) w'
variable {f:FuncId}
theorem HM {s:St} {args:Array Operand} {fx:Array TypeId} [hc:cI P f]:Enters P (.call {callee:=.value (.func f),args,argTypes:=fx}) s f (cv s args):=fun R β G a w hr=>by
 obtain ⟨l1,l2⟩:=iR hr args;refine ⟨(args.map a.eval).toList,⟨l1,l2⟩,fun d ty pos bF g w' _=>?_⟩;rw [qf5];simp [execOp,resolve,Act.eval,Deferred.ofValue,invoke,hc.ok]
variable {s:St} {fo:Operand}
theorem EA {caps:List AV} {args:Array Operand} {fx:Array TypeId} (hf:s.eval fo= .fn f caps) [hc:cI P f]:Enters P (.call {callee:=.value fo,args,argTypes:=fx}) s f (cv s args++caps):=fun R β G a w hr=>by
 have e1:=hr.eval fo;rw [hf] at e1;obtain ⟨xs,hfv,hxl,hxs⟩:=ki e1 hc.lt;obtain ⟨l1,l2⟩:=iR hr args;refine ⟨(args.map a.eval).toList++xs,⟨by simp [l1,hxl],fun j x y hx hy=>?_⟩,fun d ty pos bF g w' _=>?_⟩
 ·rcases qc4 j (cv s args).length with hj|hj
  ·rw [qe1 hj] at hx
   rw [qe1 ak] at hy;exact l2 j x y hx hy
  rw [qc7 hj] at hx;rw [qc7 ak,← l1] at hy;exact hxs _ x y hx hy
 have harr:((args.map a.eval).toList++xs).toArray=args.map a.eval++xs.toArray:=by apply Array.ext';simp
 rw [harr];simp [execOp,resolve,hfv,Deferred.ofValue,invoke,hc.ok]
variable {T:TypeId} {name:String}
theorem EB {x0 r:AV} {args:Array Operand} {fx:Array TypeId} (hf:s.eval fo= .fn (1000000000+T) [x0]) [hc:cI P f]
 (hm:∀ R β G a w,fw R β G s a w→∀ v,Conc G β x0 v→∃ u,Conc G β r u∧∀ w',Ext w w'→(method (P.types.size+Made.depth) T v name).run P w'= .ok (f,u) w'):
 Enters P (.call {callee:=.invoke fo name,args,argTypes:=fx}) s f (r::cv s args):=fun R β G a w hr=>by
 have e1:=hr.eval fo;rw [hf] at e1;obtain ⟨v,hv,hcv⟩:=Ci e1 rfl;obtain ⟨u,hu,hmt⟩:=hm R β G a w hr v hcv;obtain ⟨l1,l2⟩:=iR hr args;refine ⟨u::(args.map a.eval).toList,⟨by simp [l1],fun j x y hx hy=>?_⟩,fun d ty pos bF g w' he=>?_⟩
 ·cases j with
  |zero=>simp at hx hy;subst hx;subst hy;exact hu
  |succ j=>exact l2 j x y (by simpa using hx) (by simpa using hy)
 have hx2:(args.map a.eval).extract 0 args.size=args.map a.eval:=by apply Array.ext';simp;exact qe8 aC
 have h0:(#[Value.iface T v]++args.map a.eval)[0]?=some (Value.iface T v):=by rw [Array.getElem?_append_left aC];rfl
 have hx1:(#[Value.iface T v]++args.map a.eval).extract 1 (#[Value.iface T v]++args.map a.eval).size=args.map a.eval:=by
  first|(simp;done)|(simp;exact hx2)
 have hcm:(callMethod (.iface T v) name (args.map a.eval)).run P w'= .ok (.enter f (#[u]++args.map a.eval)) w':=by simp [callMethod,hmt w' he,hc.ok]
 have hiv:(invoke (.fn (.method name) #[]) (#[Value.iface T v]++args.map a.eval)).run P w'= .ok (.enter f (#[u]++args.map a.eval)) w':=by unfold invoke;rw [h0];dsimp only;rw [hx1];exact hcm
 have harr:(u::(args.map a.eval).toList).toArray=#[u]++args.map a.eval:=by apply Array.ext';simp
 rw [harr];simp [execOp,resolve,hv,hiv]
def HN (P:Program) (T:TypeId) (name:String):Option (FuncId×Bool):=
 match P.info? T with
 |some i=>match i.methods.find? (fun m=>m.name == name) with
  |some m=>if m.path.isEmpty then m.func else none
  |none=>none
 |none=>none
theorem uW {b:Bool} (h:HN P T name=some (f,b)):∃ (i:TypeInfo) (m:Method),P.info? T=some i∧i.methods.find? (fun m=>m.name == name)=some m∧m.path=#[]∧m.func=some (f,b):=by
 unfold HN at h;split at h
 ·rename_i i hi
  split at h
  ·rename_i m hm
   split at h
   ·rename_i hp
    exact ⟨i,m,hi,hm,by simpa using hp,h⟩
   cases h
  cases h
 cases h
variable {e:TypeId}
theorem JJ (hu:cT P T (.pointer e)) (h:HN P T name=some (f,true)) (v:Value) (w:World):(method (P.types.size+Made.depth) T v name).run P w= .ok (f,v) w:=by
 obtain ⟨i,m,hi,hm,hp,hf⟩:=uW h;have e1:P.types.size+Made.depth=(P.types.size+99)+1:=by simp [Made.depth]
 rw [e1];simp [method,typeInfo,hi,hm,hp,hf,follow,receiverAt,run_underlying hu.ok,Place.get]
variable {d:TypeDesc}
theorem JK (hu:cT P T d) (hd:(match d with| .pointer _=>false|_=>true)=true) (v:Value) (wr:Option String) (w:World):(receiverAt T (.val v) false wr).run P w= .ok v w:=by
 unfold receiverAt;rw [Sem.run_bind,run_underlying hu.ok,qb1];cases d<;>first|(cases hd;done)|rfl
theorem Cu (xt:TypeId) (ad:Addr) (a b:ByteArray) (w:World):(Builtin.ssaWrapNilChk_ #[xt] xt #[.pointer (some ad),.string a,.string b]).run P w= .ok (.pointer (some ad)) w:=rfl
theorem HO (hu:cT P T (.pointer e)) (ad:Addr) (u:Value) (wr:Option String) (w:World) (hl:(loadVar e ad).run P w= .ok u w):(receiverAt T (.val (.pointer (some ad))) false wr).run P w= .ok u w:=by
 unfold receiverAt;rw [Sem.run_bind,run_underlying hu.ok,qb1];simp only [Place.get,Sem.run_bind,Sem.run_pure,qb1];cases wr with
 |none=>simpa [asAddr] using hl
 |some name=>
  simp only [strVal];rw [Sem.run_bind,Cu,qb1];simpa [asAddr] using hl
theorem JL (hu:cT P T d) (hd:(match d with| .pointer _=>false|_=>true)=true) (h:HN P T name=some (f,false)) (v:Value) (w:World):(method (P.types.size+Made.depth) T v name).run P w= .ok (f,v) w:=by
 obtain ⟨i,m,hi,hm,hp,hf⟩:=uW h;have e1:P.types.size+Made.depth=(P.types.size+99)+1:=by simp [Made.depth]
 rw [e1];simp [method,typeInfo,hi,hm,hp,hf,follow,JK hu hd]
theorem HP (hu:cT P T (.pointer e)) (h:HN P T name=some (f,false)) (ad:Addr) (u:Value) (w:World) (hl:(loadVar e ad).run P w= .ok u w):(method (P.types.size+Made.depth) T (.pointer (some ad)) name).run P w= .ok (f,u) w:=by
 obtain ⟨i,m,hi,hm,hp,hf⟩:=uW h;have e1:P.types.size+Made.depth=(P.types.size+99)+1:=by simp [Made.depth]
 rw [e1];simp [method,typeInfo,hi,hm,hp,hf,follow,HO hu ad u _ w hl]
variable {ty:TypeId} {pos:String} {bF:Array Edge} {g:Option (Nat×Bool)} {K:St→Prop}
theorem uX {d:Tmp} {t el:TypeId} {len:Nat} {parts:Array (Nat×Operand)} {z:Value} {m bw:Nat}
 [hu:cT P t (.slice el)] [hi:dI P el z m bw] (hsm:decide (0 < len * m)=true∧decide (len * m≤16777216)=true∧decide (len * bw≤140737488355328)=true)
 (hd:rS 0 (bM s parts)=true) (hl:(bM s parts).length=len) (hok:eU (fun i=>some (i * m,m)) (len * m) (bM s parts)=true)
 (id:Nat) (hf:s.free id=true) (hm:AV.bz id ((bM s parts).flatMap fun p=>p.2.cells)=false)
 (hk:K ⟨s.fr.set d (.sl m bw id 0 len),cP s.hp id ⟨el,(bM s parts).flatMap (fun p=>p.2.cells),true⟩⟩):dJ P ⟨some d,.buildSlice t len parts,ty,pos,bF,g⟩ s K:=by
 intro R β G a w Q hr;obtain ⟨s1,s2,s3⟩:=hsm;simp only [decide_eq_true_eq] at s1 s2 s3;obtain ⟨ie,hie,hz0,hse,_⟩:=hi.ok;obtain ⟨p1,p2⟩:=mH hr parts;have hps:=nt (m:=m) (by intro i o s h;simp at h;exact h.2.symm) _ hok;have hok':eU (fun i=>some (i * m,m)) (List.replicate (len * m) AV.any).length (bM s parts)=true:=by simpa using hok
 obtain ⟨zs',e1,e2,e3⟩:=ow (G:=G) (β:=β) (place:=fun i=>some (i * m,m)) (bM s parts) _ (List.replicate (len * m) .any) ((Array.range (len * m)).map (z.cells[· % z.cells.size]!)) p1 aC hok' p2
  (fun j x y hx hy=>by
   rw [qk9] at hx;split at hx<;>simp at hx;subst hx;exact .any)
 have hfill:iu (fun i=>some (i * m)) (List.replicate (len * m) AV.any) (bM s parts)=(bM s parts).flatMap fun p=>p.2.cells:=by have:=nq (m:=m) (bM s parts) 0 [] (List.replicate (len * m) AV.any) hd aC (by simp [hl]) hps;simpa using this
 have e2':(iu (fun i=>some (i * m)) (List.replicate (len * m) AV.any) (bM s parts)).length=zs'.size:=e2;have e3':∀ (j:Nat) x y,(iu (fun i=>some (i * m)) (List.replicate (len * m) AV.any) (bM s parts))[j]?=some x→zs'[j]?=some y→Conc G β x y:=e3;rw [hfill] at e2' e3';have hrun:(Instr.buildSlice t len (parts.map fun (i,x)=>(i,a.eval x))).run P w= .ok (.slice (some ⟨w.heap.size,0,none⟩) len len) (w.alloc (.cells zs' el)):=
  run_buildSlice w t el len _ zs' ie z hu.ok hie hz0 (by rw [hse];omega) (by rw [hse];omega) (by rw [hse];exact e1)
 have hzl:zs'.size=len * m:=by
  rw [← e2'];have hes:∀ e∈(bM s parts).map (·.2),e.cells.length=m:=fun e he=>by
   obtain ⟨p,hp,rfl⟩:=qe7.1 he;exact hps p hp
  have hfm:((bM s parts).map (·.2)).flatMap AV.cells=(bM s parts).flatMap fun p=>p.2.cells:=by rw [qg9]
  rw [← hfm,kc hes];simp [hl]
 have h2:=hr.qk hf el ((bM s parts).flatMap fun p=>p.2.cells) zs' true ak (fun _=>e2') e3' hm;unfold Oper.wp;have hexec:(execOp a.eval ⟨some d,.buildSlice t len parts,ty,pos,bF,g⟩).run P w= .ok (.value (.slice (some ⟨w.heap.size,0,none⟩) len len)) (w.alloc (.cells zs' el)):=by simp only [execOp,Sem.run_bind,hrun,qb1];rfl
 rw [hexec,Oper.upon_value];have hm1:0 < m:=by
  rcases qj4 m with h|h
  ·subst h;omega
  exact h
 have hlm:len≤maxLen:=by
  have:len * 1≤len * m:=ql2 _ hm1
  simp only [maxLen];omega
 exact ⟨(Below.refl _ _).alloc (qb3 _) _,_,_,_,hk,h2.put (some d) (.sl (t:=zs'.size) aT (qb3 _) (by rw [hzl];omega) hlm s3)⟩
theorem Cv {d:Option Tmp} {op:Op} {as:List AV} {fr:List AV} {hp:Hp} {fn:Func} {c:Code} {n:Nat} {rs:Array ResultVar} (gid:Nat)
 (he:Enters P op ⟨fr,hp⟩ f as) (hf:P.funcs[f]?=some fn) (hb:fn.body=some c) (hn:fn.ntmps=n) (hrs:fn.results=rs) (hgid:1000000000≤gid) (hgidb:gid < 2000000000) (hm1:AV.bz gid fr=false) (hm2:cz gid hp=false) (hm3:AV.bz gid as=false)
 (h:AW P c ⟨as++List.replicate (n - as.length) .any,hp++[(gid,fJ fr)]⟩ (QL P rs gid d K)):ff P ⟨d,op,ty,pos,bF,g⟩ ⟨fr,hp⟩ K:=by
 intro R β G a w Q' hr;obtain ⟨vals,⟨l1,l2⟩,hrun⟩:=he R β G a w hr;unfold Oper.wp;rw [hrun d ty pos bF g w (Below.refl _ _),Oper.upon_enter];have:=tJ hr (d:=d) (K:=K) hf hb hn hrs hgid hgidb hm1 hm2 hm3 l1 l2 h;refine this.mono fun e w' ⟨y,he,hh⟩=>?_;subst he;exact hh
def EC:AV→AV
 | .agg _=>.any
 | .dC _=>.any
 |x=>x
def chunk (sz:Nat):Nat→List AV→List AV
 |0,_=>[]
 |k+1,l=>(bif Nat.beq sz 1 then EC (l.headD .any) else .agg (l.take sz))::chunk sz k (l.drop sz)
theorem xK (x:AV):(EC x).cells=[EC x]:=by cases x<;>rfl
theorem jY (sz k:Nat) (l:List AV):(chunk sz k l).length=k:=by
 induction k generalizing l with
 |zero=>rfl
 |succ k ih=>simp [chunk,ih]
theorem qC {sz:Nat}:∀ (k:Nat) (l:List AV),k * sz≤l.length→∀ e∈chunk sz k l,e.cells.length=sz
 |0,_,_,e,h=>by simp [chunk] at h
 |k+1,l,hl,e,h=>by
  have h1:sz≤l.length:=by rw [qi9] at hl;omega
  rcases qc2.1 h with rfl|h
  ·cases hs:Nat.beq sz 1 with
   |true=>simp only [cond_true,xK];exact (qb6 hs).symm
   |false=>simp only [cond_false,AV.cells,qc0];omega
  exact qC k (l.drop sz) (by rw [qi9] at hl;rw [List.length_drop];omega) e h
theorem uY {sz:Nat}:∀ (k:Nat) (l:List AV),k * sz≤l.length→∀ (j:Nat) x,((chunk sz k l).flatMap AV.cells)[j]?=some x→x= .any∨l[j]?=some x
 |0,_,_,j,x,h=>by simp [chunk] at h
 |k+1,l,hl,j,x,h=>by
  have h1:sz≤l.length:=by rw [qi9] at hl;omega
  have hrest:∀ i,((chunk sz k (l.drop sz)).flatMap AV.cells)[i]?=some x→x= .any∨l[sz+i]?=some x:=fun i hi=>by
   have:=uY k (l.drop sz) (by rw [qi9] at hl;rw [List.length_drop];omega) i x hi;rwa [qd0] at this
  simp only [chunk,qd5] at h;cases hs:Nat.beq sz 1 with
  |true=>
   have e1:=qb6 hs;subst e1;replace h:((EC (l.headD .any)).cells++(chunk 1 k (l.drop 1)).flatMap AV.cells)[j]?=some x:=h;rw [xK] at h;cases j with
   |zero=>
    have h:EC (l.headD .any)=x:=by simpa using h
    cases l with
    |nil=>simp at h1
    |cons a r=>
     replace h:EC a=x:=h;cases a<;>simp only [EC] at h<;>first|exact .inl h.symm|(right;simp [h])
   |succ j=>
    have:=hrest j (by simpa using h);rwa [Nat.add_comm] at this
  |false=>
   simp only [hs,cond_false,AV.cells] at h;rcases qc4 j sz with hj|hj
   ·rw [qe1 aO] at h
    rw [List.getElem?_take_of_lt hj] at h;exact .inr h
   rw [qc7 aO] at h;simp only [qc0,Nat.min_eq_left h1] at h;have:=hrest (j - sz) h;rwa [show sz+(j - sz)=j by omega] at this
def eK:Nat→Hp→AV→AV
 |0,_,x=>if x.gq=true then x else .any
 |n+1,hp,x=>match x with
  | .any=>.any
  | .v x=>.v x
  | .cD a b l=>.cD a b l
  | .bC l=>.bC l
  | .agg cs=>.agg (cs.map (eK n hp))
  | .dC cs=>.dC (cs.map (eK n hp))
  | .fn f cs=>.fn f (cs.map (eK n hp))
  | .yl _ _=>.any
  | .ptr id off=>match bp hp id with
   |some ⟨T,cs,_⟩=>if T < 1000000000 then .bC ((cs.drop off).map (eK n hp)) else .any
   |none=>.any
  | .sl sz bw id off k=>match bp hp id with
   |some ⟨T,cs,_⟩=>if T < 1000000000∧off+k * sz≤cs.length then .cD sz bw (chunk sz k ((cs.drop off).map (eK n hp))) else .any
   |none=>.any
def seen (w:World):bI:=fun b=>w.heap[b]?
theorem xL {w:World} {b t:Nat} {arr:Array Value} {f:Nat×Nat} (h:w.heap[b]?=some (.cells arr T f)) (off j:Nat):ep (seen w) ((⟨b,off,none⟩:Addr).add j)=arr[off+j]?:=by
 rw [Addr.fM];unfold ep seen;simp [h]
theorem uZ {R:Rg} {β:c9} {G:bI} {hp:Hp} {w:World} (h:dx R β G hp w):∀ (n:Nat) (x:AV) (y:Value),Conc G β x y→Conc (seen w) na (eK n hp x) y
 |0,x,y,hc=>by
  unfold eK;split
  ·rename_i hp';exact (hc.oq hp' na).mono fun b o hb=>h.gs b o hb
  exact .any
 |n+1,x,y,hc=>by
  have hs:∀ b o,G b=some o→seen w b=some o:=fun b o hb=>h.gs b o hb;have hl:∀ {cs:List AV} {xs:List Value},(∀ (j:Nat) x y,cs[j]?=some x→xs[j]?=some y→Conc G β x y)→∀ (j:Nat) x y,(cs.map (eK n hp))[j]?=some x→xs[j]?=some y→Conc (seen w) na x y:=fun {cs xs} hh j x y hx hy=>by
   rw [qc9,qa6] at hx;obtain ⟨u,hu,rfl⟩:=hx;exact uZ h n u y (hh j u y hu hy)
  cases hc with
  |any=>exact .any
  |v=>exact .v
  |agg xs hl' hh=>exact .agg xs (by simpa using hl') (hl hh)
  |dC xs hl' hh=>exact .dC xs (by simpa using hl') (hl hh)
  |fn xs hf hl' hh=>exact .fn xs hf (by simpa using hl') (hl hh)
  |sZ hh=>exact .sZ (uZ h n _ _ hh)
  |yl _=>exact .any
  |cD ys hu hl' hc hb hA hr hs'=>exact .cD ys hu hl' hc hb hA (fun j y hy=>let ⟨a,ha,hg⟩:=hr j y hy;⟨a,ha,jO hs hg⟩) fun j x y hx hy=>(hs' j x y hx hy).mono hs
  |bC ys hl' hr hs'=>exact .bC ys hl' (fun j y hy=>jO hs (hr j y hy)) fun j x y hx hy=>(hs' j x y hx hy).mono hs
  |@ptr _ id off b t hβ=>
   simp only [eK];split
   ·rename_i T cs fl hb
    split
    ·rename_i hT
     obtain ⟨g1,g2,arr,g3,g4,g5,g6,g7⟩:=h.block hb hβ;have hlen:cs.length≤arr.size:=by rw [g4];exact g5
     refine .bC ((arr.toList.drop off).take (cs.length - off)) aO (fun j y hy=>?_) (hl fun j x y hx hy=>?_)
     ·rw [xL (t:=t) g3]
      rw [qc3] at hy;split at hy
      ·rw [qd0] at hy;simpa using hy
      cases hy
     rw [qd0] at hx;rw [qc3] at hy;split at hy
     ·rw [qd0] at hy;exact g7 _ x y hx (by simpa using hy)
     cases hy
    exact .any
   exact .any
  |@lU _ sz bw id hβ=>
   simp only [eK];split
   ·split
    ·simp only [chunk]
     exact Conc.cD (A:=none) (c:=0) [] aC aC aC aC aC aC aC
    exact .any
   exact .any
  |@sl _ sz bw id off k c b t hβ hn ht hm hb'=>
   simp only [eK];split
   ·rename_i T cs fl hb
    split
    ·rename_i hT
     obtain ⟨g1,g2,arr,g3,g4,g5,g6,g7⟩:=h.block hb hβ;have hlen:cs.length≤arr.size:=by rw [g4];exact g5
     have hdl:k * sz≤((cs.drop off).map (eK n hp)).length:=by simp;omega
     have key:=Conc.cD (G:=seen w) (β:=na) (sz:=sz) (bw:=bw) (es:=chunk sz k ((cs.drop off).map (eK n hp))) (A:=some ⟨b,off,none⟩) (c:=c) ((arr.toList.drop off).take (k * sz))
      (qC k _ hdl) (by rw [jY];simp;omega) (by rw [jY];exact hn) (by rw [jY];exact hb') (fun _=>by simp) (fun j y hy=>⟨_,rfl,by
       rw [xL (t:=t) g3];rw [qc3] at hy;split at hy
       ·rw [qd0] at hy;simpa using hy
       ·cases hy⟩) (fun j x y hx hy=>by
       rcases uY k _ hdl j x hx with rfl|hx
       ·exact .any
       refine hl (cs:=cs.drop off) (xs:=(arr.toList.drop off).take (k * sz)) (fun j x y hx hy=>?_) j x y hx hy;rw [qd0] at hx;rw [qc3] at hy;split at hy
       ·rw [qd0] at hy;exact g7 _ x y hx (by simpa using hy)
       cases hy)
     rw [jY] at key;exact key
    exact .any
   exact .any
mutual
def AV.clean:AV→Bool
 | .any=>true
 | .v _=>true
 | .ptr _ _=>true
 | .sl _ _ _ _ _=>true
 | .agg cs=>AV.nU cs
 | .dC cs=>AV.nU cs
 | .fn _ cs=>AV.nU cs
 | .cD _ _ es=>es.isEmpty
 | .bC _=>false
 | .yl _ y=>y.mp
def AV.nU:List AV→Bool
 |[]=>true
 |x::r=>AV.clean x&&AV.nU r
end
theorem kY:∀ {cs:List AV} {j:Nat} {x:AV},AV.nU cs=true→cs[j]?=some x→AV.clean x=true
 |[],_,_,_,h=>by simp at h
 |c::cs,0,x,h,hx=>by simp at hx;subst hx;simp [AV.nU] at h;exact h.1
 |c::cs,j+1,x,h,hx=>by simp at hx;simp [AV.nU] at h;exact kY h.2 hx
variable {x:AV}
theorem Conc.clean {G G':bI} {β:c9} {y:Value} (h:Conc G β x y) (hc:x.clean=true):Conc G' β x y:=by
 induction h with
 |any=>exact .any
 |v=>exact .v
 |agg xs hl _ ih=>exact .agg xs hl fun j x y hx hy=>ih j x y hx hy (kY (by simpa [AV.clean] using hc) hx)
 |dC xs hl _ ih=>exact .dC xs hl fun j x y hx hy=>ih j x y hx hy (kY (by simpa [AV.clean] using hc) hx)
 |fn xs hf hl _ ih=>exact .fn xs hf hl fun j x y hx hy=>ih j x y hx hy (kY (by simpa [AV.clean] using hc) hx)
 |sZ _ ih=>exact .sZ (ih (by simpa [AV.clean,AV.nU] using hc))
 |ptr h=>exact .ptr h
 |lU h=>exact .lU h
 |sl h hn ht hm hb=>exact .sl h hn ht hm hb
 |yl h=>exact .yl h
 |@cD β sz bw es A c ys hu hl hcc hb hA hr hs _=>
  simp only [AV.clean,List.isEmpty_iff] at hc;subst hc
  have:ys=[]:=by simpa using hl
  subst this;exact Conc.cD [] aC aC hcc hb aC aC aC
 |bC _ _ _ _=>cases hc
def tK:Hp→Bool
 |[]=>true
 |(_,b)::r=>AV.nU b.cs&&tK r
theorem vT:∀ {hp:Hp} {i:Nat} {bk:iB},tK hp=true→bp hp i=some bk→AV.nU bk.cs=true
 |[],_,_,_,h=>by simp [bp] at h
 |(j,b)::r,i,bk,h,hb=>by
  simp only [tK,qa1] at h;simp only [bp] at hb;split at hb
  ·injection hb with hb;subst hb;exact h.1
  exact vT h.2 hb
variable {d:Option Tmp} {op:Op} {f:FuncId} {as:List AV} {ty:TypeId} {pos:String} {bF:Array Edge} {g:Option (Nat×Bool)} {s:St} {K:St→Prop}
theorem vU {zs:List AV} {ids:List Nat} {Q:AV→Hp→Prop} (n:Nat)
 (he:Enters P op s f as) (hz:as.map (eK n s.hp)=zs) (h:da P f zs ids Q) (hfree:∀ id∈ids,s.free id=true) (hk:∀ x hp,Q x hp→(x.clean&&tK hp)=true∧K ⟨(s.put d x).fr,hp++s.hp⟩):dJ P ⟨d,op,ty,pos,bF,g⟩ s K:=by
 intro R β G a w Q' hr;obtain ⟨vals,⟨l1,l2⟩,hrun⟩:=he R β G a w hr;unfold Oper.wp;rw [hrun d ty pos bF g w (Below.refl _ _),Oper.upon_enter];have hzl:w5 (seen w) zs vals:=by subst hz;refine ⟨by simpa using l1,fun j x y hx hy=>?_⟩;rw [qc9,qa6] at hx;obtain ⟨u,hu,rfl⟩:=hx;exact uZ hr.hp n u y (l2 j u y hu hy)
 have:=h (fun id hid=>iD (hfree id hid)) (seen w) w vals (fun b o hb=>hb) hzl;refine this.mono fun e w' ⟨y,G',β',x,hp',he,hQ,hwi,hcx,hrh⟩=>?_;subst he;obtain ⟨hcl,hkk⟩:=hk x hp' hQ;simp only [qa1] at hcl;have hext:=dx.ext hrh;let G2:bI:=fun b=>if b < w.heap.size then G b else G' b
 have g2a:∀ b,b < w.heap.size→G2 b=G b:=fun b hb=>by simp [G2,hb]
 have g2b:∀ b,w.heap.size≤b→G2 b=G' b:=fun b hb=>by simp only [G2];rw [if_neg ak]
 have hrh2:dx ⟨w,fun _=>False,G,fun _=>none,nb.no⟩ β' G2 hp' w':=by
  refine ⟨fun b o hb=>?_,fun id bk hi=>?_,hrh.inj,⟨hrh.keeps.os,hrh.keeps.tape,hrh.keeps.output,hrh.keeps.size,hrh.keeps.block⟩,fun b hb=>?_,hrh.kL,hrh.iC⟩
  ·by_cases hlt:b < w.heap.size
   ·rw [g2a b hlt] at hb
    rw [hext.block b hlt];exact hr.hp.gs b o hb
   rw [g2b b ak] at hb;exact hrh.gs b o hb
  ·have hb:=hrh.blk id bk hi
   have hcs:=vT hcl.2 hi;unfold bZ at hb ⊢;cases hβ:β' id with
   |no=>rw [hβ] at hb;exact hb
   |nil=>rw [hβ] at hb;exact hb
   |«at» b t=>
    rw [hβ] at hb;obtain ⟨g1,g2,arr,g3,g4,g5,g6,g7⟩:=hb;have hge:w.heap.size≤b:=g2.elim (fun h=>h) (fun h=>h.elim);exact ⟨by rw [g2b b hge];exact g1,.inl hge,arr,g3,g4,g5,g6,fun j u v hu hv=>(g7 j u v hu hv).clean (kY hcs hu)⟩
   |gh o=>
    rw [hβ] at hb;rcases hb with ⟨_,h0,_⟩|⟨b,es,clock,e0,e1,e2,e3,e4,e5⟩
    ·cases h0
    have hge:w.heap.size≤b:=e2.elim (fun h=>h) (fun h=>h.elim);exact .inr ⟨b,es,clock,e0,e1,.inl hge,by rw [g2b b hge];exact e3,e4,fun j u v hu hv=>(e5 j u v hu hv).clean (kY hcs hu)⟩
  by_cases hlt:b < w.heap.size
  ·rw [g2a b hlt] at hb;exact .inl hb
  exact .inr (.inl (by show w.heap.size≤b;omega))
 obtain ⟨β2,G3,h3⟩:=w6 (d:=d) hr hfree hwi (hcx.clean (G':=G2) hcl.1) hrh2;exact ⟨hext,β2,G3,_,hkk,h3⟩
theorem ED
 (he:Enters P op s f as) (h:bm P f as (fun r=>r=x)) (hp:AV.cu as=true) (hk:K (s.put d x)):dJ P ⟨d,op,ty,pos,bF,g⟩ s K:=by
 intro R β G a w Q' hr;obtain ⟨vals,⟨l1,l2⟩,hrun⟩:=he R β G a w hr;unfold Oper.wp;rw [hrun d ty pos bF g w (Below.refl _ _),Oper.upon_enter];have hcl:w5 G as vals:=⟨l1,fun j x y hx hy=>(l2 j x y hx hy).oq (gB hp hx) na⟩
 refine (h G w vals hr.hp.gs hcl).mono fun e w' ⟨y,G',x',he,hQ,hcx,hd,hG',hext⟩=>?_;subst he hQ;obtain ⟨G'',hr',hm⟩:=hr.later hext hG' hd;exact ⟨hext,β,G'',_,hk,hr'.put d ((hcx.mono hm).free β)⟩
variable {ops:Array Oper} {hs:List Nat} {listed:Array Bool}
theorem xM {f:Nat} (hne:Region.ready .any ops listed≠[]) (h:∀ i∈Region.ready .any ops listed,uM P ops hs f listed i s K):dt P ops hs (f+1) listed s K:=by
 intro R β G a w hrep hcl;exact ⟨fun h=>absurd h hne,fun k hk=>h k hk R β G a w hrep hcl hk⟩
variable {j t:Nat} {b:Bool} {u:Value}
theorem FP {f:Nat} {op:Go.Op} {i:Nat} (hi:ops[i]?=some ⟨d,op,ty,pos,bF,some (j,b)⟩)
 (ht:(ops[j]?).bind (·.dst)=some t) (hc:s.fr[t]?=some (.v u)) (hu:(match u with| .bool c=>c != b|_=>true)=true)
 (h:dt P ops hs f (listed.setIfInBounds i true) (s.put d (.v undef)) K):uM P ops hs f listed i s K:=by
 intro R β G a w hrep hcl hmem;have hg:=ix hrep ht hc;have hw:Region.wanted (⟨d,op,ty,pos,bF,some (j,b)⟩:Oper) (yielded ops a.tmps)=false:=by simp only [Region.wanted,hg];cases u<;>simp at hu ⊢;exact hu
 unfold wpOp;simp only [hi];rw [if_neg (by rw [hw];simp)];exact ⟨fun _=>Below.refl _ _,h R β G _ w (hrep.put d .v) (hcl.set hmem)⟩
theorem sy {all:Array Oper} {rest:List Oper}
 (ht:(all[j]?).bind (·.dst)=some t) (hc:s.fr[t]?=some (.v u)) (hu:(match u with| .bool c=>c != b|_=>true)=true) (h:dj P all rest (s.put d (.v undef)) K):dj P all (⟨d,op,ty,pos,bF,some (j,b)⟩::rest) s K:=by
 intro ro R β G a w hr;have hg:=ix hr ht hc;have hw:Region.wanted (⟨d,op,ty,pos,bF,some (j,b)⟩:Oper) (yielded all a.tmps)=false:=by simp only [Region.wanted,hg];cases u<;>simp at hu ⊢;exact hu
 simp only [wpListIn,hw,qa8,if_false];exact ⟨fun _ _=>trivial,h ro R β G _ w (hr.put d .v)⟩
end Go.Ab
