/- Part of a proof: of two right answers both have a plan, at one cost, or none. No condition. -/
import Derived.ChangeKeysEq
import Derived.Laws.BitsLemmas
import Derived.Laws.StructEq
import Derived.MapKept
import Derived.OrdersIn
import Derived.Test.YtkbiagkbmodgdaaGreatZabk
import Derived.WideKeyRuns
set_option linter.unusedSimpArgs false
set_option linter.unusedVariables false
set_option maxRecDepth 10000
namespace Go.Ab
open Go.RowKit
variable {P:Program}
@[go_sem] theorem IW (i g:Nat) (y:cq):AV.cv i (.yl g y)=(g == i):=rfl
theorem uH {P:Program} {rs:Array ResultVar} {ids pins recs:List Nat} {Q:AV→Hp→Prop} {e:Exit} {s:St} {x:AV} (hrv:RV P rs s x) (he:e= .ret∨e= .normal) (hg:aW s.hp 1000000000=some (eO (pins.map fun i=>AV.ptr i 0)))
  (hw:(AV.rW ids x&&pB ids (fy s.hp 1000000000))=true) (hrk:za (fy s.hp 1000000000) recs=true) (hQ:Q x (fy s.hp 1000000000)):iO P rs ids pins recs Q e s:=
 bH (Le.refl _) hrv (fun i bk hi=>by
  rw [ik] at hi
  split at hi
  ·cases hi
  ·exact hi) hg hw hQ he hrk
def jS:Hp→Hp→Hp
 |[],h=>h
 |(i,b)::r,h=>jS r (cK h i b)
@[go_sem] theorem D9 (h:Hp):jS [] h=h:=rfl
@[go_sem] theorem Bj (i:Nat) (b:fZ) (r h:Hp):jS ((i,b)::r) h=jS r (cK h i b):=rfl
theorem bU {P:Program} {ι:Type} {c:Code} {fr:List AV} {hp:Hp} {Q:Exit→St→Prop} (ws:List Nat) (C:ι→Prop) (μ:ι→Nat) (sl:ι→List (Nat×AV)) (ms:ι→Hp) (i0:ι) (h0:C i0)
  (hs:Le ⟨fr,hp⟩ ⟨gk (sl i0) (jw ws fr),jS (ms i0) hp⟩)
  (hr:∀ i,C i→∀ K:St→Prop,(∀ s',(∃ j,C j∧μ j < μ i∧Le s' ⟨gk (sl j) (jw ws fr),jS (ms j) hp⟩)→K s')→AW P c ⟨gk (sl i) (jw ws fr),jS (ms i) hp⟩ (sO K Q)):AW P (.loop c) ⟨fr,hp⟩ Q:=
 bO ws C μ sl (fun i=>jS (ms i) hp) i0 h0 hs hr
theorem uI {f:FuncId} {args args':List AV} {hp:Hp} {news pins:List Nat} {Q:AV→Hp→Prop} (h:cO P f args hp news pins Q) (hl:uG args' args):cO P f args' hp news pins Q:=by
 unfold cO at h ⊢
 exact fun hle β G w vals out lp hH hno hv=>h hle β G w vals out lp hH hno ⟨by rw [← (jj hl).1];exact hv.1,fun j x y hx hy=>by
  have hj:j < args'.length:=by have:=bS hx;rw [(jj hl).1];exact this
  exact (jj hl).2 j _ _ (List.getElem?_eq_getElem hj) hx G β y (hv.2 j _ y (List.getElem?_eq_getElem hj) hy)⟩
theorem IX {ops:Array Oper} {hs:List Nat} {f:Nat} {listed:Array Bool} {s:St} {K:St→Prop} {d:Option Tmp} {op:Go.Op} {ty:TypeId} {pos:String} {bC:Array Edge} {j t:Nat} {b:Bool} {i:Nat} (hi:ops[i]?=some ⟨d,op,ty,pos,bC,some (j,b)⟩)
  (ht:(ops[j]?).bind (·.dst)=some t) (hc:s.fr[t]?=some (.bool b))
  (h:∀ K':St→Prop,(∀ s',dg P ops hs f (listed.setIfInBounds i true) s' K→K' s')→dz P ⟨d,op,ty,pos,bC,none⟩ s K'):sh P ops hs f listed i s K:=by
 intro R β G a w hrep hcl hmem
 have g1:=fX hrep ht hc
 have h2:=h _ (fun _ h=>h)
 have h3:dz P ⟨d,op,ty,pos,bC,some (j,b)⟩ s (fun s'=>dg P ops hs f (listed.setIfInBounds i true) s' K):=by
  unfold dz at h2 ⊢;exact h2
 unfold dz at h3
 unfold wpOp
 simp only [hi]
 rw [if_pos (by simp [Region.wanted,g1])]
 exact .inl (Oper.wp_mono (fun a' w' ⟨hx,β',G',s',hs',hr'⟩=>⟨fun _=>hx,(by unfold dg at hs';exact hs' R β' G' a' w' hr' (hcl.set hmem))⟩) (h3 R β G a w _ hrep))
theorem IY {ops:Array Oper} {hs:List Nat} {f:Nat} {listed:Array Bool} {s:St} {K:St→Prop} {d:Option Tmp} {op:Go.Op} {ty:TypeId} {pos:String} {bC:Array Edge} {j t:Nat} {b:Bool} {i:Nat} (hi:ops[i]?=some ⟨d,op,ty,pos,bC,some (j,b)⟩) (he:Go.Ab.early ops hs i=false)
  (ht:(ops[j]?).bind (·.dst)=some t) (hc:s.fr[t]?=some (.bool b))
  (h:∀ K':St→Prop,(∀ s',dg P ops hs f (listed.setIfInBounds i true) s' K→K' s')→eR P ⟨d,op,ty,pos,bC,none⟩ s K'):sh P ops hs f listed i s K:=by
 intro R β G a w hrep hcl hmem
 have g1:=fX hrep ht hc
 have h2:=h _ (fun _ h=>h)
 have h3:eR P ⟨d,op,ty,pos,bC,some (j,b)⟩ s (fun s'=>dg P ops hs f (listed.setIfInBounds i true) s' K):=by
  unfold eR at h2 ⊢;exact h2
 unfold eR at h3
 unfold wpOp
 simp only [hi]
 rw [if_pos (by simp [Region.wanted,g1])]
 exact .inl (Oper.wp_mono (fun a' w' ⟨β',G',s',hs',hr'⟩=>⟨fun h=>(by rw [he] at h;cases h),(by unfold dg at hs';exact hs' R β' G' a' w' hr' (hcl.set hmem))⟩) (h3 R β G a w _ hrep))
@[go_sem] theorem Nv (cs:List AV):(eO cs).cs=cs:=rfl
theorem gB {all:Array Oper} {rest:List Oper} {d:Option Tmp} {op:Op} {ty:TypeId} {pos:String} {bC:Array Edge} {s:St} {K:St→Prop} {j t:Nat} {b:Bool}
  (ht:(all[j]?).bind (·.dst)=some t) (hc:s.fr[t]?=some (.bool b)) (h:db P all (⟨d,op,ty,pos,bC,none⟩::rest) s K):db P all (⟨d,op,ty,pos,bC,some (j,b)⟩::rest) s K:=by
 intro ro R β G a w hr
 have h1:=h ro R β G a w hr
 have g1:=fX hr ht hc
 have w1:Region.wanted (⟨d,op,ty,pos,bC,none⟩:Oper) (yielded all a.tmps)=true:=rfl
 have w2:Region.wanted (⟨d,op,ty,pos,bC,some (j,b)⟩:Oper) (yielded all a.tmps)=true:=by simp [Region.wanted,g1]
 simp only [wpListIn,w1,if_true] at h1
 simp only [wpListIn,w2,if_true]
 exact h1
@[go_sem] theorem Nw (id:Nat) (kv:List (Int×Int)):AV.bz id (O4 kv)=false:=eU id _ kv fun _=>rfl
@[go_sem] theorem MR (id:Nat) (kv:List (Int×Int)):AV.ct id (O4 kv)=O4 kv:=gY id _ kv fun _=>rfl
theorem wI:∀ (l:List AV) (i:Nat),mq l (l.set i .any)
 |[],_=>.nil
 |x::l,0=>.drop (kH _)
 |x::l,i+1=>.keep (wI l i)
theorem mJ {c:Code} {Q:Exit→St→Prop} {hp:Hp}:∀ (ws:List Nat) {fr:List AV},AW P c ⟨jw ws fr,hp⟩ Q→AW P c ⟨fr,hp⟩ Q
 |[],_,h=>h
 |i::r,fr,h=>cT (dW (wI fr i) (fun _ _ h=>h)) (mJ r h)
def Lv (P:Program) (rs:Array ResultVar) (id:Nat) (pin:AV) (Q:AV→fZ→Prop):Exit→St→Prop
 | .normal,s| .ret,s=>∃ s' x bk',Le s s'∧RV P rs s' x∧aW s'.hp id=some bk'∧aW s'.hp 1000000000=some (eO [pin])∧uF id x∧AV.cj bk'.cs=true∧Q x bk'
 |_,_=>False
theorem FO {G G2:bE} {β β2:cM} {sz bw id off n:Nat} {v:Value} (h:Conc G β (.sl sz bw id off n) v) (h2:Conc G2 β2 (.sl sz bw id off n) v):β2 id=β id:=by
 cases h with
 |j5 h=>cases h2 with
  |j5 h'=>rw [h,h']
 |sl h hn ht hm hb=>cases h2 with
  |sl h' hn' ht' hm' hb'=>rw [h,h',← ht,← ht']
theorem FP {f:FuncId} {fn:Func} {c:Code} {args:List AV} {id sz bw off m:Nat} {bk:fZ} {Q:AV→fZ→Prop} {n:Nat} {rs:Array ResultVar} (hf:P.funcs[f]?=some fn) (hb:fn.body=some c) (hn:fn.ntmps=n) (hrs:fn.results=rs)
  (hid:id < 1000000000) (hg:(AV.bz 1000000000 (.sl sz bw id off m::args)|| cI 1000000000 [(id,bk)])=false)
  (h:AW P c ⟨(.sl sz bw id off m::args)++List.replicate (n - (AV.sl sz bw id off m::args).length) .any,[(id,bk),(1000000000,eO [.sl sz bw id off m])]⟩ (Lv P rs id (.sl sz bw id off m) Q)):dP P f (.sl sz bw id off m::args) id bk Q:=by
 intro β G w vals out lp hH ⟨hl,hc⟩
 subst hn
 simp only [Bool.or_eq_false_iff] at hg
 obtain ⟨hg1,hg2⟩:=hg
 match vals,hl,hc with
 |v::vs,hl,hc=>
 have hv:=hc 0 _ v rfl rfl
 have hpm:AV.bz 1000000000 [AV.sl sz bw id off m]=false:=by
  simp only [AV.bz,Bool.or_eq_false_iff] at hg1 ⊢
  exact ⟨hg1.1,trivial⟩
 have hH1:=qY (lp':=lp) hH 1000000000 1000000000 none (Nat.le_refl _) aw (Nat.le_refl _) (fr:=[AV.sl sz bw id off m]) (tm:=[v]) rfl (fun j x y hx hy=>by
  match j,hx,hy with
  |0,hx,hy=>simp at hx hy;subst hx;subst hy;exact hv
  |j+1,hx,hy=>simp at hx) hpm hg2 (fun _ _=>rfl) (Nat.sub_self _)
 have hne:id≠1000000000:=by omega
 have hβ1:(β.set 1000000000 (.gh none)) id=β id:=by simp [cM.set,hne]
 have hc1:∀ (j:Nat) x y,(AV.sl sz bw id off m::args)[j]?=some x→(v::vs)[j]?=some y→Conc G (β.set 1000000000 (.gh none)) x y:=fun j x y hx hy=>(hc j x y hx hy).gu (dC hg1 hx) _
 refine fU (R:=⟨w,ji β id,G,fun i=>if i=1000000000 then some [v] else out i,lp⟩) (β:=β.set 1000000000 (.gh none)) (G:=G) hf hb hrs (iR hl hc1 hH1) h fun e s' hq=>?_
 have key:(∃ s'' x bk',Le s' s''∧RV P rs s'' x∧aW s''.hp id=some bk'∧aW s''.hp 1000000000=some (eO [AV.sl sz bw id off m])∧uF id x∧AV.cj bk'.cs=true∧Q x bk')→
   ∃ s'' x,Le s' s''∧RV P rs s'' x∧∀ β2 G2 y w2,Conc G2 β2 x y→c9 ⟨w,ji β id,G,fun i=>if i=1000000000 then some [v] else out i,lp⟩ β2 G2 s''.hp w2→
   (fun (e:Ending) (w':World)=>∃ y G' x bk',e=Ending.returned y∧Q x bk'∧uF id x∧AV.cj bk'.cs=true∧Conc G' β x y∧c9 ⟨w,ji β id,G,out,lp⟩ β G' [(id,bk')] w') (.returned y) w2:=by
  rintro ⟨s'',x,bk',hle,hrv,hbk,hgh,ho,hpu,hQ⟩
  refine ⟨s'',x,hle,hrv,fun β2 G2 y w2 hcy hH2=>?_⟩
  obtain ⟨o,ho',h7⟩:=KK hH2 hgh
  rcases h7 with ⟨outs,k0,_,_,_,k4⟩|⟨_,_,_,_,⟨_,_,h8⟩,_⟩
  rotate_left
  ·omega
  simp only [if_true] at k0
  injection k0 with k0
  subst k0
  have hpv:=k4 0 (AV.sl sz bw id off m) v (by simp [eO]) ax
  have e:=FO hv hpv
  have hcell:∀ u∈bk'.cs,∀ z,Conc G2 β2 u z→Conc G2 β u z:=fun u hu z hz=>by
   obtain ⟨j,hj⟩:=List.getElem?_of_mem hu
   exact hz.mu (fw hpu hj) β
  refine ⟨y,G2,x,bk',rfl,hQ,ho,hpu,hcy.ext (fun j hj=>?_) (fun _ _ h=>h),hH2.gs,fun i b hi=>?_,fun i j b t t' hi hj _ _=>?_,⟨hH2.keeps.os,hH2.keeps.tape,hH2.keeps.output,hH2.keeps.size,hH2.keeps.block⟩,hH2.js,hH.jv,iy.one⟩
  ·by_cases hji:j=id
   ·subst hji;exact e.symm
   ·rw [ho j hji] at hj;cases hj
  ·obtain ⟨rfl,rfl⟩:=e9 hi
   have:=hH2.blk _ _ hbk
   unfold bW at this ⊢
   rw [← e]
   cases hβ:β2 id with
   |no=>rw [hβ] at this;exact this
   |nil=>rw [hβ] at this;exact this
   |«at» b t=>
    rw [hβ] at this
    obtain ⟨g1,g2,arr,g3,g4,g5,g6,g7⟩:=this
    exact ⟨g1,g2,arr,g3,g4,g5,g6,fun j u z hu hz=>hcell u (List.mem_of_getElem? hu) z (g7 j u z hu hz)⟩
   |gh o=>
    rw [hβ] at this
    rcases fv this (fun _ _ h=>h) hcell with ⟨outs,k0,k1,k2,k3⟩|hm
    ·refine .inl ⟨outs,by simpa [hne] using k0,k1,?_,k3⟩
     cases o with
     |none=>exact k2
     |some p=>exact k2
    ·exact .inr hm
  ·obtain ⟨x,hx⟩:=Option.isSome_iff_exists.1 hi
   obtain ⟨y,hy⟩:=Option.isSome_iff_exists.1 hj
   exact (e9 hx).1.symm.trans (e9 hy).1
 cases e with
 |normal=>exact ⟨.inl rfl,key hq⟩
 |ret=>exact ⟨.inr rfl,key hq⟩
 |_=>exact hq.elim
theorem uJ {f:FuncId} {fn:Func} {c:Code} {args fr:List AV} {id sz bw off m:Nat} {bk:fZ} {Q:AV→fZ→Prop} {n:Nat} {rs:Array ResultVar} (hf:P.funcs[f]?=some fn) (hn:fn.ntmps=n)
  (h:AW P c ⟨fr,[(id,bk),(1000000000,⟨1000000000,[.sl sz bw id off m],false⟩)]⟩ (Lv P rs id (.sl sz bw id off m) Q)) (hb:fn.body=some c:=by rfl) (hrs:fn.results=rs:=by rfl) (hid:id < 1000000000:=by decide)
  (hg:(AV.bz 1000000000 (.sl sz bw id off m::args)|| cI 1000000000 [(id,bk)])=false:=by first|rfl|(simp only [go_sem,Nat.reduceBEq,Bool.or_self,Bool.or_false,Bool.false_or];done))
  (he:(.sl sz bw id off m::args)++List.replicate (n - (AV.sl sz bw id off m::args).length) .any=fr:=by simp only [go_sem,Nat.reduceAdd,Nat.reduceSub,List.replicate_succ,List.replicate_zero];exact rfl):dP P f (.sl sz bw id off m::args) id bk Q:=
 FP hf hb hn hrs hid hg (by rw [he];exact h)
theorem oV {rs:Array ResultVar} {id:Nat} {pin:AV} {Q:AV→fZ→Prop} {e:Exit} {s s':St} {x:AV} {bk':fZ} (hle:Le s s') (hrv:RV P rs s' x) (hbk:aW s'.hp id=some bk') (hg:aW s'.hp 1000000000=some ⟨1000000000,[pin],false⟩)
  (ho:uF id x) (hpu:AV.cj bk'.cs=true) (hQ:Q x bk') (he:e= .ret∨e= .normal:=by first|exact .inl rfl|exact .inr rfl):Lv P rs id pin Q e s:=by
 have:∃ s' x bk',Le s s'∧RV P rs s' x∧aW s'.hp id=some bk'∧aW s'.hp 1000000000=some (eO [pin])∧uF id x∧AV.cj bk'.cs=true∧Q x bk':=⟨s',x,bk',hle,hrv,hbk,hg,ho,hpu,hQ⟩
 rcases he with rfl|rfl<;>exact this
theorem oW (n:Int) (h₀:0≤n) (h₁:n < 2 ^ 32):IntKind.u32.wrap n=n:=by rw [IntKind.wrap_u32];omega
theorem wa {a:Nat} {x:Int} (hx:0≤x) (hx2:x≤31) (ha:a < 2 ^ x.toNat):bits .or .u32 (a:Int) (1 * 2 ^ x.toNat)=((a+2 ^ x.toNat:Nat):Int):=by
 have h1:2 ^ x.toNat < 2 ^ 32:=Nat.pow_lt_pow_right aw aj
 have e:(1 * 2 ^ x.toNat:Int)=((2 ^ x.toNat:Nat):Int):=by rw [Int.one_mul,Int.natCast_pow];rfl
 rw [e,(bits_nat .u32 32 aw oW _ _ aj h1).2]
 have:=Nat.two_pow_add_eq_or_of_lt ha 1
 rw [Nat.mul_one] at this
 rw [Nat.or_comm,← this,Nat.add_comm]
end Go.Ab
set_option maxRecDepth 10000
namespace Go.Ab
open Go.RowKit
variable {P:Program}
section
variable {κ:Type} [DecidableEq κ] {α:Type}
def iw:List (κ×α)→κ→Nat→Option (Nat×α)
 |[],_,_=>none
 |p::r,k,i=>if p.1=k then some (i,p.2) else iw r k (i+1)
def lk:List (κ×α)→κ→Option α
 |[],_=>none
 |p::r,k=>if p.1=k then some p.2 else lk r k
def jt:List (κ×α)→κ→α→List (κ×α)
 |[],k,v=>[(k,v)]
 |p::r,k,v=>if p.1=k then (p.1,v)::r else p::jt r k v
def tB:List (κ×α)→κ→List (κ×α)
 |[],_=>[]
 |p::r,k=>if p.1=k then r else p::tB r k
theorem qZ:∀ (kv:List (κ×α)) (k:κ) (i:Nat),(iw kv k i).map (·.2)=lk kv k
 |[],_,_=>rfl
 |p::r,k,i=>by
  rw [iw,lk]
  split
  ·rfl
  ·exact qZ r k (i+1)
theorem lK:∀ (kv:List (κ×α)) (k:κ) (v:α) (k':κ),lk (jt kv k v) k'=if k'=k then some v else lk kv k'
 |[],k,v,k'=>by
  simp only [jt,lk]
  by_cases h:k=k'
  ·rw [if_pos h,if_pos h.symm]
  ·rw [if_neg h,if_neg (Ne.symm h)]
 |p::r,k,v,k'=>by
  rw [jt]
  split
  ·rename_i h
   subst h
   simp only [lk]
   by_cases h2:p.1=k'
   ·rw [if_pos h2,if_pos h2.symm]
   ·rw [if_neg h2,if_neg h2,if_neg (Ne.symm h2)]
  ·rename_i h
   simp only [lk]
   rw [lK r k v k']
   by_cases h2:p.1=k'
   ·rw [if_pos h2,if_pos h2,if_neg (fun e=>h (h2.trans e))]
   ·rw [if_neg h2,if_neg h2]
def rX (kA:κ→AV) (kv:List (κ×AV)):List AV:=kv.flatMap fun p=>[kA p.1,p.2]
inductive pY (G:bE) (β:cM):List (κ×AV)→List (κ×Value)→Prop
 |nil:pY G β [] []
 |cons {k:κ} {x:AV} {y:Value} {kv:List (κ×AV)} {vs:List (κ×Value)} (h:Conc G β x y) (r:pY G β kv vs):pY G β ((k,x)::kv) ((k,y)::vs)
theorem pY.find {G:bE} {β:cM} {kv:List (κ×AV)} {vs:List (κ×Value)} (h:pY G β kv vs) (k:κ):∀ i,(iw kv k i=none∧iw vs k i=none)∨∃ j x y,iw kv k i=some (j,x)∧iw vs k i=some (j,y)∧Conc G β x y:=by
 induction h with
 |nil=>exact fun i=>.inl ⟨rfl,rfl⟩
 |@cons k' x y kv vs hc r ih=>
  intro i
  by_cases hk:k'=k
  ·exact .inr ⟨i,x,y,by simp [iw,hk],by simp [iw,hk],hc⟩
  ·have:=ih (i+1)
   simpa [iw,hk] using this
theorem pY.put {G:bE} {β:cM} {kv:List (κ×AV)} {vs:List (κ×Value)} (h:pY G β kv vs) (k:κ) {x:AV} {y:Value} (hc:Conc G β x y):pY G β (jt kv k x) (jt vs k y):=by
 induction h with
 |nil=>exact .cons hc .nil
 |@cons k' x' y' kv vs hc' r ih=>
  simp only [jt]
  by_cases hk:k'=k
  ·rw [if_pos hk,if_pos hk];exact .cons hc r
  ·rw [if_neg hk,if_neg hk];exact .cons hc' ih
theorem pY.del {G:bE} {β:cM} {kv:List (κ×AV)} {vs:List (κ×Value)} (h:pY G β kv vs) (k:κ):pY G β (tB kv k) (tB vs k):=by
 induction h with
 |nil=>exact .nil
 |@cons k' x' y' kv vs hc' r ih=>
  simp only [tB]
  by_cases hk:k'=k
  ·rw [if_pos hk,if_pos hk];exact r
  ·rw [if_neg hk,if_neg hk];exact .cons hc' ih
end
class ss (P:Program) (kt:TypeId) (κ:Type) [DecidableEq κ] (kA:κ→AV) (kV:outParam (κ→Value)):Prop where
 y8:∀ {G:bE} {β:cM} {k:κ} {y:Value},Conc G β (kA k) y→y=kV k
 self:∀ {G:bE} {β:cM} {k:κ},Conc G β (kA k) (kV k)
 check:∀ (e:Bool) (k:κ) (w:World),(Instr.checkKey e 10000 kt (kV k)).run P w= .ok () w
 find:∀ (k:κ) (es:List MapEntry) (kv:List (κ×Value)) (w:World),es.map (fun e=>(e.key,e.val))=kv.map (fun p=>(kV p.1,p.2))→(Instr.findKey kt (kV k) es).run P w= .ok (iw kv k 0) w
 stays:∀ (k:κ) (w:World),(Instr.keyThatStays (kV k) (kV k)).run P w= .ok (kV k) w
section
variable {κ:Type} {kA:κ→AV} {kV:κ→Value}
theorem FQ {G:bE} {β:cM} (hk:∀ {k y},Conc G β (kA k) y→y=kV k):∀ (kv:List (κ×AV)) (es:List MapEntry),(rX kA kv).length=(es.flatMap fun e=>[e.key,e.val]).length→
  (∀ (j:Nat) x y,(rX kA kv)[j]?=some x→(es.flatMap fun e=>[e.key,e.val])[j]?=some y→Conc G β x y)→∃ vs:List (κ×Value),es.map (fun e=>(e.key,e.val))=vs.map (fun p=>(kV p.1,p.2))∧pY G β kv vs
 |[],[],_,_=>⟨[],rfl,.nil⟩
 |[],e::es,hl,_=>by simp [rX] at hl
 |p::kv,[],hl,_=>by simp [rX] at hl
 |(k,x)::kv,e::es,hl,hc=>by
  obtain ⟨vs,h1,h2⟩:=FQ hk kv es (by simpa [rX] using hl) (fun j u v hu hv=>hc (j+2) u v (by simpa [rX] using hu) (by simpa using hv))
  have h3:=hk (hc 0 (kA k) e.key rfl rfl)
  have h4:=hc 1 x e.val rfl rfl
  exact ⟨(k,e.val)::vs,by simp [h1,h3],.cons h4 h2⟩
theorem zm {G:bE} {β:cM} (hs:∀ {k},Conc G β (kA k) (kV k)) {kv:List (κ×AV)} {vs:List (κ×Value)} (h:pY G β kv vs):∀ (es:List MapEntry),es.map (fun e=>(e.key,e.val))=vs.map (fun p=>(kV p.1,p.2))→
  (rX kA kv).length=(es.flatMap fun e=>[e.key,e.val]).length∧∀ (j:Nat) x y,(rX kA kv)[j]?=some x→(es.flatMap fun e=>[e.key,e.val])[j]?=some y→Conc G β x y:=by
 induction h with
 |nil=>
  intro es he
  cases es with
  |nil=>exact ⟨rfl,fun j x y hx=>by simp [rX] at hx⟩
  |cons e es=>simp at he
 |@cons k x y kv vs hc r ih=>
  intro es he
  cases es with
  |nil=>simp at he
  |cons e es=>
   simp only [List.map_cons,List.cons.injEq,Prod.mk.injEq] at he
   obtain ⟨i1,i2⟩:=ih es he.2
   refine ⟨by simpa [rX] using i1,fun j u v hu hv=>?_⟩
   match j,hu,hv with
   |0,hu,hv=>simp [rX] at hu;simp at hv;subst hu;subst hv;rw [he.1.1];exact hs
   |1,hu,hv=>simp [rX] at hu;simp at hv;subst hu;subst hv;rw [he.1.2];exact hc
   |j+2,hu,hv=>exact i2 j u v (by simpa [rX] using hu) (by simpa using hv)
end
section
variable {κ:Type} [DecidableEq κ] {kA:κ→AV} {kV:κ→Value} {kt:TypeId}
theorem kQ {R:Rg} {β:cM} {G:bE} {s:St} {a:Act} {w:World} (h:eE R β G s a w) [hk:ss P kt κ kA kV] {m:Operand} {id:Nat} {kv:List (κ×AV)} {fl:Bool} (hm:s.eval m= .mp id) (hb:aW s.hp id=some ⟨1000000000,rX kA kv,fl⟩) :
  ∃ b es clock vs,a.eval m= .map (some b)∧β id= .gh (some (b,tz))∧2000000000≤id∧fl=false∧(R.w0.heap.size≤b∨R.ex b)∧G b=some (.map es clock)∧w.heap[b]?=some (.map es clock)∧
   es.toList.map (fun e=>(e.key,e.val))=vs.map (fun p=>(kV p.1,p.2))∧pY G β kv vs:=by
 have e1:=h.eval m
 rw [hm] at e1
 generalize hy:a.eval m=y at e1
 cases e1 with
 |@yl _ _ _ l hβ=>
  have h0:=h.hp.blk id _ hb
  unfold bW at h0
  rw [hβ] at h0
  rcases h0 with ⟨_,_,_,⟨_,k,_⟩,_⟩|⟨b,es,clock,e0,⟨e1,_,e7⟩,e2,e3,e4,e5⟩
  ·cases k
  ·injection e0 with e0
   injection e0 with e0 _
   subst e0
   obtain ⟨vs,h1,h2⟩:=FQ (kA:=kA) (kV:=kV) (fun hc=>hk.y8 hc) kv es.toList e4 e5
   exact ⟨l,es,clock,vs,rfl,hβ,e7,e1,e2,e3,h.hp.gs _ _ e3,h1,h2⟩
theorem tQ {R:Rg} {β:cM} {G:bE} {s:St} {a:Act} {w:World} (h:eE R β G s a w) [hk:ss P kt κ kA kV] {x:Operand} {k:κ} (hx:s.eval x=kA k):a.eval x=kV k:=by
 have:=h.eval x
 rw [hx] at this
 exact hk.y8 this
theorem su {w w':World} (he:Ext w w') {b:Nat} {o:Obj} (h:w.heap[b]?=some o):w'.heap[b]?=some o:=by rw [he.block b (hP h)];exact h
theorem wJ {s:St} {t et:TypeId} {m x:Operand} {id:Nat} {kv:List (κ×AV)} {k:κ} {v:AV} {fl:Bool} [hu:cJ P t (.map kt et)] [hk:ss P kt κ kA kV] (hl:lk kv k=some v) (hm:s.eval m= .mp id) (hb:aW s.hp id=some ⟨1000000000,rX kA kv,fl⟩) (hx:s.eval x=kA k) :
  PV P (.lookup t m x false) s v∧PV P (.lookup t m x true) s (.dr [v,.bool true]):=by
 have key:∀ {R β G a w},eE R β G s a w→∃ y,Conc G β v y∧∀ w',Ext w w'→(Instr.lookup t (a.eval m) (a.eval x) false).run P w'= .ok y w'∧(Instr.lookup t (a.eval m) (a.eval x) true).run P w'= .ok (.tuple #[y,.bool true]) w':=fun {R β G a w} h=>by
  obtain ⟨b,es,clock,vs,h1,_,_,_,_,_,h2,h3,h4⟩:=kQ (P:=P) (kt:=kt) h hm hb
  rcases h4.find k 0 with ⟨f1,_⟩|⟨j,u,y,f1,f2,f3⟩
  ·have:=qZ kv k 0;rw [f1,hl] at this;cases this
  ·have:=qZ kv k 0
   rw [f1,hl] at this
   injection this with this
   simp only at this
   subst this
   refine ⟨y,f3,fun w' he=>?_⟩
   have hf:=hk.find k es.toList vs w' h3
   rw [f2] at hf
   simp [h1,tQ (P:=P) (kt:=kt) h hx,Instr.lookup,run_underlying hu.ok,MapKept.run_getObj_map (su he h2),hk.check,hf,Result.andThen]
 constructor
 ·intro R β G a w h
  obtain ⟨y,hc,hr⟩:=key h
  exact ⟨y,hc,fun w' d ty pos bC g he=>by simp [execOp,(hr w' he).1]⟩
 ·intro R β G a w h
  obtain ⟨y,hc,hr⟩:=key h
  refine ⟨_,Conc.dr (cs:=[v,.bool true]) [y,.bool true] rfl (fun j u z hu hz=>?_),fun w' d ty pos bC g he=>by simp [execOp,(hr w' he).2]⟩
  match j,hu,hz with
  |0,hu,hz=>simp at hu hz;subst hu;subst hz;exact hc
  |1,hu,hz=>simp at hu hz;subst hu;subst hz;exact .v
  |j+2,hu,hz=>simp at hu
theorem zn {s:St} {t et:TypeId} {z:Value} {n bw:Nat} {m x:Operand} {id:Nat} {kv:List (κ×AV)} {k:κ} {fl:Bool} [hu:cJ P t (.map kt et)] [hi:dm P et z n bw] [hk:ss P kt κ kA kV] (hl:lk kv k=none) (hm:s.eval m= .mp id) (hb:aW s.hp id=some ⟨1000000000,rX kA kv,fl⟩) (hx:s.eval x=kA k) :
  PV P (.lookup t m x false) s (.v z)∧PV P (.lookup t m x true) s (.dr [.v z,.bool false]):=by
 have key:∀ {R β G a w},eE R β G s a w→∀ w',Ext w w'→(Instr.lookup t (a.eval m) (a.eval x) false).run P w'= .ok z w'∧(Instr.lookup t (a.eval m) (a.eval x) true).run P w'= .ok (.tuple #[z,.bool false]) w':=fun {R β G a w} h w' he=>by
  obtain ⟨b,es,clock,vs,h1,_,_,_,_,_,h2,h3,h4⟩:=kQ (P:=P) (kt:=kt) h hm hb
  rcases h4.find k 0 with ⟨f1,f2⟩|⟨j,u,y,f1,_⟩
  ·have hf:=hk.find k es.toList vs w' h3
   rw [f2] at hf
   simp [h1,tQ (P:=P) (kt:=kt) h hx,Instr.lookup,run_underlying hu.ok,MapKept.run_getObj_map (su he h2),hk.check,hf,nt hi,Result.andThen]
  ·have:=qZ kv k 0;rw [f1,hl] at this;cases this
 constructor
 ·intro R β G a w h
  exact ⟨z,.v,fun w' d ty pos bC g he=>by simp [execOp,(key h w' he).1]⟩
 ·intro R β G a w h
  refine ⟨_,Conc.dr (cs:=[.v z,.bool false]) [z,.bool false] rfl (fun j u y hu hy=>?_),fun w' d ty pos bC g he=>by simp [execOp,(key h w' he).2]⟩
  match j,hu,hy with
  |0,hu,hy=>simp at hu hy;subst hu;subst hy;exact .v
  |1,hu,hy=>simp at hu hy;subst hu;subst hy;exact .v
  |j+2,hu,hy=>simp at hu
theorem pZ {α:Type}:∀ {vs:List (κ×α)} {k:κ} {i j:Nat} {y:α},iw vs k i=some (j,y)→i≤j∧∃ p,vs[j - i]?=some p∧p.1=k∧p.2=y∧∀ z,jt vs k z=vs.set (j - i) (k,z)∧tB vs k=vs.eraseIdx (j - i)
 |[],_,_,_,_,h=>by cases h
 |p::r,k,i,j,y,h=>by
  rw [iw] at h
  split at h
  ·rename_i e
   injection h with h
   injection h with h1 h2
   subst h1 h2
   refine ⟨Nat.le_refl _,p,by simp,e,rfl,fun z=>?_⟩
   rw [Nat.sub_self,jt,if_pos e,tB,if_pos e,e]
   exact ⟨rfl,rfl⟩
  ·rename_i e
   obtain ⟨h1,q,h2,h3,h4,h5⟩:=pZ h
   have e1:j - i=(j - (i+1))+1:=by omega
   refine ⟨by omega,q,by rw [e1];simpa using h2,h3,h4,fun z=>?_⟩
   rw [e1,jt,if_neg e,tB,if_neg e,(h5 z).1,(h5 z).2]
   exact ⟨rfl,rfl⟩
theorem wK {α:Type} {vs:List (κ×α)} {k:κ} {i:Nat} (h:iw vs k i=none) (z:α):jt vs k z=vs++[(k,z)]∧tB vs k=vs:=by
 induction vs generalizing i with
 |nil=>exact ⟨rfl,rfl⟩
 |cons p r ih=>
  rw [iw] at h
  split at h
  ·cases h
  ·rename_i e
   obtain ⟨i1,i2⟩:=ih h
   rw [jt,if_neg e,tB,if_neg e,i1,i2]
   exact ⟨rfl,rfl⟩
theorem uK {t et:TypeId} {m x y:Operand} {id:Nat} {kv:List (κ×AV)} {k:κ} {v:AV} {ty:TypeId} {pos:String} {bC:Array Edge} {g:Option (Nat×Bool)} {s:St} {K:St→Prop} [hu:cJ P t (.map kt et)] [hK:ss P kt κ kA kV]
  (hm:s.eval m= .mp id) (hb:aW s.hp id=some ⟨1000000000,rX kA kv,false⟩) (hx:s.eval x=kA k) (hy:s.eval y=v)
  (hk:K ⟨s.fr,cK s.hp id ⟨1000000000,rX kA (jt kv k v),false⟩⟩):eR P ⟨none,.mapUpdate t m x y,ty,pos,bC,g⟩ s K∧eR P ⟨none,.insert t m x y,ty,pos,bC,g⟩ s K:=by
 have key:∀ (op:Op),(∀ (a:Act) (p:Nat) (w:World),a.eval m= .map (some p)→(execOp a.eval ⟨none,op,ty,pos,bC,g⟩).run P w=((Instr.mapUpdate t (a.eval m) (a.eval x) (a.eval y)).run P w).andThen fun _ w=>.ok .skip w)→eR P ⟨none,op,ty,pos,bC,g⟩ s K:=by
  intro op hop R β G a w Q hr
  obtain ⟨b,es,clock,vs,h1,hβ,hid,_,hex,hG,h2,h3,h4⟩:=kQ (P:=P) (kt:=kt) hr hm hb
  have hxe:=tQ (P:=P) (kt:=kt) hr hx
  have hyc:=hr.eval y
  rw [hy] at hyc
  have hf:=hK.find k es.toList vs w h3
  have h5:=h4.put k hyc
  obtain ⟨es2,clock2,he2,hrun⟩:∃ (es2:Array MapEntry) (clock2:Nat),es2.toList.map (fun e=>(e.key,e.val))=(jt vs k (a.eval y)).map (fun p=>(kV p.1,p.2))∧(Instr.mapUpdate t (a.eval m) (a.eval x) (a.eval y)).run P w= .ok () (w.putObj b (.map es2 clock2)):=by
   rcases h4.find k 0 with ⟨_,f2⟩|⟨j,u,z,_,f2,_⟩
   ·rw [f2] at hf
    refine ⟨es.push {key:=kV k,val:=a.eval y,born:=clock},clock+1,?_,?_⟩
    ·rw [(wK f2 (a.eval y)).1,List.map_append,← h3]
     simp
    ·simp [h1,hxe,Instr.mapUpdate,run_underlying hu.ok,MapKept.run_getObj_map h2,hK.check,hf,MapKept.run_setObj_map _ h2,Result.andThen,World.putObj]
   ·rw [f2] at hf
    obtain ⟨_,q,q1,q2,_,q4⟩:=pZ f2
    rw [Nat.sub_zero] at q1
    have hqe:(es.toList.map (fun e=>(e.key,e.val)))[j]?=some (kV k,q.2):=by rw [h3,List.getElem?_map,q1,← q2];rfl
    rw [List.getElem?_map,Option.map_eq_some_iff] at hqe
    obtain ⟨e,he,hee⟩:=hqe
    have hej:es[j]?=some e:=by simpa using he
    injection hee with hek _
    refine ⟨es.modify j fun e=>{e with key:=kV k,val:=a.eval y},clock,?_,?_⟩
    ·rw [(q4 (a.eval y)).1,Nat.sub_zero,List.map_set,← h3]
     apply List.ext_getElem?
     intro i
     simp only [Array.toList_modify,List.getElem?_map,List.getElem?_modify,List.getElem?_set,List.length_map]
     by_cases hij:j=i
     ·subst hij
      have hlt:j < es.toList.length:=(List.getElem?_eq_some_iff.1 he).1
      simp [he]
      simpa using hlt
     ·simp [hij]
    ·simp [h1,hxe,Instr.mapUpdate,run_underlying hu.ok,MapKept.run_getObj_map h2,hK.check,hf,hej,hek,hK.stays,MapKept.run_setObj_map _ h2,Result.andThen,World.putObj]
  obtain ⟨l2,c2⟩:=zm (kA:=kA) (kV:=kV) (fun {k}=>hK.self (k:=k)) h5 es2.toList he2
  obtain ⟨G2,hr2⟩:=hr.FI hb hβ hid hex hG es2 clock2 _ l2 c2
  have hrun2:=hop a b w h1
  rw [hrun] at hrun2
  simp only [Result.andThen] at hrun2
  unfold Oper.wp
  rw [hrun2,Oper.upon_skip]
  exact ⟨β,G2,_,hk,hr2⟩
 exact ⟨key _ fun a p w _=>by simp [execOp,Result.andThen],key _ fun a p w _=>by simp [execOp,Result.andThen]⟩
end
end Go.Ab
set_option maxRecDepth 20000
namespace Go.Ab
open Go.RowKit
variable {P:Program}
def kI (k:IntKind) (n:Int):AV:=.v (.int k n)
def vI (k:IntKind) (n:Int):Value:=.int k n
theorem sV (k:IntKind) (n:Int):∀ (es:List MapEntry) (kv:List (Int×Value)) (i:Nat),es.map (fun e=>(e.key,e.val))=kv.map (fun p=>(vI k p.1,p.2))→Instr.findNow (.int k) (vI k n) es i=some (iw kv n i)
 |[],[],i,_=>rfl
 |[],p::kv,i,h=>by simp at h
 |e::es,[],i,h=>by simp at h
 |e::es,p::kv,i,h=>by
  simp only [List.map_cons,List.cons.injEq,Prod.mk.injEq] at h
  rw [Instr.findNow,h.1.1]
  simp only [vI,Instr.sameNow,if_true]
  by_cases hp:p.1=n
  ·simp only [hp,beq_self_eq_true,iw,if_true,h.1.2]
  ·have:(n == p.1)=false:=by simpa using Ne.symm hp
   simp only [this,iw,hp,if_false]
   exact sV k n es kv (i+1) h.2
instance Nx {kt:TypeId} {k:IntKind} [hk:cJ P kt (.int k)]:ss P kt Int (kI k) (vI k) where
 y8:=fun h=>eF h
 self:=.v
 check:=fun e n w=>MapKept.run_checkKey hk.ok (by simp [vI,MapKept.IsKey]) e 9999
 find:=fun n es kv w h=>MapKept.run_findKey hk.ok (sV k n es kv 0 h)
 stays:=fun n w=>by simp [Instr.keyThatStays,vI,Instr.sameBits]
abbrev I3:=Int×Int×Int
def k3 (x:I3):AV:=.agg [.int x.1,.int x.2.1,.int x.2.2]
def v3 (x:I3):Value:=.agg #[.int .i64 x.1,.int .i64 x.2.1,.int .i64 x.2.2]
theorem IZ {G:bE} {β:cM} {x:I3} {y:Value} (h:Conc G β (k3 x) y):y=v3 x:=by
 unfold k3 at h
 cases h with
 |agg xs hl hs=>
  match xs,hl with
  |[x1,x2,x3],_=>
   have e1:=cX (hs 0 _ _ rfl rfl)
   have e2:=cX (hs 1 _ _ rfl rfl)
   have e3:=cX (hs 2 _ _ rfl rfl)
   subst e1;subst e2;subst e3;rfl
theorem I0 {G:bE} {β:cM} {x:I3}:Conc G β (k3 x) (v3 x):=by
 refine .agg [.int .i64 x.1,.int .i64 x.2.1,.int .i64 x.2.2] rfl fun j a b ha hb=>?_
 match j,ha,hb with
 |0,ha,hb=>cases ha;cases hb;exact .v
 |1,ha,hb=>cases ha;cases hb;exact .v
 |2,ha,hb=>cases ha;cases hb;exact .v
 |j+3,ha,_=>simp at ha
theorem zo {kt:TypeId} (heq:∀ (x y:I3) (w:World),(Op.equal kt (v3 x) (v3 y)).run P w= .ok (decide (x=y)) w) (x:I3):∀ (es:List MapEntry) (kv:List (I3×Value)) (i:Nat) (w:World),es.map (fun e=>(e.key,e.val))=kv.map (fun p=>(v3 p.1,p.2))→(Instr.findAsking kt (v3 x) es i).run P w= .ok (iw kv x i) w
 |[],[],i,w,_=>by simp [Instr.findAsking,iw]
 |[],p::kv,i,w,h=>by simp at h
 |e::es,[],i,w,h=>by simp at h
 |e::es,p::kv,i,w,h=>by
  simp only [List.map_cons,List.cons.injEq,Prod.mk.injEq] at h
  rw [Instr.findAsking,h.1.1]
  simp only [Sem.run_bind,heq,Result.andThen_ok]
  by_cases hp:p.1=x
  ·simp only [hp,decide_true,iw,if_true,h.1.2,Sem.run_pure]
  ·have:¬x=p.1:=fun e=>hp e.symm
   simp only [this,decide_false,iw,hp,if_false,Bool.false_eq_true]
   exact zo heq x es kv (i+1) w h.2
theorem Ny (x y:I3):decide (x=y)=(x.1 == y.1&&(x.2.1 == y.2.1&&x.2.2 == y.2.2)):=by
 obtain ⟨a,b,c⟩:=x
 obtain ⟨d,e,f⟩:=y
 rw [Bool.eq_iff_iff]
 simp [Prod.mk.injEq]
class FT (P:Program) (kt:TypeId):Prop where
 wide:(match P.underlying kt with|some (.array _ _)|some (.struct _)=>true|_=>false)=true
 check:∀ (e:Bool) (x:I3) (w:World),(Instr.checkKey e 10000 kt (v3 x)).run P w= .ok () w
 eq:∀ (x y:I3) (w:World),(Op.equal kt (v3 x) (v3 y)).run P w= .ok (decide (x=y)) w
instance O5 {kt:TypeId} [hk:FT P kt]:ss P kt I3 k3 v3 where
 y8:=IZ
 self:=I0
 check:=hk.check
 find:=fun x es kv w h=>by rw [run_findKey_eq w hk.wide];exact zo hk.eq x es kv 0 w h
 stays:=fun x w=>by simp [Instr.keyThatStays,v3,Instr.sameBits]
theorem Bk {t e:TypeId} {k:IntKind} (hu:cJ P t (.array 3 e)) (h1:cJ P e (.int k)) (hc:P.cellsOf e=1) (hs:(P.info? e).isSome=true):FT P t where
 wide:=by rw [hu.ok]
 check:=fun em x w=>by
  obtain ⟨i,hi⟩:=Option.isSome_iff_exists.1 hs
  have hz:P.cellsOf e=i.size:=by simp [Program.cellsOf,hi]
  have hi1:i.size=1:=by omega
  rw [show (10000:Nat)=9999+1 from rfl,Instr.checkKey]
  simp only [Sem.run_bind,run_underlying hu.ok,Result.andThen_ok,v3]
  simp only [Std.Legacy.Range.forIn_eq_forIn_range',Std.Legacy.Range.size,Nat.sub_zero,Nat.add_one_sub_one,Nat.div_one,show (3+1 - 1:Nat)=3 from rfl,List.range'_succ,List.range'_zero,List.forIn_cons,List.forIn_nil]
  simp only [Sem.run_bind,run_sizeOf w hi,hi1,Result.andThen_ok,part,c8 h1.ok,kc,Bool.false_eq_true,if_false,Nat.zero_mul,Nat.mul_one,Nat.one_mul,Nat.zero_add,List.getElem?_toArray,List.getElem?_cons_zero,List.getElem?_cons_succ,Sem.run_pure]
  have hk:∀ n:Int,(Instr.checkKey em 9999 e (.int .i64 n)).run P w= .ok () w:=fun n=>by
   rw [show (9999:Nat)=9998+1 from rfl,Instr.checkKey]
   simp [run_underlying h1.ok]
  simp [hk,run_sizeOf w hi,hc,hi1,c8 h1.ok,kc,part]
 eq:=fun x y w=>by
  obtain ⟨i,hi⟩:=Option.isSome_iff_exists.1 hs
  rw [Op.equal,Op.maxDepth,show (10000:Nat)=9999+1 from rfl,v3,v3,run_equalIn_array w 9999 _ _ hu.ok hi,show List.range 3=[0,1,2] from rfl,hc,Ny]
  have hq:∀ a b:Int,(Op.equalIn 9999 e (.int .i64 a) (.int .i64 b)).run P w= .ok (a == b) w:=fun a b=>run_equalIn_int w 9998 _ _ _ _ _ h1.ok
  simp only [Op.eqItems,Sem.run_bind,part,c8 h1.ok,kc,Result.andThen_ok,Bool.false_eq_true,if_false,Nat.zero_mul,Nat.mul_one,Nat.one_mul,List.getElem?_toArray,List.getElem?_cons_zero,List.getElem?_cons_succ,Sem.run_pure]
  obtain ⟨q,hqe⟩:∃ q:Int→Int→Bool,∀ a b,(a == b)=q a b:=⟨fun a b=>a == b,fun _ _=>rfl⟩
  simp only [hqe] at hq ⊢
  simp only [hq,Result.andThen_ok]
  cases q x.1 y.1<;>cases hb:q x.2.1 y.2.1<;>cases hd:q x.2.2 y.2.2<;>simp [Op.eqItems,part,c8 h1.ok,kc,hq,hb,hd]
theorem zp {t:TypeId} {f1 f2 f3:Field} {k1 k2 k3:IntKind} (hu:cJ P t (.struct #[f1,f2,f3])) (h1:cJ P f1.type (.int k1)) (h2:cJ P f2.type (.int k2)) (h3:cJ P f3.type (.int k3)) (ho:f1.offset=0∧f2.offset=1∧f3.offset=2)
  (hn : (f1.name == "_" || f2.name == "_" || f3.name == "_") = false) (hs : P.stoodInHeld t = false) : FT P t where
 wide:=by rw [hu.ok]
 check:=fun em x w=>by
  simp only [Bool.or_eq_false_iff,beq_eq_false_iff_ne] at hn
  obtain ⟨⟨n1,n2⟩,n3⟩:=hn
  have hk:∀ (k:IntKind) (e:TypeId) (n:Int),cJ P e (.int k)→(Instr.checkKey em 9999 e (.int .i64 n)).run P w= .ok () w:=fun k e n he=>by
   rw [show (9999:Nat)=9998+1 from rfl,Instr.checkKey]
   simp [run_underlying he.ok]
  rw [show (10000:Nat)=9999+1 from rfl,Instr.checkKey]
  simp only [Sem.run_bind,run_underlying hu.ok,Result.andThen_ok,v3]
  rw [← Array.forIn_toList]
  simp only [List.forIn_cons,List.forIn_nil,n1,n2,n3,ne_eq,not_false_eq_true,if_true,Sem.run_bind,part,c8 h1.ok,c8 h2.ok,c8 h3.ok,kc,Result.andThen_ok,Bool.false_eq_true,if_false,ho.1,ho.2.1,ho.2.2]
  simp [hk _ _ _ h1,hk _ _ _ h2,hk _ _ _ h3,c8 h1.ok,c8 h2.ok,c8 h3.ok,kc,part]
 eq:=fun x y w=>by
  have hf:P.fieldsOf t=#[f1,f2,f3]:=by simp [Program.fieldsOf,hu.ok]
  simp only [Bool.or_eq_false_iff,beq_eq_false_iff_ne] at hn
  obtain ⟨⟨n1,n2⟩,n3⟩:=hn
  rw [Op.equal,Op.maxDepth,show (10000:Nat)=9999+1 from rfl,v3,v3,run_equalIn_agg w 9999 t _ _ (by rw [hf];exact hu.ok) hs,hf,Ny]
  have hq:∀ (k:IntKind) (e:TypeId) (a b:Int),cJ P e (.int k)→(Op.equalIn 9999 e (.int .i64 a) (.int .i64 b)).run P w= .ok (a == b) w:=fun k e a b he=>run_equalIn_int w 9998 _ _ _ _ _ he.ok
  simp only [Op.eqFields,n1,n2,n3,ne_eq,not_false_eq_true,if_true,Sem.run_bind,part,c8 h1.ok,c8 h2.ok,c8 h3.ok,kc,Result.andThen_ok,Bool.false_eq_true,if_false,ho.1,ho.2.1,ho.2.2,List.getElem?_toArray,List.getElem?_cons_zero,List.getElem?_cons_succ,Sem.run_pure]
  obtain ⟨q,hqe⟩:∃ q:Int→Int→Bool,∀ a b,(a == b)=q a b:=⟨fun a b=>a == b,fun _ _=>rfl⟩
  simp only [hqe] at hq ⊢
  simp only [hq _ _ _ _ h1,Result.andThen_ok]
  cases q x.1 y.1<;>cases hb:q x.2.1 y.2.1<;>cases hd:q x.2.2 y.2.2<;>simp [hb,hd,Op.eqFields,n1,n2,n3,part,c8 h1.ok,c8 h2.ok,c8 h3.ok,kc,ho.1,ho.2.1,ho.2.2,hq _ _ _ _ h1,hq _ _ _ _ h2,hq _ _ _ _ h3]
section
variable {κ:Type} [DecidableEq κ] {kA:κ→AV} {kV:κ→Value} {kt:TypeId}
theorem sv {α β:Type} (f:α→β):∀ (l:List α) (j:Nat),(l.eraseIdx j).map f=(l.map f).eraseIdx j
 |[],_=>rfl
 |_::_,0=>rfl
 |a::l,j+1=>by simp only [List.eraseIdx_cons_succ,List.map_cons];rw [sv f l j]
theorem Bl {t et:TypeId} {m x:Operand} {eQ:Array TypeId} {id:Nat} {kv:List (κ×AV)} {k:κ} {d:Option Tmp} {ty:TypeId} {pos:String} {bC:Array Edge} {g:Option (Nat×Bool)} {s:St} {K:St→Prop} [hu:cJ P t (.map kt et)] [hK:ss P kt κ kA kV]
  (hm:s.eval m= .mp id) (hb:aW s.hp id=some ⟨1000000000,rX kA kv,false⟩) (hx:s.eval x=kA k) (ht:eQ[0]?=some t)
  (hk:K ((⟨s.fr,cK s.hp id ⟨1000000000,rX kA (tB kv k),false⟩⟩:St).put d (.v (.tuple #[])))):eR P ⟨d,.call {callee:=.builtin .delete,args:=#[m,x],argTypes:=eQ},ty,pos,bC,g⟩ s K:=by
 intro R β G a w Q hr
 obtain ⟨b,es,clock,vs,h1,hβ,hid,_,hex,hG,h2,h3,h4⟩:=kQ (P:=P) (kt:=kt) hr hm hb
 have hxe:=tQ (P:=P) (kt:=kt) hr hx
 have hf:=hK.find k es.toList vs w h3
 have h5:=h4.del k
 obtain ⟨es2,he2,hrun⟩:∃ (es2:Array MapEntry),es2.toList.map (fun e=>(e.key,e.val))=(tB vs k).map (fun p=>(kV p.1,p.2))∧(Builtin.delete_ eQ ty #[a.eval m,a.eval x]).run P w= .ok (.tuple #[]) (w.putObj b (.map es2 clock)):=by
  rcases h4.find k 0 with ⟨_,f2⟩|⟨j,u,z,_,f2,_⟩
  ·rw [f2] at hf
   refine ⟨es,?_,?_⟩
   ·rw [(wK f2 (Value.bool true)).2,h3]
   ·simp [Builtin.delete_,ht,h1,hxe,run_underlying hu.ok,MapKept.run_getObj_map h2,hK.check,hf,MapKept.run_setObj_map _ h2,Result.andThen,World.putObj]
  ·rw [f2] at hf
   obtain ⟨_,q,q1,q2,_,q4⟩:=pZ f2
   rw [Nat.sub_zero] at q1
   have hlt:j < es.size:=by
    have hq:(es.toList.map (fun e=>(e.key,e.val)))[j]?=some (kV q.1,q.2):=by rw [h3,List.getElem?_map,q1];rfl
    rw [List.getElem?_map,Option.map_eq_some_iff] at hq
    obtain ⟨e,he,_⟩:=hq
    exact by simpa using (List.getElem?_eq_some_iff.1 he).1
   refine ⟨es.eraseIdxIfInBounds j,?_,?_⟩
   ·rw [(q4 (Value.bool true)).2,Nat.sub_zero]
    simp only [Array.eraseIdxIfInBounds,hlt,dif_pos,Array.toList_eraseIdx]
    rw [sv,h3,sv]
   ·simp [Builtin.delete_,ht,h1,hxe,run_underlying hu.ok,MapKept.run_getObj_map h2,hK.check,hf,MapKept.run_setObj_map _ h2,Result.andThen,World.putObj]
 obtain ⟨l2,c2⟩:=zm (kA:=kA) (kV:=kV) (fun {k}=>hK.self (k:=k)) h5 es2.toList he2
 obtain ⟨G2,hr2⟩:=hr.FI hb hβ hid hex hG es2 clock _ l2 c2
 unfold Oper.wp
 have:(execOp a.eval ⟨d,.call {callee:=.builtin .delete,args:=#[m,x],argTypes:=eQ},ty,pos,bC,g⟩).run P w= .ok (.value (.tuple #[])) (w.putObj b (.map es2 clock)):=by
  simp [execOp,resolve,invoke,builtin,hrun,Result.andThen]
 rw [this,Oper.upon_value]
 exact ⟨β,G2,_,hk,hr2.put d .v⟩
theorem Ea {t et:TypeId} {x:Operand} {id:Nat} {kv:List (κ×AV)} {fl:Bool} {s:St} [hu:cJ P t (.map kt et)] [hK:ss P kt κ kA kV] (hx:s.eval x= .mp id) (hb:aW s.hp id=some ⟨1000000000,rX kA kv,fl⟩) :
  PV P (.call {callee:=.builtin .len,args:=#[x],argTypes:=#[t]}) s (.int kv.length):=fun R β G a w hr=>by
 obtain ⟨b,es,clock,vs,h1,hβ,hid,_,hex,hG,h2,h3,h4⟩:=kQ (P:=P) (kt:=kt) hr hx hb
 have hl:es.size=kv.length:=by
  have e1:=congrArg List.length h3
  simp only [List.length_map,Array.length_toList] at e1
  have:∀ {kv:List (κ×AV)} {vs:List (κ×Value)},pY G β kv vs→vs.length=kv.length:=fun h=>by
   induction h with
   |nil=>rfl
   |cons _ _ ih=>simp [ih]
  rw [e1,this h4]
 refine ⟨_,.v,fun w' d ty pos bC g he=>?_⟩
 have h2':=su he h2
 simp [execOp,resolve,invoke,builtin,h1,Builtin.len_,run_underlying hu.ok,MapKept.run_getObj_map h2',goInt,hl,Result.andThen]
end
end Go.Ab
set_option maxRecDepth 20000
namespace Go.Ab
open Go.RowKit
variable {P:Program}
section
variable {κ:Type} {kA:κ→AV}
def Ip (kv:List (κ×Int)):List (κ×AV):=kv.map fun p=>(p.1,AV.int p.2)
def wM (kA:κ→AV) (kv:List (κ×Int)):List AV:=rX kA (Ip kv)
class sW {κ:Type} (kA:κ→AV):Prop where
 ok:∀ k,(kA k).fm=true
instance {k:IntKind}:sW (kI k):=⟨fun _=>rfl⟩
instance:sW k3:=⟨fun _=>rfl⟩
theorem rb [hp:sW kA] (kv:List (κ×Int)):AV.cj (wM kA kv)=true:=by
 unfold wM rX Ip
 rw [List.flatMap_map]
 exact fK _ kv fun p=>by simp only [AV.cj,hp.ok,AV.fm,Bool.and_self]
@[go_sem] theorem Nz [hp:sW kA] (id:Nat) (kv:List (κ×Int)):AV.bz id (wM kA kv)=false:=iS (rb kv)
@[go_sem] theorem MS [hp:sW kA] (id:Nat) (kv:List (κ×Int)):AV.ct id (wM kA kv)=wM kA kv:=kE (rb kv)
@[go_sem] theorem Oz [hp:sW kA] (ids pins:List Nat) (kv:List (κ×Int)):AV.iN ids pins (wM kA kv)=wM kA kv:=kO (rb kv)
@[go_sem] theorem OA [hp:sW kA] (ids:List Nat) (kv:List (κ×Int)):AV.iZ ids (wM kA kv)=true:=mH (rb kv)
end
section
variable {κ:Type} [DecidableEq κ] {kA:κ→AV} {kV:κ→Value} {kt:TypeId}
theorem Bm:∀ (kv:List (κ×Int)) (k:κ),lk (Ip kv) k=(lk kv k).map AV.int
 |[],_=>rfl
 |p::r,k=>by
  simp only [Ip,List.map_cons,lk]
  split
  ·rfl
  ·exact Bm r k
theorem zq:∀ (kv:List (κ×Int)) (k:κ) (v:Int),jt (Ip kv) k (AV.int v)=Ip (jt kv k v)
 |[],_,_=>rfl
 |p::r,k,v=>by
  simp only [Ip,List.map_cons,jt]
  split
  ·rfl
  ·rw [List.map_cons];exact congrArg _ (zq r k v)
theorem kr {s:St} {t et:TypeId} {m x:Operand} {id:Nat} {kv:List (κ×Int)} {k:κ} {v:Int} {fl:Bool} [hu:cJ P t (.map kt et)] [hk:ss P kt κ kA kV] (hl:lk kv k=some v) (hm:s.eval m= .mp id) (hb:aW s.hp id=some ⟨1000000000,wM kA kv,fl⟩) (hx:s.eval x=kA k) :
  PV P (.lookup t m x false) s (.int v)∧PV P (.lookup t m x true) s (.dr [.int v,.bool true]):=
 wJ (kt:=kt) (kv:=Ip kv) (by rw [Bm,hl];rfl) hm hb hx
theorem oz {s:St} {t et:TypeId} {n bw:Nat} {m x:Operand} {id:Nat} {kv:List (κ×Int)} {k:κ} {fl:Bool} [hu:cJ P t (.map kt et)] [hi:dm P et (.int .i64 0) n bw] [hk:ss P kt κ kA kV] (hl:lk kv k=none) (hm:s.eval m= .mp id) (hb:aW s.hp id=some ⟨1000000000,wM kA kv,fl⟩) (hx:s.eval x=kA k) :
  PV P (.lookup t m x false) s (.int 0)∧PV P (.lookup t m x true) s (.dr [.int 0,.bool false]):=
 zn (kt:=kt) (kv:=Ip kv) (by rw [Bm,hl];rfl) hm hb hx
theorem FU {s:St} {t et:TypeId} {n bw:Nat} {m x:Operand} {id:Nat} {kv:List (κ×Int)} {k:κ} {fl:Bool} [hu:cJ P t (.map kt et)] [hi:dm P et (.int .i64 0) n bw] [hk:ss P kt κ kA kV] (hm:s.eval m= .mp id) (hb:aW s.hp id=some ⟨1000000000,wM kA kv,fl⟩) (hx:s.eval x=kA k) :
  PV P (.lookup t m x false) s (.int ((lk kv k).getD 0))∧PV P (.lookup t m x true) s (.dr [.int ((lk kv k).getD 0),.bool (lk kv k).isSome]):=by
 cases hl:lk kv k with
 |none=>exact oz (kt:=kt) hl hm hb hx
 |some v=>exact kr (kt:=kt) hl hm hb hx
theorem iE {t et:TypeId} {m x y:Operand} {id:Nat} {kv:List (κ×Int)} {k:κ} {v:Int} {ty:TypeId} {pos:String} {bC:Array Edge} {g:Option (Nat×Bool)} {s:St} {K:St→Prop} [hu:cJ P t (.map kt et)] [hK:ss P kt κ kA kV]
  (hm:s.eval m= .mp id) (hb:aW s.hp id=some ⟨1000000000,wM kA kv,false⟩) (hx:s.eval x=kA k) (hy:s.eval y= .int v)
  (hk:K ⟨s.fr,cK s.hp id ⟨1000000000,wM kA (jt kv k v),false⟩⟩):eR P ⟨none,.mapUpdate t m x y,ty,pos,bC,g⟩ s K∧eR P ⟨none,.insert t m x y,ty,pos,bC,g⟩ s K:=
 uK (kt:=kt) (kv:=Ip kv) hm hb hx hy (by rw [zq];exact hk)
end
end Go.Ab
set_option maxRecDepth 10000
namespace Go.Ab
open Go.RowKit
variable {P:Program}
def Lw (P:Program) (rs:Array ResultVar) (gid:Nat) (d:Option Tmp) (K:St→Prop):Exit→St→Prop
 | .normal,s| .ret,s=>∃ s2 x fr',Le s s2∧RV P rs s2 x∧aW s2.hp gid=some (eO fr')∧K ⟨(St.put ⟨fr',[]⟩ d x).fr,fy s2.hp gid⟩
 |_,_=>False
theorem zr {R:Rg} {β:cM} {G:bE} {fr:List AV} {hp:Hp} {a:Act} {w:World} (hr:eE R β G ⟨fr,hp⟩ a w) {gid:Nat} (hgid:1000000000≤gid) (hgidb:gid < 2000000000)
  {β2:cM} {G2:bE} {hp2:Hp} {w2:World} {fr':List AV} {x:AV} {y:Value} (hcy:Conc G2 β2 x y) (hH2:c9 ⟨w,gN β (aV hp),G,fun i=>if i=gid then some a.tmps.toList else R.out i,fW R⟩ β2 G2 hp2 w2) (hg:aW hp2 gid=some (eO fr')) (d:Option Tmp) :
  ∃ G3,eE R β2 G3 ⟨(St.put ⟨fr',[]⟩ d x).fr,fy hp2 gid⟩ (a.put d y) w2:=by
 have hb6:=hH2.blk gid _ hg
 have gi:gi hp2 (fy hp2 gid):=fun i bk hi=>by
  rw [ik] at hi
  split at hi
  ·cases hi
  ·exact hi
 have hex:∀ b,gN β (aV hp) b→R.w0.heap.size≤b∨R.ex b:=fun b ⟨id,hid,hh⟩=>by
  obtain ⟨bk,hbk⟩:=cV.1 hid
  rcases hh with ⟨t,ht⟩|⟨y',hy'⟩
  ·exact (hr.hp.block hbk ht).2.1
  ·have hq:=hr.hp.blk id bk hbk
   unfold bW at hq
   rw [hy'] at hq
   exact ((jg hq).2.2 b y' rfl).1
 obtain ⟨G7,d7,m7,h7⟩:=nz (R:=R) (G:=G) (w:=w) hr.defers hr.hp.gs hr.hp.keeps hr.hp.js hex (fun b ⟨id,hid,hh⟩=>by
   obtain ⟨bk,hbk⟩:=cV.1 hid
   rcases hh with ⟨t,ht⟩|⟨y',hy'⟩
   ·exact .inl (hr.hp.block hbk ht).1
   ·have hq:=hr.hp.blk id bk hbk
    unfold bW at hq
    rw [hy'] at hq
    exact .inr ((jg hq).2.2 b y' rfl).2.1) (hH2.sub gi) (fun id bk o hid hβo hgb=>by
   have hn2:id≠gid:=fun e=>by
    subst e
    rw [ik,if_pos rfl] at hid;cases hid
   have:=tP (R:=⟨R.w0,R.ex,R.g0,fun i=>if i=gid then some a.tmps.toList else R.out i,R.lp⟩) (w:=w) (ex:=gN β (aV hp)) (g:=G) hgb hr.hp.keeps.size hex
   rcases this with ⟨outs',z0,z1,z2,z3⟩|hm
   ·refine .inl ⟨outs',by simpa only [hn2,if_false] using z0,z1,?_,z3⟩
    cases o with
    |none=>exact z2
    |some p=>exact z2
   ·exact .inr hm)
 unfold bW at hb6
 have hfr:fr'.length=a.tmps.toList.length∧∀ (j:Nat) x z,fr'[j]?=some x→a.tmps.toList[j]?=some z→Conc G2 β2 x z:=by
  cases hβ5:β2 gid with
  |no=>rw [hβ5] at hb6;exact hb6.elim
  |nil=>exact absurd (hH2.jv gid (.inl hβ5)) aj
  |«at» b t=>exact absurd (hH2.jv gid (.inr ⟨b,t,hβ5⟩)) aj
  |gh o=>
   rw [hβ5] at hb6
   rcases hb6 with ⟨outs',z0,_,_,z3,z4⟩|⟨_,_,_,_,⟨_,_,h9⟩,_⟩
   rotate_left
   ·omega
   simp only [if_true] at z0
   injection z0 with z0
   subst z0
   exact ⟨z3,z4⟩
 have hrep7:eE R β2 G7 ⟨fr',fy hp2 gid⟩ a w2:=⟨d7,by rw [hfr.1];simp,fun i x z hx hz=>(hfr.2 i x z hx (by simpa using hz)).mono m7,h7⟩
 have:=hrep7.put d (hcy.mono m7)
 have e:(St.put ⟨fr',fy hp2 gid⟩ d x)=⟨(St.put ⟨fr',[]⟩ d x).fr,fy hp2 gid⟩:=by cases d<;>rfl
 rw [e] at this
 exact ⟨G7,this⟩
theorem rf {R:Rg} {β:cM} {G:bE} {fr:List AV} {hp:Hp} {a:Act} {w:World} (hr:eE R β G ⟨fr,hp⟩ a w) {gid n:Nat} {f:FuncId} {fn:Func} {c:Code} {rs:Array ResultVar} {args:List AV} {vals:List Value} {d:Option Tmp} {K:St→Prop}
  (hf:P.funcs[f]?=some fn) (hb:fn.body=some c) (hn:fn.ntmps=n) (hrs:fn.results=rs) (hgid:1000000000≤gid) (hgidb:gid < 2000000000) (hm1:AV.bz gid fr=false) (hm2:cI gid hp=false) (hm3:AV.bz gid args=false)
  (hl:args.length=vals.length) (hc:∀ (j:Nat) x y,args[j]?=some x→vals[j]?=some y→Conc G β x y)
  (h:AW P c ⟨args++List.replicate (n - args.length) .any,hp++[(gid,eO fr)]⟩ (Lw P rs gid d K)) :
  Calls P f vals.toArray w fun e w'=>∃ y,e= .returned y∧∃ β2 G2 s,K s∧eE R β2 G2 s (a.put d y) w':=by
 subst hn
 have hlm:=oU hr.hp (fun _ _ h=>h)
 have hpg:=qY hlm gid 1000000000 none hgid hgidb (Nat.le_refl _) (fr:=fr) (tm:=a.tmps.toList) (lp':=fW R) (by rw [Array.length_toList];exact hr.size.symm) (fun j x z hx hz=>hr.fr j x z hx (by simpa using hz)) hm1 hm2 (fun _ _=>rfl) (Nat.sub_self _)
 have hc1:∀ (j:Nat) x y,args[j]?=some x→vals[j]?=some y→Conc G (β.set gid (.gh none)) x y:=fun j x y hx hy=>(hc j x y hx hy).gu (dC hm3 hx) _
 refine fU (R:=⟨w,gN β (aV hp),G,fun i=>if i=gid then some a.tmps.toList else R.out i,fW R⟩) (β:=β.set gid (.gh none)) (G:=G) hf hb hrs (iR hl hc1 hpg) h fun e s' hq=>?_
 have key:(∃ s2 x fr',Le s' s2∧RV P rs s2 x∧aW s2.hp gid=some (eO fr')∧K ⟨(St.put ⟨fr',[]⟩ d x).fr,fy s2.hp gid⟩)→∃ s'' x,Le s' s''∧RV P rs s'' x∧∀ β2 G2 y w2,Conc G2 β2 x y→
   c9 ⟨w,gN β (aV hp),G,fun i=>if i=gid then some a.tmps.toList else R.out i,fW R⟩ β2 G2 s''.hp w2→
   (fun (e:Ending) (w':World)=>∃ y,e=Ending.returned y∧∃ β2 G2 s,K s∧eE R β2 G2 s (a.put d y) w') (.returned y) w2:=by
  rintro ⟨s2,x,fr',hle,hrv,hg,hk⟩
  refine ⟨s2,x,hle,hrv,fun β2 G2 y w2 hcy hH2=>?_⟩
  obtain ⟨G3,h3⟩:=zr hr hgid hgidb hcy hH2 hg d
  exact ⟨y,rfl,β2,G3,_,hk,h3⟩
 cases e with
 |normal=>exact ⟨.inl rfl,key hq⟩
 |ret=>exact ⟨.inr rfl,key hq⟩
 |_=>exact hq.elim
theorem nA {d:Option Tmp} {f:FuncId} {args:Array Operand} {eQ:Array TypeId} {ty:TypeId} {pos:String} {bC:Array Edge} {g:Option (Nat×Bool)} {fr fr2:List AV} {hp hp2:Hp} {K:St→Prop} {fn:Func} {c:Code} {n:Nat} {rs:Array ResultVar} [hc:cS P f] (gid:Nat)
  (hf:P.funcs[f]?=some fn) (hn:fn.ntmps=n) (hgid:1000000000≤gid) (hgidb:gid < 2000000000) (hm1:AV.bz gid fr=false) (hm2:cI gid hp=false) (hm3:AV.bz gid (cn ⟨fr,hp⟩ args)=false)
  (h:AW P c ⟨fr2,hp2⟩ (Lw P rs gid d K)) (hb:fn.body=some c:=by rfl) (hrs:fn.results=rs:=by rfl)
  (he:cn ⟨fr,hp⟩ args++List.replicate (n - (cn ⟨fr,hp⟩ args).length) .any=fr2:=by simp only [go_sem,Nat.reduceAdd,Nat.reduceSub,List.replicate_succ,List.replicate_zero];exact rfl)
  (he2:hp++[(gid,eO fr)]=hp2:=by simp only [eO,List.map_cons,List.map_nil,List.cons_append,List.nil_append];exact rfl) :
  eR P ⟨d,.call {callee:=.value (.func f),args,argTypes:=eQ},ty,pos,bC,g⟩ ⟨fr,hp⟩ K:=by
 intro R β G a w Q' hr
 have hrun:(execOp a.eval ⟨d,.call {callee:=.value (.func f),args,argTypes:=eQ},ty,pos,bC,g⟩).run P w= .ok (.enter f (args.map a.eval)) w:=by
  simp [execOp,resolve,Act.eval,Deferred.ofValue,invoke,hc.ok]
 unfold Oper.wp
 rw [hrun,Oper.upon_enter]
 subst he he2
 obtain ⟨l1,l2⟩:=gw hr args
 have:=rf hr (d:=d) (K:=K) hf hb hn hrs hgid hgidb hm1 hm2 hm3 l1 l2 h
 simp only [Array.toArray_toList] at this
 refine this.mono fun e w' ⟨y,he,hh⟩=>?_
 subst he
 exact hh
end Go.Ab
set_option maxRecDepth 20000
namespace Go.Ab
open Go.RowKit
variable {P:Program}
def nB (ops:Array Oper):Nat→Array Bool→List (List Nat)
 |0,_=>[[]]
 |f+1,l=>match Region.ready .any ops l with
  |[]=>[[]]
  |r=>r.flatMap fun i=>(nB ops f (l.setIfInBounds i true)).map (i::·)
theorem Bn (ops:Array Oper):∀ (f t:Nat) (l:Array Bool),Region.linearise.go .any ops f t l []∈nB ops f l
 |0,t,l=>by simp [Region.linearise.go,nB]
 |f+1,t,l=>by
  simp only [Region.linearise.go,nB]
  change (match (Region.ready .any ops l)[t % (Region.ready .any ops l).length]? with
   |some i=>Region.linearise.go .any ops f (t / (Region.ready .any ops l).length) (l.setIfInBounds i true) [i]
   |none=>[].reverse)∈_
  cases hr:Region.ready .any ops l with
  |nil=>simp
  |cons x xs=>
   have hlt:t % (x::xs).length < (x::xs).length:=Nat.mod_lt _ ax
   rw [List.getElem?_eq_getElem hlt]
   simp only []
   rw [linearise_go_acc,List.reverse_singleton,List.singleton_append]
   exact List.mem_flatMap.2 ⟨_,List.getElem_mem hlt,List.mem_map_of_mem (Bn ops f _ _)⟩
theorem jk {F:Fence} {n:Nat} {ops:Array Oper} {Q:Exit→Act→World→Prop}:∀ (l:List Nat) (a:Act) (w:World),wpListIn F n P ops Q (l.filterMap fun i=>ops[i]?) a w→wpOpsIn F n P ops Q l a w
 |[],a,w,h=>h
 |i::l,a,w,h=>by
  simp only [wpOpsIn]
  cases ho:ops[i]? with
  |none=>
   simp only [List.filterMap_cons,ho] at h
   exact jk l a w h
  |some o=>
   simp only [List.filterMap_cons,ho,wpListIn] at h
   simp only []
   split
   ·rename_i hw
    simp only [hw,if_true] at h
    exact Oper.wpIn_mono (fun a' w' h'=>jk l a' w' h') h
   ·rename_i hw
    simp only [hw,if_false,Bool.false_eq_true] at h
    exact ⟨h.1,jk l _ w h.2⟩
theorem iQ {id:Nat} {l:List Oper} {s:St} {Q:Exit→St→Prop} (hm:P.follows .mixedOrders=true)
  (h:∀ o∈nB l.toArray l.length (Array.replicate l.length false),db P l.toArray (o.filterMap fun i=>l.toArray[i]?) s (Q .normal)):AW P (.region id l.toArray true) s Q:=by
 intro ro _ R β G a w hr
 refine wpIn_mono (wpIn_region_draw fun t=>?_) Cw
 simp only [Region.schedule,hm,Bool.true_or,if_true]
 have hr':=hr.drew
 refine jk _ _ _ (h _ ?_ ro R β G a _ hr')
 have:=Bn l.toArray l.toArray.size t (Array.replicate l.toArray.size false)
 simpa [Region.linearise] using this
end Go.Ab
set_option maxRecDepth 10000
namespace Go.Ab
open Go.RowKit
variable {P:Program}
def NA (P:Program) (rs:Array ResultVar) (gid:Nat) (Q:Exit→St→Prop):Exit→St→Prop
 | .normal,s| .ret,s=>∃ s2 x e' T fr',Le s s2∧RV P rs s2 x∧jh e'=some T∧aW s2.hp gid=some ⟨T,fr',false⟩∧Q e' ⟨fr',fy s2.hp gid⟩
 |_,_=>False
theorem wN {f:Operand} {ps:Array Tmp} {assign body:Code} {fr:List AV} {hp:Hp} {Q:Exit→St→Prop} {g:FuncId} {caps:List AV} [hc:cS P g] (gid:Nat) {fn0:Func} {c:Code} {n:Nat} {rs:Array ResultVar}
  (hf:(⟨fr,hp⟩:St).eval f= .fn g caps) (hgid:1000000000≤gid) (hm1:AV.bz gid fr=false) (hm2:cI gid hp=false) (hm3:AV.bz gid caps=false)
  (hfn:P.funcs[g]?=some fn0) (hn:fn0.ntmps=n) (hb:fn0.body=some c) (hrs:fn0.results=rs)
  (h:AW P c ⟨(.yl gid ⟨ps,assign,body,false⟩::caps)++List.replicate (n - (caps.length+1)) .any,hp++[(gid,⟨1000000001,fr,false⟩)]⟩ (NA P rs gid Q))
  (hgidb:gid < 2000000000:=by decide):AW P (.rangeFunc f ps assign body) ⟨fr,hp⟩ Q:=by
 intro ro ho R β G a w hr
 have hro:ro=none:=ho.elim (fun h=>h) (fun h=>by simp [mF] at h)
 subst hro
 refine wpIn_rangeFunc ?_
 intro fn _
 have e1:=hr.eval f;rw [hf] at e1
 obtain ⟨xs,hfv,hxl,hxs⟩:=jf e1 hc.lt
 obtain ⟨y,hy⟩:∃ y:cq,y=⟨ps,assign,body,false⟩:=⟨_,rfl⟩
 obtain ⟨D,hD⟩:∃ D,D=w.heap.size:=⟨_,rfl⟩
 obtain ⟨W1,hW1⟩:∃ W1,W1=(w.alloc (.deferred (some []))).alloc (.loop {state:=.ready,pending:=none,fn,tmps:=a.tmps,params:=ps,assign,body,defers:=w.heap.size}):=⟨_,rfl⟩
 have hrec:(Obj.loop {state:=.ready,pending:=none,fn,tmps:=a.tmps,params:=ps,assign,body,defers:=w.heap.size})= .loop (y.loop fn 0 a.tmps.toList D):=by subst hy hD;rfl
 have hsz1:W1.heap.size=D+2:=by subst hW1 hD;simp [World.size_alloc]
 have hold:∀ b,b < D→W1.heap[b]?=w.heap[b]?:=fun b hb=>by
  subst hW1 hD
  rw [Below.heap_alloc _ _ _ (by rw [World.size_alloc];omega),Below.heap_alloc _ _ _ hb]
 have hDh:W1.heap[D]?=some (.deferred (some [])):=by
  subst hW1 hD
  rw [Below.heap_alloc _ _ _ (by rw [World.size_alloc];omega)]
  exact World.alloc_heap_new w _
 have hlh:W1.heap[D+1]?=some (.loop (y.loop fn 0 a.tmps.toList D)):=by
  rw [← hrec]
  subst hW1 hD
  have:=World.alloc_heap_new (w.alloc (.deferred (some []))) (.loop {state:=.ready,pending:=none,fn,tmps:=a.tmps,params:=ps,assign,body,defers:=w.heap.size})
  rwa [World.size_alloc] at this
 have hRD:R.w0.heap.size≤D:=by rw [hD];exact hr.hp.keeps.size
 let G1:bE:=fun b=>if b=D then some (.deferred (some [])) else if b=D+1 then some (.loop (y.loop fn 0 a.tmps.toList D)) else G b
 have g1D:G1 D=some (.deferred (some [])):=by simp [G1]
 have g1l:G1 (D+1)=some (.loop (y.loop fn 0 a.tmps.toList D)):=by simp [G1]
 have hGlt:∀ b o,G b=some o→b < D:=fun b o hg=>by rw [hD];exact hP (hr.hp.gs b o hg)
 have g1o:∀ b,b < D→G1 b=G b:=fun b hb=>by simp only [G1];rw [if_neg aj,if_neg aj]
 have gm:∀ b o,G b=some o→G1 b=some o:=fun b o hg=>by rw [g1o b (hGlt b o hg)];exact hg
 have hgs1:∀ b o,G1 b=some o→W1.heap[b]?=some o:=fun b o hb=>by
  simp only [G1] at hb
  split at hb
  ·rename_i e;subst e;rw [hDh];exact hb
  ·split at hb
   ·rename_i e;subst e;rw [hlh];exact hb
   ·rw [hold b (hGlt b o hb)];exact hr.hp.gs b o hb
 obtain ⟨β1,hβ1⟩:∃ β1,β1=β.set gid (.gh (some (D+1,y))):=⟨_,rfl⟩
 have hgk:aW hp gid=none:=by
  cases hq:aW hp gid with
  |none=>rfl
  |some bk=>rw [dU hq] at hm2;cases hm2
 have hb1o:∀ i,i≠gid→β1 i=β i:=fun i hi=>by rw [hβ1];simp [cM.set,hi]
 have hb1g:β1 gid= .gh (some (D+1,y)):=by rw [hβ1];simp [cM.set]
 have hkeys:∀ i,i∈aV (hp++[(gid,(⟨1000000001,fr,false⟩:fZ))])↔i∈aV hp∨i=gid:=fun i=>by
  rw [cV,cV]
  simp only [dF,aW]
  constructor
  ·rintro ⟨bk,hbk⟩
   cases hq:aW hp i with
   |some b=>exact .inl ⟨b,rfl⟩
   |none=>
    rw [hq] at hbk
    simp only [Option.none_or] at hbk
    split at hbk
    ·rename_i e;exact .inr e.symm
    ·cases hbk
  ·rintro (⟨bk,hbk⟩|rfl)
   ·exact ⟨bk,by rw [hbk];rfl⟩
   ·exact ⟨_,by rw [hgk];simp;rfl⟩
 obtain ⟨ex',hex⟩:∃ ex',ex'=gN β1 (aV (hp++[(gid,(⟨1000000001,fr,false⟩:fZ))])):=⟨_,rfl⟩
 have hexA:∀ id b t,aW hp id≠none→β id= .at b t→ex' b:=fun id b t hid hβ=>by
  rw [hex]
  have hne:id≠gid:=fun e=>by subst e;exact hid hgk
  obtain ⟨bk,hbk⟩:=Option.ne_none_iff_exists'.1 hid
  exact ⟨id,(hkeys id).2 (.inl (cV.2 ⟨bk,hbk⟩)),.inl ⟨t,by rw [hb1o id hne];exact hβ⟩⟩
 have hexG:∀ id b y',aW hp id≠none→β id= .gh (some (b,y'))→ex' b:=fun id b y' hid hβ=>by
  rw [hex]
  have hne:id≠gid:=fun e=>by subst e;exact hid hgk
  obtain ⟨bk,hbk⟩:=Option.ne_none_iff_exists'.1 hid
  exact ⟨id,(hkeys id).2 (.inl (cV.2 ⟨bk,hbk⟩)),.inr ⟨y',by rw [hb1o id hne];exact hβ⟩⟩
 have hexL:ex' (D+1):=by rw [hex];exact ⟨gid,(hkeys gid).2 (.inr rfl),.inr ⟨y,hb1g⟩⟩
 have hexC:∀ b,ex' b→b=D+1∨((G b=none∨∃ z,G b=some z∧soft z=true)∧(R.w0.heap.size≤b∨R.ex b)∧b < D):=fun b hb=>by
  rw [hex] at hb
  obtain ⟨id,hid,hh⟩:=hb
  rcases (hkeys id).1 hid with hk|rfl
  ·obtain ⟨bk,hbk⟩:=cV.1 hk
   have hne:id≠gid:=fun e=>by subst e;rw [hgk] at hbk;cases hbk
   rw [hb1o id hne] at hh
   rcases hh with ⟨t,ht⟩|⟨y',hy'⟩
   ·obtain ⟨p1,p2,arr,p3,_⟩:=hr.hp.block hbk ht
    exact .inr ⟨.inl p1,p2,by rw [hD];exact hP p3⟩
   ·have h0:=hr.hp.blk id bk hbk
    unfold bW at h0
    rw [hy'] at h0
    obtain ⟨g1,⟨z,g2,g3⟩,_⟩:=(jg h0).2.2 b y' rfl
    exact .inr ⟨.inr ⟨z,g2,g3⟩,g1,hGlt b z g2⟩
  ·rw [hb1g] at hh
   rcases hh with ⟨t,ht⟩|⟨y',hy'⟩
   ·cases ht
   ·injection hy' with hy';injection hy' with hy';injection hy' with hy' _;exact .inl hy'.symm
 have hA:c9 ⟨W1,ex',G1,R.out,fW R⟩ β G1 hp W1:=by
  refine ⟨hgs1,fun id bk hi=>?_,hr.hp.inj,⟨rfl,rfl,rfl,Nat.le_refl _,fun _ _ _=>rfl⟩,fun b hb=>.inl hb,hr.hp.jv,hr.hp.ga⟩
  have:=hr.hp.blk id bk hi
  unfold bW at this ⊢
  cases hβ:β id with
  |no=>rw [hβ] at this;exact this
  |nil=>rw [hβ] at this;exact this
  |gh o=>
   rw [hβ] at this
   have:=Cv (w:=W1) (ex:=ex') (g:=G1) this aj fun l y' ho=>hexG id l y' (by rw [hi];simp) (by rw [hβ,ho])
   exact fv this gm fun u _ v hc=>hc.mono gm
  |«at» b t=>
   rw [hβ] at this
   obtain ⟨p1,p2,arr,p3,p4,p5,p6,p7⟩:=this
   have hlt:b < D:=by rw [hD];exact hP p3
   exact ⟨by rw [g1o b hlt];exact p1,.inr (hexA id b t (by rw [hi];simp) hβ),arr,by rw [hold b hlt];exact p3,p4,p5,p6,fun j x z hx hz=>(p7 j x z hx hz).mono gm⟩
 have hpg:=qY (lp':=ln.add R gid (D+1) D y aj) hA gid 1000000001 (some (D+1,y)) hgid hgidb aw (fr:=fr) (tm:=a.tmps.toList) (by rw [Array.length_toList];exact hr.size.symm)
  (fun j x z hx hz=>(hr.fr j x z hx (by simpa using hz)).mono gm) hm1 hm2 (fun i hi=>by simp [hi,ln.add]) ⟨by decide,by rw [hy],D,fn,by simp [ln.add],by show D < W1.heap.size;omega,by show D+1 < W1.heap.size;omega,hexL,g1l,g1D⟩
 rw [← hβ1] at hpg
 have hcargs:∀ (j:Nat) x z,(AV.yl gid y::caps)[j]?=some x→(Value.func (.yield (D+1)) #[] #[]::xs)[j]?=some z→Conc G1 β1 x z:=fun j x z hx hz=>by
  cases j with
  |zero=>simp at hx hz;subst hx;subst hz;subst hy;exact .yl hb1g
  |succ j=>
   simp at hx hz
   have:=(hxs j x z hx hz).mono gm
   rw [hβ1]
   exact this.gu (dC hm3 hx) _
 have hback:∀ (β':cM) (G':bE) (hp':Hp) (w3:World) (e:Exit) (T:Nat) (fr':List AV),jh e=some T→aW hp' gid=some ⟨T,fr',false⟩→Q e ⟨fr',fy hp' gid⟩→
   c9 ⟨W1,ex',G1,fun i=>if i=gid then some a.tmps.toList else R.out i,ln.add R gid (D+1) D y aj⟩ β' G' hp' w3→
   ∃ f7,(y.loop f7 (T - 1000000001) a.tmps.toList D).state≠.busy∧w3.heap[D+1]?=some (.loop (y.loop f7 (T - 1000000001) a.tmps.toList D))∧
    ∃ o',o'=Obj.loop {y.loop f7 (T - 1000000001) a.tmps.toList D with state:=.exhausted}∧∃ β2 G2,eE R β2 G2 ⟨fr',fy hp' gid⟩ {a with defers:=[{target:=.collected D,args:=#[]}]++a.defers} (w3.putObj (D+1) o'):=by
  intro β' G' hp' w3 e T fr' hj hgg hq hrh
  have hlpg:(ln.add R gid (D+1) D y aj) gid=some (D+1,D,y):=by simp [ln.add]
  obtain ⟨f7,r1,r2,r3,r4,r5,r6,r7⟩:=pW hrh hgid hgg (wG hj) (if_pos rfl) hlpg
  have gi:gi hp' (fy hp' gid):=fun i bk hi=>by
   rw [ik] at hi
   split at hi
   ·cases hi
   ·exact hi
  obtain ⟨Ds,d1,d2,d3⟩:=hr.defers
  have hdef:qR R.w0.heap.size G1 ({target:=.collected D,args:=#[]}::a.defers):=by
   refine ⟨D::Ds,by rw [d1];rfl,List.nodup_cons.2 ⟨fun hm=>?_,d2⟩,fun X hX=>?_⟩
   ·have:=hGlt D _ (d3 D hm).2;omega
   ·rcases List.mem_cons.1 hX with rfl|hX
    ·exact ⟨hRD,g1D⟩
    ·exact ⟨(d3 X hX).1,gm _ _ (d3 X hX).2⟩
  obtain ⟨G3,d7,m7,h7⟩:=nz (R:=R) (G:=G1) (w:=W1) (ds:={target:=.collected D,args:=#[]}::a.defers) hdef hgs1
   ⟨by rw [hW1];exact hr.hp.keeps.os,by rw [hW1];exact hr.hp.keeps.tape,by rw [hW1];exact hr.hp.keeps.output,by rw [hsz1];omega,fun k h1 h2=>by rw [hold k aj];exact hr.hp.keeps.block k h1 h2⟩
   (fun b hb=>by
    by_cases hlt:b < D
    ·rw [g1o b hlt] at hb;exact hr.hp.js b hb
    ·exact .inr (.inl aj))
   (fun b hb=>by
    rcases hexC b hb with rfl|⟨_,h2,_⟩
    ·exact .inl aj
    ·exact h2)
   (fun b hb=>by
    rcases hexC b hb with rfl|⟨h1,_,h3⟩
    ·exact .inr ⟨_,g1l,rfl⟩
    ·rw [g1o b h3];exact h1) (hrh.sub gi) (fun id bk o hid hβo hgb=>by
    have hn2:id≠gid:=fun e=>by
     subst e
     rw [ik,if_pos rfl] at hid;cases hid
    rcases hgb with ⟨outs',z0,z1,z2,z3⟩|⟨b,es,clock,e0,e1,e2,e3⟩
    ·refine .inl ⟨outs',by simpa only [hn2,if_false] using z0,z1,?_,z3⟩
     cases o with
     |none=>exact z2
     |some p=>
      obtain ⟨k0,km,D2,f2,k1,k2⟩:=z2
      have k1':fW R id=some (p.1,D2,p.2):=by
       have:(ln.add R gid (D+1) D y aj) id=fW R id:=by simp [ln.add,hn2]
       rw [← this];exact k1
      simp only [fW,Option.filter_eq_some_iff,Bool.and_eq_true,decide_eq_true_eq] at k1'
      exact ⟨k0,km,D2,f2,k1'.1,k1'.2.1.2,k1'.2.1.1,k1'.2.2,k2.2.2.2⟩
    ·refine .inr ⟨b,es,clock,e0,e1,?_,e3⟩
     rcases e2 with e2|e2
     ·simp only at e2;left;omega
     ·rcases hexC b e2 with rfl|⟨_,h2,_⟩
      ·left;omega
      ·exact h2)
  have hlG:=m7 _ _ r7
  obtain ⟨o',ho'⟩:∃ o':Obj,o'= .loop {y.loop f7 (T - 1000000001) a.tmps.toList D with state:=.exhausted}:=⟨_,rfl⟩
  have hun:=h7.KM (l:=D+1) aj hlG o'
  refine ⟨f7,?_,r2,o',ho',β',G3.del (D+1),?_,by rw [r3];simp,fun i x z hx hz=>((r4 i x z hx (by simpa using hz)).mono m7).vW (fun _ _=>rfl) fun _ _ h=>pX hlG h,hun⟩
  ·cases e with
   |normal=>injection hj with hj;subst hj;simp [cq.loop,Lp]
   |ret=>injection hj with hj;subst hj;simp [cq.loop,Lp]
   |exit id=>
    injection hj with hj;subst hj
    have e:1000000004+id - 1000000001=id+3:=by omega
    rw [e];simp [cq.loop,Lp]
   |goto t=>cases hj
   |panic c=>cases hj
   |outgrown=>cases hj
  ·obtain ⟨Es,e1,e2,e3⟩:=d7
   refine ⟨Es,e1,e2,fun X hX=>⟨(e3 X hX).1,?_⟩⟩
   have hX3:=(e3 X hX).2
   simp only [bE.del]
   rw [if_neg (fun e=>by rw [e,hlG] at hX3;cases hX3)]
   exact hX3
 have hcall:Calls P g (Value.func (.yield (D+1)) #[] #[]::xs).toArray W1 fun e w3=>∃ y',e= .returned y'∧∃ β' G' hp' e' T fr',jh e'=some T∧aW hp' gid=some ⟨T,fr',false⟩∧Q e' ⟨fr',fy hp' gid⟩∧
   c9 ⟨W1,ex',G1,fun i=>if i=gid then some a.tmps.toList else R.out i,ln.add R gid (D+1) D y aj⟩ β' G' hp' w3:=by
  subst hn
  refine fU (R:=⟨W1,ex',G1,fun i=>if i=gid then some a.tmps.toList else R.out i,ln.add R gid (D+1) D y aj⟩) (β:=β1) (G:=G1) hfn hb hrs
   (iR (args:=AV.yl gid y::caps) (vals:=Value.func (.yield (D+1)) #[] #[]::xs) (by simp [hxl]) hcargs hpg) (by have:=h;rw [← hy] at this;simpa only [List.length_cons] using this) fun e s' hq=>?_
  have key:(∃ s2 x e' T fr',Le s' s2∧RV P rs s2 x∧jh e'=some T∧aW s2.hp gid=some ⟨T,fr',false⟩∧Q e' ⟨fr',fy s2.hp gid⟩)→∃ s'' x,Le s' s''∧RV P rs s'' x∧∀ β2 G2 z w2,Conc G2 β2 x z→
    c9 ⟨W1,ex',G1,fun i=>if i=gid then some a.tmps.toList else R.out i,ln.add R gid (D+1) D y aj⟩ β2 G2 s''.hp w2→
    (fun (e:Ending) (w3:World)=>∃ y',e= .returned y'∧∃ β' G' hp' e' T fr',jh e'=some T∧aW hp' gid=some ⟨T,fr',false⟩∧Q e' ⟨fr',fy hp' gid⟩∧
     c9 ⟨W1,ex',G1,fun i=>if i=gid then some a.tmps.toList else R.out i,ln.add R gid (D+1) D y aj⟩ β' G' hp' w3) (.returned z) w2:=by
   rintro ⟨s2,x,e',T,fr',hle,hrv,hj,hgg,hq⟩
   exact ⟨s2,x,hle,hrv,fun β2 G2 z w2 _ hH=>⟨z,rfl,β2,G2,s2.hp,e',T,fr',hj,hgg,hq,hH⟩⟩
  cases e with
  |normal=>exact ⟨.inl rfl,key hq⟩
  |ret=>exact ⟨.inr rfl,key hq⟩
  |_=>exact hq.elim
 refine ⟨D+1,[{target:=.collected D,args:=#[]}],W1,{target:=.fn (.func g) xs.toArray,args:=#[.func (.yield (D+1)) #[] #[]]},W1,g,(.func (.yield (D+1)) #[] #[]::xs).toArray,W1,?_,?_,fun _ _=>trivial,?_,fun h=>by simp [iA,Fence.wide] at h,xD (hcall.mono ?_)⟩
 ·subst hW1 hD;exact run_enterLoop_outer _ _ _ _ _
 ·simp only [resolve,hfv]
  simp [go_sem]
 ·simp [invoke,hc.ok]
 rintro e w3 ⟨y',rfl,β',G',hp',e,T,fr',hj,hgg,hq,hrh⟩
 obtain ⟨f7,hnb,r2,o',ho',β2,G2,hrep⟩:=hback β' G' hp' w3 e T fr' hj hgg hq hrh
 have hend:=run_endLoop (P:=P) r2 hnb
 rw [← ho'] at hend
 refine ⟨_,_,hend,?_⟩
 have hT:∀ k,T=1000000001+k→(y.loop f7 (T - 1000000001) a.tmps.toList D).pending=O2 k:=fun k hk=>by
  rw [hk,Nat.add_sub_cancel_left];rfl
 generalize (y.loop f7 (T - 1000000001) a.tmps.toList D).pending=pp at hT ⊢
 cases e with
 |normal=>
  simp only [jh,Option.some.injEq] at hj
  rw [hT 0 aj]
  exact ⟨_,_,_,hq,hrep⟩
 |ret=>
  simp only [jh,Option.some.injEq] at hj
  rw [hT 2 aj]
  exact wpIn_ret ⟨_,_,_,hq,hrep⟩
 |exit id=>
  simp only [jh,Option.some.injEq] at hj
  rw [hT (id+3) aj]
  exact wpIn_exit ⟨_,_,_,hq,hrep⟩
 |goto t=>cases hj
 |panic c=>cases hj
 |outgrown=>cases hj
theorem jC {f:Operand} {ps:Array Tmp} {assign body:Code} {fr:List AV} {hp:Hp} {Q:Exit→St→Prop} {g:FuncId} {caps:List AV} [hc:cS P g] (gid:Nat) {fn0:Func} {c:Code} {n:Nat} {rs:Array ResultVar}
  (hf:(⟨fr,hp⟩:St).eval f= .fn g caps) (hgid:1000000000≤gid) (hm1:AV.bz gid fr=false) (hm2:cI gid hp=false) (hm3:AV.bz gid caps=false)
  (hfn:P.funcs[g]?=some fn0) (hn:fn0.ntmps=n) (hb:fn0.body=some c) (hrs:fn0.results=rs)
  (h:∀ y:cq,y.ps=ps→y.assign=assign→y.body=body→AW P c ⟨(.yl gid y::caps)++List.replicate (n - (caps.length+1)) .any,hp++[(gid,⟨1000000001,fr,false⟩)]⟩ (NA P rs gid Q))
  (hgidb:gid < 2000000000:=by decide):AW P (.rangeFunc f ps assign body) ⟨fr,hp⟩ Q:=wN gid hf hgid hm1 hm2 hm3 hfn hn hb hrs (h _ rfl rfl rfl) hgidb
end Go.Ab
set_option maxRecDepth 10000
namespace Go.Ab
open Go.RowKit
variable {P:Program}
def Enters (P:Program) (op:Op) (s:St) (f:FuncId) (as:List AV):Prop:=
 ∀ R β G a w,eE R β G s a w→∃ vals:List Value,zc G β as vals∧∀ (d:Option Tmp) (ty:TypeId) (pos:String) (bC:Array Edge) (g:Option (Nat×Bool)) (w':World),Ext w w'→(execOp a.eval ⟨d,op,ty,pos,bC,g⟩).run P w'= .ok (.enter f vals.toArray) w'
theorem Eb {s:St} {f:FuncId} {args:Array Operand} {eQ:Array TypeId} [hc:cS P f]:Enters P (.call {callee:=.value (.func f),args,argTypes:=eQ}) s f (cn s args):=fun R β G a w hr=>by
 obtain ⟨l1,l2⟩:=gw hr args
 refine ⟨(args.map a.eval).toList,⟨l1,l2⟩,fun d ty pos bC g w' _=>?_⟩
 rw [Array.toArray_toList]
 simp [execOp,resolve,Act.eval,Deferred.ofValue,invoke,hc.ok]
theorem Bo {s:St} {fo:Operand} {f:FuncId} {caps:List AV} {args:Array Operand} {eQ:Array TypeId} (hf:s.eval fo= .fn f caps) [hc:cS P f]:Enters P (.call {callee:=.value fo,args,argTypes:=eQ}) s f (cn s args++caps):=fun R β G a w hr=>by
 have e1:=hr.eval fo;rw [hf] at e1
 obtain ⟨xs,hfv,hxl,hxs⟩:=jf e1 hc.lt
 obtain ⟨l1,l2⟩:=gw hr args
 refine ⟨(args.map a.eval).toList++xs,⟨by simp [l1,hxl],fun j x y hx hy=>?_⟩,fun d ty pos bC g w' _=>?_⟩
 ·rcases Nat.lt_or_ge j (cn s args).length with hj|hj
  ·rw [List.getElem?_append_left hj] at hx
   rw [List.getElem?_append_left aj] at hy
   exact l2 j x y hx hy
  ·rw [List.getElem?_append_right hj] at hx
   rw [List.getElem?_append_right aj,← l1] at hy
   exact hxs _ x y hx hy
 ·have harr:((args.map a.eval).toList++xs).toArray=args.map a.eval++xs.toArray:=by
   apply Array.ext';simp
  rw [harr]
  simp [execOp,resolve,hfv,Deferred.ofValue,invoke,hc.ok]
theorem Bp {s:St} {fo:Operand} {T:TypeId} {name:String} {f:FuncId} {x0 r:AV} {args:Array Operand} {eQ:Array TypeId} (hf:s.eval fo= .fn (1000000000+T) [x0]) [hc:cS P f]
  (hm:∀ R β G a w,eE R β G s a w→∀ v,Conc G β x0 v→∃ u,Conc G β r u∧∀ w',Ext w w'→(method (P.types.size+Made.depth) T v name).run P w'= .ok (f,u) w') :
  Enters P (.call {callee:=.invoke fo name,args,argTypes:=eQ}) s f (r::cn s args):=fun R β G a w hr=>by
 have e1:=hr.eval fo;rw [hf] at e1
 obtain ⟨v,hv,hcv⟩:=zg e1 rfl
 obtain ⟨u,hu,hmt⟩:=hm R β G a w hr v hcv
 obtain ⟨l1,l2⟩:=gw hr args
 refine ⟨u::(args.map a.eval).toList,⟨by simp [l1],fun j x y hx hy=>?_⟩,fun d ty pos bC g w' he=>?_⟩
 ·cases j with
  |zero=>simp at hx hy;subst hx;subst hy;exact hu
  |succ j=>exact l2 j x y (by simpa using hx) (by simpa using hy)
 ·have hx2:(args.map a.eval).extract 0 args.size=args.map a.eval:=by
   apply Array.ext'
   simp
   exact List.take_of_length_le ax
  have h0:(#[Value.iface T v]++args.map a.eval)[0]?=some (Value.iface T v):=by rw [Array.getElem?_append_left ax];rfl
  have hx1:(#[Value.iface T v]++args.map a.eval).extract 1 (#[Value.iface T v]++args.map a.eval).size=args.map a.eval:=by
   first|(simp;done)|(simp;exact hx2)
  have hcm:(callMethod (.iface T v) name (args.map a.eval)).run P w'= .ok (.enter f (#[u]++args.map a.eval)) w':=by simp [callMethod,hmt w' he,hc.ok]
  have hiv:(invoke (.fn (.method name) #[]) (#[Value.iface T v]++args.map a.eval)).run P w'= .ok (.enter f (#[u]++args.map a.eval)) w':=by
   unfold invoke
   rw [h0]
   dsimp only
   rw [hx1]
   exact hcm
  have harr:(u::(args.map a.eval).toList).toArray=#[u]++args.map a.eval:=by
   apply Array.ext';simp
  rw [harr]
  simp [execOp,resolve,hv,hiv]
def Ec (P:Program) (T:TypeId) (name:String):Option (FuncId×Bool):=
 match P.info? T with
 |some i=>match i.methods.find? (fun m=>m.name == name) with
  |some m=>if m.path.isEmpty then m.func else none
  |none=>none
 |none=>none
theorem sw {T:TypeId} {name:String} {f:FuncId} {b:Bool} (h:Ec P T name=some (f,b)):∃ (i:TypeInfo) (m:Method),P.info? T=some i∧i.methods.find? (fun m=>m.name == name)=some m∧m.path=#[]∧m.func=some (f,b):=by
 unfold Ec at h
 split at h
 ·rename_i i hi
  split at h
  ·rename_i m hm
   split at h
   ·rename_i hp
    exact ⟨i,m,hi,hm,by simpa using hp,h⟩
   ·cases h
  ·cases h
 ·cases h
theorem FV {T:TypeId} {name:String} {f:FuncId} {e:TypeId} (hu:cJ P T (.pointer e)) (h:Ec P T name=some (f,true)) (v:Value) (w:World):(method (P.types.size+Made.depth) T v name).run P w= .ok (f,v) w:=by
 obtain ⟨i,m,hi,hm,hp,hf⟩:=sw h
 have e1:P.types.size+Made.depth=(P.types.size+99)+1:=by simp [Made.depth]
 rw [e1]
 simp [method,typeInfo,hi,hm,hp,hf,follow,receiverAt,run_underlying hu.ok,Place.get]
theorem FW {T:TypeId} {d:TypeDesc} (hu:cJ P T d) (hd:(match d with| .pointer _=>false|_=>true)=true) (v:Value) (wr:Option String) (w:World):(receiverAt T (.val v) false wr).run P w= .ok v w:=by
 unfold receiverAt
 rw [Sem.run_bind,run_underlying hu.ok,Result.andThen_ok]
 cases d<;>first|(cases hd;done)|rfl
theorem zt (xt:TypeId) (ad:Addr) (a b:ByteArray) (w:World):(Builtin.ssaWrapNilChk_ #[xt] xt #[.pointer (some ad),.string a,.string b]).run P w= .ok (.pointer (some ad)) w:=rfl
theorem Ed {T e:TypeId} (hu:cJ P T (.pointer e)) (ad:Addr) (u:Value) (wr:Option String) (w:World) (hl:(loadVar e ad).run P w= .ok u w):(receiverAt T (.val (.pointer (some ad))) false wr).run P w= .ok u w:=by
 unfold receiverAt
 rw [Sem.run_bind,run_underlying hu.ok,Result.andThen_ok]
 simp only [Place.get,Sem.run_bind,Sem.run_pure,Result.andThen_ok]
 cases wr with
 |none=>simpa [asAddr] using hl
 |some name=>
  simp only [strVal]
  rw [Sem.run_bind,zt,Result.andThen_ok]
  simpa [asAddr] using hl
theorem FX {T:TypeId} {name:String} {f:FuncId} {d:TypeDesc} (hu:cJ P T d) (hd:(match d with| .pointer _=>false|_=>true)=true) (h:Ec P T name=some (f,false)) (v:Value) (w:World):(method (P.types.size+Made.depth) T v name).run P w= .ok (f,v) w:=by
 obtain ⟨i,m,hi,hm,hp,hf⟩:=sw h
 have e1:P.types.size+Made.depth=(P.types.size+99)+1:=by simp [Made.depth]
 rw [e1]
 simp [method,typeInfo,hi,hm,hp,hf,follow,FW hu hd]
theorem Ee {T:TypeId} {name:String} {f:FuncId} {e:TypeId} (hu:cJ P T (.pointer e)) (h:Ec P T name=some (f,false)) (ad:Addr) (u:Value) (w:World) (hl:(loadVar e ad).run P w= .ok u w):(method (P.types.size+Made.depth) T (.pointer (some ad)) name).run P w= .ok (f,u) w:=by
 obtain ⟨i,m,hi,hm,hp,hf⟩:=sw h
 have e1:P.types.size+Made.depth=(P.types.size+99)+1:=by simp [Made.depth]
 rw [e1]
 simp [method,typeInfo,hi,hm,hp,hf,follow,Ed hu ad u _ w hl]
theorem sx {d:Tmp} {t el:TypeId} {len:Nat} {parts:Array (Nat×Operand)} {z:Value} {m bw:Nat} {ty:TypeId} {pos:String} {bC:Array Edge} {g:Option (Nat×Bool)} {s:St} {K:St→Prop}
  [hu:cJ P t (.slice el)] [hi:dm P el z m bw] (hsm:decide (0 < len * m)=true∧decide (len * m≤16777216)=true∧decide (len * bw≤140737488355328)=true)
  (hd:pw 0 (bJ s parts)=true) (hl:(bJ s parts).length=len) (hok:eb (fun i=>some (i * m,m)) (len * m) (bJ s parts)=true)
  (id:Nat) (hf:s.free id=true) (hm:AV.bz id ((bJ s parts).flatMap fun p=>p.2.cells)=false)
  (hk:K ⟨s.fr.set d (.sl m bw id 0 len),cK s.hp id ⟨el,(bJ s parts).flatMap (fun p=>p.2.cells),true⟩⟩):dz P ⟨some d,.buildSlice t len parts,ty,pos,bC,g⟩ s K:=by
 intro R β G a w Q hr
 obtain ⟨s1,s2,s3⟩:=hsm
 simp only [decide_eq_true_eq] at s1 s2 s3
 obtain ⟨ie,hie,hz0,hse,_⟩:=hi.ok
 obtain ⟨p1,p2⟩:=kL hr parts
 have hps:=lG (m:=m) (by intro i o s h;simp at h;exact h.2.symm) _ hok
 have hok':eb (fun i=>some (i * m,m)) (List.replicate (len * m) AV.any).length (bJ s parts)=true:=by simpa using hok
 obtain ⟨zs',e1,e2,e3⟩:=mE (G:=G) (β:=β) (place:=fun i=>some (i * m,m)) (bJ s parts) _ (List.replicate (len * m) .any) ((Array.range (len * m)).map (z.cells[· % z.cells.size]!)) p1 ax hok' p2
  (fun j x y hx hy=>by
   rw [List.getElem?_replicate] at hx
   split at hx<;>simp at hx
   subst hx;exact .any)
 have hfill:fV (fun i=>some (i * m)) (List.replicate (len * m) AV.any) (bJ s parts)=(bJ s parts).flatMap fun p=>p.2.cells:=by
  have:=lF (m:=m) (bJ s parts) 0 [] (List.replicate (len * m) AV.any) hd ax (by simp [hl]) hps
  simpa using this
 have e2':(fV (fun i=>some (i * m)) (List.replicate (len * m) AV.any) (bJ s parts)).length=zs'.size:=e2
 have e3':∀ (j:Nat) x y,(fV (fun i=>some (i * m)) (List.replicate (len * m) AV.any) (bJ s parts))[j]?=some x→zs'[j]?=some y→Conc G β x y:=e3
 rw [hfill] at e2' e3'
 have hrun:(Instr.buildSlice t len (parts.map fun (i,x)=>(i,a.eval x))).run P w= .ok (.slice (some ⟨w.heap.size,0,none⟩) len len) (w.alloc (.cells zs' el)):=
  run_buildSlice w t el len _ zs' ie z hu.ok hie hz0 (by rw [hse];omega) (by rw [hse];omega) (by rw [hse];exact e1)
 have hzl:zs'.size=len * m:=by
  rw [← e2']
  have hes:∀ e∈(bJ s parts).map (·.2),e.cells.length=m:=fun e he=>by
   obtain ⟨p,hp,rfl⟩:=List.mem_map.1 he
   exact hps p hp
  have hfm:((bJ s parts).map (·.2)).flatMap AV.cells=(bJ s parts).flatMap fun p=>p.2.cells:=by rw [List.flatMap_map]
  rw [← hfm,jb hes];simp [hl]
 have h2:=hr.nY hf el ((bJ s parts).flatMap fun p=>p.2.cells) zs' true aj (fun _=>e2') e3' hm
 unfold Oper.wp
 have hexec:(execOp a.eval ⟨some d,.buildSlice t len parts,ty,pos,bC,g⟩).run P w= .ok (.value (.slice (some ⟨w.heap.size,0,none⟩) len len)) (w.alloc (.cells zs' el)):=by
  simp only [execOp,Sem.run_bind,hrun,Result.andThen_ok];rfl
 rw [hexec,Oper.upon_value]
 have hm1:0 < m:=by
  rcases Nat.eq_zero_or_pos m with h|h
  ·subst h;omega
  ·exact h
 have hlm:len≤maxLen:=by
  have:len * 1≤len * m:=Nat.mul_le_mul_left _ hm1
  simp only [maxLen];omega
 exact ⟨(Below.refl _ _).alloc (Nat.le_refl _) _,_,_,_,hk,h2.put (some d) (.sl (t:=zs'.size) aG (Nat.le_refl _) (by rw [hzl];omega) hlm s3)⟩
theorem zu {d:Option Tmp} {op:Op} {f:FuncId} {as:List AV} {ty:TypeId} {pos:String} {bC:Array Edge} {g:Option (Nat×Bool)} {fr:List AV} {hp:Hp} {K:St→Prop} {fn:Func} {c:Code} {n:Nat} {rs:Array ResultVar} (gid:Nat)
  (he:Enters P op ⟨fr,hp⟩ f as) (hf:P.funcs[f]?=some fn) (hb:fn.body=some c) (hn:fn.ntmps=n) (hrs:fn.results=rs) (hgid:1000000000≤gid) (hgidb:gid < 2000000000) (hm1:AV.bz gid fr=false) (hm2:cI gid hp=false) (hm3:AV.bz gid as=false)
  (h:AW P c ⟨as++List.replicate (n - as.length) .any,hp++[(gid,eO fr)]⟩ (Lw P rs gid d K)):eR P ⟨d,op,ty,pos,bC,g⟩ ⟨fr,hp⟩ K:=by
 intro R β G a w Q' hr
 obtain ⟨vals,⟨l1,l2⟩,hrun⟩:=he R β G a w hr
 unfold Oper.wp
 rw [hrun d ty pos bC g w (Below.refl _ _),Oper.upon_enter]
 have:=rf hr (d:=d) (K:=K) hf hb hn hrs hgid hgidb hm1 hm2 hm3 l1 l2 h
 refine this.mono fun e w' ⟨y,he,hh⟩=>?_
 subst he
 exact hh
def Bq:AV→AV
 | .agg _=>.any
 | .dr _=>.any
 |x=>x
def chunk (sz:Nat):Nat→List AV→List AV
 |0,_=>[]
 |k+1,l=>(bif Nat.beq sz 1 then Bq (l.headD .any) else .agg (l.take sz))::chunk sz k (l.drop sz)
theorem uL (x:AV):(Bq x).cells=[Bq x]:=by cases x<;>rfl
theorem iU (sz k:Nat) (l:List AV):(chunk sz k l).length=k:=by
 induction k generalizing l with
 |zero=>rfl
 |succ k ih=>simp [chunk,ih]
theorem oA {sz:Nat}:∀ (k:Nat) (l:List AV),k * sz≤l.length→∀ e∈chunk sz k l,e.cells.length=sz
 |0,_,_,e,h=>by simp [chunk] at h
 |k+1,l,hl,e,h=>by
  have h1:sz≤l.length:=by rw [Nat.succ_mul] at hl;omega
  rcases List.mem_cons.1 h with rfl|h
  ·cases hs:Nat.beq sz 1 with
   |true=>simp only [cond_true,uL];exact (Nat.eq_of_beq_eq_true hs).symm
   |false=>simp only [cond_false,AV.cells,List.length_take];omega
  ·exact oA k (l.drop sz) (by rw [Nat.succ_mul] at hl;rw [List.length_drop];omega) e h
theorem sy {sz:Nat}:∀ (k:Nat) (l:List AV),k * sz≤l.length→∀ (j:Nat) x,((chunk sz k l).flatMap AV.cells)[j]?=some x→x= .any∨l[j]?=some x
 |0,_,_,j,x,h=>by simp [chunk] at h
 |k+1,l,hl,j,x,h=>by
  have h1:sz≤l.length:=by rw [Nat.succ_mul] at hl;omega
  have hrest:∀ i,((chunk sz k (l.drop sz)).flatMap AV.cells)[i]?=some x→x= .any∨l[sz+i]?=some x:=fun i hi=>by
   have:=sy k (l.drop sz) (by rw [Nat.succ_mul] at hl;rw [List.length_drop];omega) i x hi
   rwa [List.getElem?_drop] at this
  simp only [chunk,List.flatMap_cons] at h
  cases hs:Nat.beq sz 1 with
  |true=>
   have e1:=Nat.eq_of_beq_eq_true hs
   subst e1
   replace h:((Bq (l.headD .any)).cells++(chunk 1 k (l.drop 1)).flatMap AV.cells)[j]?=some x:=h
   rw [uL] at h
   cases j with
   |zero=>
    have h:Bq (l.headD .any)=x:=by simpa using h
    cases l with
    |nil=>simp at h1
    |cons a r=>
     replace h:Bq a=x:=h
     cases a<;>simp only [Bq] at h<;>first|exact .inl h.symm|(right;simp [h])
   |succ j=>
    have:=hrest j (by simpa using h)
    rwa [Nat.add_comm] at this
  |false=>
   simp only [hs,cond_false,AV.cells] at h
   rcases Nat.lt_or_ge j sz with hj|hj
   ·rw [List.getElem?_append_left aE] at h
    rw [List.getElem?_take_of_lt hj] at h
    exact .inr h
   ·rw [List.getElem?_append_right aE] at h
    simp only [List.length_take,Nat.min_eq_left h1] at h
    have:=hrest (j - sz) h
    rwa [show sz+(j - sz)=j by omega] at this
def dY:Nat→Hp→AV→AV
 |0,_,x=>if x.fm=true then x else .any
 |n+1,hp,x=>match x with
  | .any=>.any
  | .v x=>.v x
  | .cr a b l=>.cr a b l
  | .bx l=>.bx l
  | .agg cs=>.agg (cs.map (dY n hp))
  | .dr cs=>.dr (cs.map (dY n hp))
  | .fn f cs=>.fn f (cs.map (dY n hp))
  | .yl _ _=>.any
  | .ptr id off=>match aW hp id with
   |some ⟨T,cs,_⟩=>if T < 1000000000 then .bx ((cs.drop off).map (dY n hp)) else .any
   |none=>.any
  | .sl sz bw id off k=>match aW hp id with
   |some ⟨T,cs,_⟩=>if T < 1000000000∧off+k * sz≤cs.length then .cr sz bw (chunk sz k ((cs.drop off).map (dY n hp))) else .any
   |none=>.any
def seen (w:World):bE:=fun b=>w.heap[b]?
theorem uM {w:World} {b t:Nat} {arr:Array Value} {T:TypeId} {f:Nat×Nat} (h:w.heap[b]?=some (.cells arr T f)) (off j:Nat):dO (seen w) ((⟨b,off,none⟩:Addr).add j)=arr[off+j]?:=by
 rw [Addr.eV]
 unfold dO seen
 simp [h]
theorem sA {R:Rg} {β:cM} {G:bE} {hp:Hp} {w:World} (h:c9 R β G hp w):∀ (n:Nat) (x:AV) (y:Value),Conc G β x y→Conc (seen w) lj (dY n hp x) y
 |0,x,y,hc=>by
  unfold dY
  split
  ·rename_i hp';exact (hc.mu hp' lj).mono fun b o hb=>h.gs b o hb
  ·exact .any
 |n+1,x,y,hc=>by
  have hs:∀ b o,G b=some o→seen w b=some o:=fun b o hb=>h.gs b o hb
  have hl:∀ {cs:List AV} {xs:List Value},(∀ (j:Nat) x y,cs[j]?=some x→xs[j]?=some y→Conc G β x y)→∀ (j:Nat) x y,(cs.map (dY n hp))[j]?=some x→xs[j]?=some y→Conc (seen w) lj x y:=fun {cs xs} hh j x y hx hy=>by
   rw [List.getElem?_map,Option.map_eq_some_iff] at hx
   obtain ⟨u,hu,rfl⟩:=hx
   exact sA h n u y (hh j u y hu hy)
  cases hc with
  |any=>exact .any
  |v=>exact .v
  |agg xs hl' hh=>exact .agg xs (by simpa using hl') (hl hh)
  |dr xs hl' hh=>exact .dr xs (by simpa using hl') (hl hh)
  |fn xs hf hl' hh=>exact .fn xs hf (by simpa using hl') (hl hh)
  |qC hh=>exact .qC (sA h n _ _ hh)
  |yl _=>exact .any
  |cr ys hu hl' hc hb hA hr hs'=>exact .cr ys hu hl' hc hb hA (fun j y hy=>let ⟨a,ha,hg⟩:=hr j y hy;⟨a,ha,iL hs hg⟩) fun j x y hx hy=>(hs' j x y hx hy).mono hs
  |bx ys hl' hr hs'=>exact .bx ys hl' (fun j y hy=>iL hs (hr j y hy)) fun j x y hx hy=>(hs' j x y hx hy).mono hs
  |@ptr _ id off b t hβ=>
   simp only [dY]
   split
   ·rename_i T cs fl hb
    split
    ·rename_i hT
     obtain ⟨g1,g2,arr,g3,g4,g5,g6,g7⟩:=h.block hb hβ
     have hlen:cs.length≤arr.size:=by rw [g4];exact g5
     refine .bx ((arr.toList.drop off).take (cs.length - off)) aE (fun j y hy=>?_) (hl fun j x y hx hy=>?_)
     ·rw [uM (t:=t) g3]
      rw [List.getElem?_take] at hy
      split at hy
      ·rw [List.getElem?_drop] at hy;simpa using hy
      ·cases hy
     ·rw [List.getElem?_drop] at hx
      rw [List.getElem?_take] at hy
      split at hy
      ·rw [List.getElem?_drop] at hy;exact g7 _ x y hx (by simpa using hy)
      ·cases hy
    ·exact .any
   ·exact .any
  |@j5 _ sz bw id hβ=>
   simp only [dY]
   split
   ·split
    ·simp only [chunk]
     exact Conc.cr (A:=none) (c:=0) [] ax ax ax ax ax ax ax
    ·exact .any
   ·exact .any
  |@sl _ sz bw id off k c b t hβ hn ht hm hb'=>
   simp only [dY]
   split
   ·rename_i T cs fl hb
    split
    ·rename_i hT
     obtain ⟨g1,g2,arr,g3,g4,g5,g6,g7⟩:=h.block hb hβ
     have hlen:cs.length≤arr.size:=by rw [g4];exact g5
     have hdl:k * sz≤((cs.drop off).map (dY n hp)).length:=by simp;omega
     have key:=Conc.cr (G:=seen w) (β:=lj) (sz:=sz) (bw:=bw) (es:=chunk sz k ((cs.drop off).map (dY n hp))) (A:=some ⟨b,off,none⟩) (c:=c) ((arr.toList.drop off).take (k * sz))
      (oA k _ hdl) (by rw [iU];simp;omega) (by rw [iU];exact hn) (by rw [iU];exact hb') (fun _=>by simp) (fun j y hy=>⟨_,rfl,by
       rw [uM (t:=t) g3]
       rw [List.getElem?_take] at hy
       split at hy
       ·rw [List.getElem?_drop] at hy;simpa using hy
       ·cases hy⟩) (fun j x y hx hy=>by
       rcases sy k _ hdl j x hx with rfl|hx
       ·exact .any
       ·refine hl (cs:=cs.drop off) (xs:=(arr.toList.drop off).take (k * sz)) (fun j x y hx hy=>?_) j x y hx hy
        rw [List.getElem?_drop] at hx
        rw [List.getElem?_take] at hy
        split at hy
        ·rw [List.getElem?_drop] at hy;exact g7 _ x y hx (by simpa using hy)
        ·cases hy)
     rw [iU] at key
     exact key
    ·exact .any
   ·exact .any
mutual
def AV.clean:AV→Bool
 | .any=>true
 | .v _=>true
 | .ptr _ _=>true
 | .sl _ _ _ _ _=>true
 | .agg cs=>AV.lZ cs
 | .dr cs=>AV.lZ cs
 | .fn _ cs=>AV.lZ cs
 | .cr _ _ es=>es.isEmpty
 | .bx _=>false
 | .yl _ y=>y.mp
def AV.lZ:List AV→Bool
 |[]=>true
 |x::r=>AV.clean x&&AV.lZ r
end
theorem jD:∀ {cs:List AV} {j:Nat} {x:AV},AV.lZ cs=true→cs[j]?=some x→AV.clean x=true
 |[],_,_,_,h=>by simp at h
 |c::cs,0,x,h,hx=>by simp at hx;subst hx;simp [AV.lZ] at h;exact h.1
 |c::cs,j+1,x,h,hx=>by simp at hx;simp [AV.lZ] at h;exact jD h.2 hx
theorem Conc.clean {G G':bE} {β:cM} {x:AV} {y:Value} (h:Conc G β x y) (hc:x.clean=true):Conc G' β x y:=by
 induction h with
 |any=>exact .any
 |v=>exact .v
 |agg xs hl _ ih=>exact .agg xs hl fun j x y hx hy=>ih j x y hx hy (jD (by simpa [AV.clean] using hc) hx)
 |dr xs hl _ ih=>exact .dr xs hl fun j x y hx hy=>ih j x y hx hy (jD (by simpa [AV.clean] using hc) hx)
 |fn xs hf hl _ ih=>exact .fn xs hf hl fun j x y hx hy=>ih j x y hx hy (jD (by simpa [AV.clean] using hc) hx)
 |qC _ ih=>exact .qC (ih (by simpa [AV.clean,AV.lZ] using hc))
 |ptr h=>exact .ptr h
 |j5 h=>exact .j5 h
 |sl h hn ht hm hb=>exact .sl h hn ht hm hb
 |yl h=>exact .yl h
 |@cr β sz bw es A c ys hu hl hcc hb hA hr hs _=>
  simp only [AV.clean,List.isEmpty_iff] at hc
  subst hc
  have:ys=[]:=by simpa using hl
  subst this
  exact Conc.cr [] ax ax hcc hb ax ax ax
 |bx _ _ _ _=>cases hc
def rh:Hp→Bool
 |[]=>true
 |(_,b)::r=>AV.lZ b.cs&&rh r
theorem sX:∀ {hp:Hp} {i:Nat} {bk:fZ},rh hp=true→aW hp i=some bk→AV.lZ bk.cs=true
 |[],_,_,_,h=>by simp [aW] at h
 |(j,b)::r,i,bk,h,hb=>by
  simp only [rh,Bool.and_eq_true] at h
  simp only [aW] at hb
  split at hb
  ·injection hb with hb;subst hb;exact h.1
  ·exact sX h.2 hb
theorem sY {d:Option Tmp} {op:Op} {f:FuncId} {as zs:List AV} {ty:TypeId} {pos:String} {bC:Array Edge} {g:Option (Nat×Bool)} {s:St} {K:St→Prop} {ids:List Nat} {Q:AV→Hp→Prop} (n:Nat)
  (he:Enters P op s f as) (hz:as.map (dY n s.hp)=zs) (h:dn P f zs ids Q) (hfree:∀ id∈ids,s.free id=true) (hk:∀ x hp,Q x hp→(x.clean&&rh hp)=true∧K ⟨(s.put d x).fr,hp++s.hp⟩):dz P ⟨d,op,ty,pos,bC,g⟩ s K:=by
 intro R β G a w Q' hr
 obtain ⟨vals,⟨l1,l2⟩,hrun⟩:=he R β G a w hr
 unfold Oper.wp
 rw [hrun d ty pos bC g w (Below.refl _ _),Oper.upon_enter]
 have hzl:uc (seen w) zs vals:=by
  subst hz
  refine ⟨by simpa using l1,fun j x y hx hy=>?_⟩
  rw [List.getElem?_map,Option.map_eq_some_iff] at hx
  obtain ⟨u,hu,rfl⟩:=hx
  exact sA hr.hp n u y (l2 j u y hu hy)
 have:=h (fun id hid=>gg (hfree id hid)) (seen w) w vals (fun b o hb=>hb) hzl
 refine this.mono fun e w' ⟨y,G',β',x,hp',he,hQ,hwi,hcx,hrh⟩=>?_
 subst he
 obtain ⟨hcl,hkk⟩:=hk x hp' hQ
 simp only [Bool.and_eq_true] at hcl
 have hext:=c9.ext hrh
 let G2:bE:=fun b=>if b < w.heap.size then G b else G' b
 have g2a:∀ b,b < w.heap.size→G2 b=G b:=fun b hb=>by simp [G2,hb]
 have g2b:∀ b,w.heap.size≤b→G2 b=G' b:=fun b hb=>by simp only [G2];rw [if_neg aj]
 have hrh2:c9 ⟨w,fun _=>False,G,fun _=>none,ln.no⟩ β' G2 hp' w':=by
  refine ⟨fun b o hb=>?_,fun id bk hi=>?_,hrh.inj,⟨hrh.keeps.os,hrh.keeps.tape,hrh.keeps.output,hrh.keeps.size,hrh.keeps.block⟩,fun b hb=>?_,hrh.jv,hrh.ga⟩
  ·by_cases hlt:b < w.heap.size
   ·rw [g2a b hlt] at hb
    rw [hext.block b hlt];exact hr.hp.gs b o hb
   ·rw [g2b b aj] at hb;exact hrh.gs b o hb
  ·have hb:=hrh.blk id bk hi
   have hcs:=sX hcl.2 hi
   unfold bW at hb ⊢
   cases hβ:β' id with
   |no=>rw [hβ] at hb;exact hb
   |nil=>rw [hβ] at hb;exact hb
   |«at» b t=>
    rw [hβ] at hb
    obtain ⟨g1,g2,arr,g3,g4,g5,g6,g7⟩:=hb
    have hge:w.heap.size≤b:=g2.elim (fun h=>h) (fun h=>h.elim)
    exact ⟨by rw [g2b b hge];exact g1,.inl hge,arr,g3,g4,g5,g6,fun j u v hu hv=>(g7 j u v hu hv).clean (jD hcs hu)⟩
   |gh o=>
    rw [hβ] at hb
    rcases hb with ⟨_,h0,_⟩|⟨b,es,clock,e0,e1,e2,e3,e4,e5⟩
    ·cases h0
    ·have hge:w.heap.size≤b:=e2.elim (fun h=>h) (fun h=>h.elim)
     exact .inr ⟨b,es,clock,e0,e1,.inl hge,by rw [g2b b hge];exact e3,e4,fun j u v hu hv=>(e5 j u v hu hv).clean (jD hcs hu)⟩
  ·by_cases hlt:b < w.heap.size
   ·rw [g2a b hlt] at hb;exact .inl hb
   ·exact .inr (.inl (by show w.heap.size≤b;omega))
 obtain ⟨β2,G3,h3⟩:=ud (d:=d) hr hfree hwi (hcx.clean (G':=G2) hcl.1) hrh2
 exact ⟨hext,β2,G3,_,hkk,h3⟩
theorem Br {d:Option Tmp} {op:Op} {f:FuncId} {as:List AV} {x:AV} {ty:TypeId} {pos:String} {bC:Array Edge} {g:Option (Nat×Bool)} {s:St} {K:St→Prop}
  (he:Enters P op s f as) (h:bg P f as (fun r=>r=x)) (hp:AV.cj as=true) (hk:K (s.put d x)):dz P ⟨d,op,ty,pos,bC,g⟩ s K:=by
 intro R β G a w Q' hr
 obtain ⟨vals,⟨l1,l2⟩,hrun⟩:=he R β G a w hr
 unfold Oper.wp
 rw [hrun d ty pos bC g w (Below.refl _ _),Oper.upon_enter]
 have hcl:uc G as vals:=⟨l1,fun j x y hx hy=>(l2 j x y hx hy).mu (fw hp hx) lj⟩
 refine (h G w vals hr.hp.gs hcl).mono fun e w' ⟨y,G',x',he,hQ,hcx,hd,hG',hext⟩=>?_
 subst he hQ
 obtain ⟨G'',hr',hm⟩:=hr.later hext hG' hd
 exact ⟨hext,β,G'',_,hk,hr'.put d ((hcx.mono hm).free β)⟩
theorem uN {ops:Array Oper} {hs:List Nat} {f:Nat} {listed:Array Bool} {s:St} {K:St→Prop} (hne:Region.ready .any ops listed≠[]) (h:∀ i∈Region.ready .any ops listed,sh P ops hs f listed i s K):dg P ops hs (f+1) listed s K:=by
 intro R β G a w hrep hcl
 exact ⟨fun h=>absurd h hne,fun k hk=>h k hk R β G a w hrep hcl hk⟩
theorem Cy {ops:Array Oper} {hs:List Nat} {f:Nat} {listed:Array Bool} {s:St} {K:St→Prop} {d:Option Tmp} {op:Go.Op} {ty:TypeId} {pos:String} {bC:Array Edge} {j t:Nat} {b:Bool} {u:Value} {i:Nat} (hi:ops[i]?=some ⟨d,op,ty,pos,bC,some (j,b)⟩)
  (ht:(ops[j]?).bind (·.dst)=some t) (hc:s.fr[t]?=some (.v u)) (hu:(match u with| .bool c=>c != b|_=>true)=true)
  (h:dg P ops hs f (listed.setIfInBounds i true) (s.put d (.v undef)) K):sh P ops hs f listed i s K:=by
 intro R β G a w hrep hcl hmem
 have hg:=fX hrep ht hc
 have hw:Region.wanted (⟨d,op,ty,pos,bC,some (j,b)⟩:Oper) (yielded ops a.tmps)=false:=by
  simp only [Region.wanted,hg]
  cases u<;>simp at hu ⊢
  exact hu
 unfold wpOp
 simp only [hi]
 rw [if_neg (by rw [hw];simp)]
 exact ⟨fun _=>Below.refl _ _,h R β G _ w (hrep.put d .v) (hcl.set hmem)⟩
theorem p9 {all:Array Oper} {rest:List Oper} {d:Option Tmp} {op:Op} {ty:TypeId} {pos:String} {bC:Array Edge} {s:St} {K:St→Prop} {j t:Nat} {b:Bool} {u:Value}
  (ht:(all[j]?).bind (·.dst)=some t) (hc:s.fr[t]?=some (.v u)) (hu:(match u with| .bool c=>c != b|_=>true)=true) (h:db P all rest (s.put d (.v undef)) K):db P all (⟨d,op,ty,pos,bC,some (j,b)⟩::rest) s K:=by
 intro ro R β G a w hr
 have hg:=fX hr ht hc
 have hw:Region.wanted (⟨d,op,ty,pos,bC,some (j,b)⟩:Oper) (yielded all a.tmps)=false:=by
  simp only [Region.wanted,hg]
  cases u<;>simp at hu ⊢
  exact hu
 simp only [wpListIn,hw,Bool.false_eq_true,if_false]
 exact ⟨fun _ _=>trivial,h ro R β G _ w (hr.put d .v)⟩
end Go.Ab
