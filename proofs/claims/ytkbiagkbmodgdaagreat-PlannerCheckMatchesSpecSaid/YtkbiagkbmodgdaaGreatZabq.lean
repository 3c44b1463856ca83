/- Part of a proof. No condition. -/
import Derived.Test.YtkbiagkbmodgdaaGreatZabo
set_option linter.unusedSimpArgs false
set_option linter.unusedVariables false
set_option maxRecDepth 10000
namespace Go.Ab
open Go.RowKit
variable {P:Program} {γ:Type}
structure Cf where
 bh:Nat→Option TI
 fs:List Nat
 inl:List Nat
 dp:Nat
 kn:List (FuncId×List AV×AV):=[]
class mi (P:Program) (C:Cf):Prop where
 tb:Tb P C.bh
 fs:∀ f,eB f C.fs=true→cI P f
 mo:P.follows .mixedOrders=true
 kn:∀ e∈C.kn,bm P e.1 e.2.1 (fun r=>r=e.2.2)∧AV.cu e.2.1=true
def PR.get:PR→Option AV
 | .ok x=>some x
 |@PR.ex _ dc f=>match dc with
  | .isTrue h=>some (f h)
  | .isFalse _=>none
 | .no=>none
theorem xN {op:Op} {s:St} {r:PR} {x:AV} (h:wm P op s r) (hg:r.get=some x):PV P op s x:=by
 cases r with
 |ok y=>injection hg with hg;subst hg;exact h
 |@ex c dc f=>
  cases dc with
  |isTrue hc=>injection hg with hg;subst hg;exact h hc
  |isFalse _=>cases hg
 |no=>cases hg
def fN (n:Nat) (k:Nat→γ):γ:=bif Nat.beq n 0 then k 0 else k n
theorem rY (n:Nat) (k:Nat→γ):fN n k=k n:=by
 unfold fN;cases h:Nat.beq n 0 with
 |true=>rw [qb6 h];rfl
 |false=>rfl
def fI (x:Int) (k:Int→γ):γ:=match x with
 | .ofNat m=>fN m fun m=>k (.ofNat m)
 | .negSucc m=>fN m fun m=>k (.negSucc m)
theorem SY (n:Int) (k:Int→γ):fI n k=k n:=by cases n<;>simp [fI,rY]
def fB (b:Bool) (k:Bool→γ):γ:=match b with
 |true=>k true
 |false=>k false
theorem P3 (b:Bool) (k:Bool→γ):fB b k=k b:=by cases b<;>rfl
def Cw (x:AV) (k:AV→γ):γ:=match x with
 | .any=>k .any
 | .v (.int kd n)=>fI n fun n=>k (.v (.int kd n))
 | .v (.bool b)=>fB b fun b=>k (.v (.bool b))
 | .v y=>k (.v y)
 | .agg cs=>k (.agg cs)
 | .dC cs=>k (.dC cs)
 | .cD a b es=>k (.cD a b es)
 | .bC cs=>k (.bC cs)
 | .ptr i o=>fN i fun i=>fN o fun o=>k (.ptr i o)
 | .sl a b i o n=>fN i fun i=>fN o fun o=>fN n fun n=>k (.sl a b i o n)
 | .fn f cs=>k (.fn f cs)
 | .yl i y=>k (.yl i y)
theorem Cx (x:AV) (k:AV→γ):Cw x k=k x:=by
 cases x with
 |v y=>cases y<;>simp [Cw,SY,P3]
 |_=>simp [Cw,rY]
def vV:List AV→(List AV→γ)→γ
 |[],k=>k []
 |x::r,k=>Cw x fun x=>vV r fun r=>k (x::r)
theorem ig:∀ (l:List AV) (k:List AV→γ),vV l k=k l
 |[],_=>rfl
 |x::r,k=>by rw [vV,Cx,ig r]
def UC (x:AV) (k:AV→γ):γ:=match x with
 | .agg cs=>vV cs fun cs=>k (.agg cs)
 | .dC cs=>vV cs fun cs=>k (.dC cs)
 | .cD a b es=>vV es fun es=>k (.cD a b es)
 | .bC cs=>vV cs fun cs=>k (.bC cs)
 | .fn f cs=>vV cs fun cs=>k (.fn f cs)
 |x=>Cw x k
theorem QM (x:AV) (k:AV→γ):UC x k=k x:=by
 cases x<;>simp [UC,ig,Cx]
def yX:Nat→AV→List AV→(List AV→γ)→γ
 |_,_,[],k=>k []
 |0,x,_::r,k=>k (x::r)
 |n+1,x,y::r,k=>yX n x r fun r=>k (y::r)
theorem ny:∀ (n:Nat) (x:AV) (l:List AV) (k:List AV→γ),yX n x l k=k (l.set n x)
 |0,x,[],k=>rfl
 |n+1,x,[],k=>rfl
 |0,x,y::r,k=>rfl
 |n+1,x,y::r,k=>by rw [yX,ny n];rfl
def mN (id:Nat) (b:iB):Hp→(Hp→γ)→γ
 |[],k=>k [(id,b)]
 |(i,b0)::r,k=>bif Nat.beq i id then k ((i,b)::r) else mN id b r fun r=>k ((i,b0)::r)
theorem ij (id:Nat) (b:iB):∀ (hp:Hp) (k:Hp→γ),mN id b hp k=k (cP hp id b)
 |[],k=>rfl
 |(i,b0)::r,k=>by
  rw [mN,cP];cases h:Nat.beq i id with
  |true=>rw [if_pos (qb6 h)];rfl
  |false=>rw [if_neg (Nat.ne_of_beq_eq_false h)];exact ij id b r _
def Sd:Hp→(Hp→γ)→γ
 |[],k=>k []
 |(i,b)::r,k=>fN i fun i=>vV b.cs fun cs=>Sd r fun r=>k ((i,⟨b.T,cs,b.full⟩)::r)
theorem Ax:∀ (hp:Hp) (k:Hp→γ),Sd hp k=k hp
 |[],_=>rfl
 |(i,b)::r,k=>by rw [Sd,rY,ig,Ax r]
def P4 (s:St) (k:St→γ):γ:=vV s.fr fun fr=>Sd s.hp fun hp=>k ⟨fr,hp⟩
theorem u4 (s:St) (k:St→γ):P4 s k=k s:=by rw [P4,ig,Ax]
def sA (d:Option Tmp) (x:AV) (s:St) (k:St→γ):γ:=match d with
 |none=>k s
 |some d=>UC x fun x=>yX d x s.fr fun fr=>k ⟨fr,s.hp⟩
theorem jn (d:Option Tmp) (x:AV) (s:St) (k:St→γ):sA d x s k=k (s.put d x):=by
 cases d with
 |none=>rfl
 |some d=>simp only [sA,QM,ny,St.put]
def Se (c i:Nat):Nat:=bif Nat.beq (i / 1000000000) c then i else 0
def P5 (a b:Nat):Nat:=Nat.add a (Nat.sub b a)
theorem rk {a b n:Nat} (h:P5 a b < n):a < n∧b < n:=by
 have h:a+(b - a) < n:=h;omega
mutual
def AV.mx (c:Nat):AV→Nat
 | .v _=>0
 | .any=>0
 | .ptr i _=>Se c i
 | .sl _ _ i _ _=>Se c i
 | .yl i _=>Se c i
 | .agg cs=>AV.sW c cs
 | .dC cs=>AV.sW c cs
 | .fn _ cs=>AV.sW c cs
 | .cD _ _ _=>0
 | .bC _=>0
def AV.sW (c:Nat):List AV→Nat
 |[]=>0
 | .v _::r=>AV.sW c r
 | .any::r=>AV.sW c r
 | .cD _ _ _::r=>AV.sW c r
 | .bC _::r=>AV.sW c r
 |x::r=>P5 (AV.mx c x) (AV.sW c r)
end
variable {c id:Nat}
theorem Cy {x:AV} {r:List AV} (h:AV.sW c (x::r) < id):AV.mx c x < id∧AV.sW c r < id:=by
 have h0:∀ y,AV.sW c r < id→(0:Nat)=y→y < id:=fun y h e=>by omega
 cases x with
 |v _=>simp only [AV.sW] at h;exact ⟨h0 _ h rfl,h⟩
 |any=>simp only [AV.sW] at h;exact ⟨h0 _ h rfl,h⟩
 |cD _ _ _=>simp only [AV.sW] at h;exact ⟨h0 _ h rfl,h⟩
 |bC _=>simp only [AV.sW] at h;exact ⟨h0 _ h rfl,h⟩
 |agg _=>simp only [AV.sW] at h;exact rk h
 |dC _=>simp only [AV.sW] at h;exact rk h
 |ptr _ _=>simp only [AV.sW] at h;exact rk h
 |sl _ _ _ _ _=>simp only [AV.sW] at h;exact rk h
 |fn _ _=>simp only [AV.sW] at h;exact rk h
 |yl _ _=>simp only [AV.sW] at h;exact rk h
def HQ (c:Nat):Hp→Nat
 |[]=>0
 |(i,b)::r=>P5 (P5 (Se c i) (AV.sW c b.cs)) (HQ c r)
theorem JM {a b n:Nat} (h:P5 a b < n):a < n∧b < n:=by
 have h:a+(b - a) < n:=h;omega
theorem Ay {i:Nat} (h:Se c i < id) (hc:id / 1000000000=c):i≠id:=by
 intro e;subst e;unfold Se at h;rw [hc] at h
 have:Nat.beq c c=true:=Nat.beq_refl c
 rw [this] at h;simp at h
theorem Np (hc:id / 1000000000=c):∀ (x:AV),AV.mx c x < id→AV.cq id x=false:=by
 intro x
 induction x using AV.rec (motive_2:=fun l=>AV.sW c l < id→AV.bz id l=false) with
 |any=>intro;rfl
 |v _=>intro;rfl
 |agg cs ih=>intro h;exact ih h
 |dC cs ih=>intro h;exact ih h
 |fn f cs ih=>intro h;exact ih h
 |cD a b l _=>intro;rfl
 |bC l _=>intro;rfl
 |ptr i o=>intro h;simp only [AV.cq,beq_eq_false_iff_ne];exact Ay h hc
 |sl a b i o n=>intro h;simp only [AV.cq,beq_eq_false_iff_ne];exact Ay h hc
 |yl i y=>intro h;simp only [AV.cq,beq_eq_false_iff_ne];exact Ay h hc
 |nil=>rfl
 |cons x r ihx ihr=>
  rename_i h;obtain ⟨h1,h2⟩:=Cy h;simp only [AV.bz,ihx h1,ihr h2,qf0]
theorem tL {c id:Nat} (hc:id / 1000000000=c):∀ (l:List AV),AV.sW c l < id→AV.bz id l=false
 |[],_=>rfl
 |x::r,h=>by
  obtain ⟨h1,h2⟩:=Cy h;simp only [AV.bz,Np hc x h1,tL hc r h2,qf0]
theorem zt {c id:Nat} (hc:id / 1000000000=c):∀ (hp:Hp),HQ c hp < id→cz id hp=false
 |[],_=>rfl
 |(i,b)::r,h=>by
  obtain ⟨h1,h2⟩:=JM h;obtain ⟨h3,h4⟩:=JM h1;have h5:(i == id)=false:=by rw [beq_eq_false_iff_ne];exact Ay h3 hc
  simp only [cz,h5,tL hc b.cs h4,zt hc r h2,qf0]
def sB (c id:Nat) (fr:List AV) (hp:Hp) (as:List AV):Bool:=
 bif Nat.beq (id / 1000000000) c&&Nat.blt (AV.sW c fr) id&&Nat.blt (HQ c hp) id&&Nat.blt (AV.sW c as) id then true else
  !AV.bz id fr&&!cz id hp&&!AV.bz id as
variable {hp:Hp}
theorem my {fr:List AV} {as:List AV} (h:sB c id fr hp as=true):AV.bz id fr=false∧cz id hp=false∧AV.bz id as=false:=by
 unfold sB at h;cases hq:(Nat.beq (id / 1000000000) c&&Nat.blt (AV.sW c fr) id&&Nat.blt (HQ c hp) id&&Nat.blt (AV.sW c as) id) with
 |true=>
  simp only [qa1,qk6] at hq;obtain ⟨⟨⟨q0,q1⟩,q2⟩,q3⟩:=hq;have q0:=qb6 q0;exact ⟨tL q0 _ q1,zt q0 _ q2,tL q0 _ q3⟩
 |false=>
  rw [hq] at h;simp only [cond_false,qa1,qb7] at h;exact ⟨h.1.1,h.1.2,h.2⟩
def vW (s:St) (id:Nat):Bool:=Nat.ble id 999999999&&sB 0 id s.fr s.hp []
variable {s:St}
theorem oD (h:vW s id=true):s.free id=true:=by
 unfold vW at h;rw [qa1] at h;obtain ⟨h1,h2⟩:=h;obtain ⟨h3,h4,_⟩:=my h2;have:=qe6 h1;simp [St.free,h3,h4,this]
def SZ (s:St):Nat:=1000 * (P5 (AV.sW 0 s.fr) (HQ 0 s.hp) / 1000+1)
def S1 (s:St):Nat:=P5 (P5 (AV.sW 2 s.fr) (HQ 2 s.hp)) 2000000000+1
def HR (kd:IntKind):List AV→Option (List (Int×AV))
 |[]=>some []
 | .v (.int kd' n)::v::r=>if kd'=kd then (HR kd r).map ((n,v)::·) else none
 |_=>none
theorem FQ {kd:IntKind}:∀ {cs:List AV} {kv:List (Int×AV)},HR kd cs=some kv→cs=uG (kI kd) kv
 |[],kv,h=>by injection h with h;subst h;rfl
 |[x],kv,h=>by
  cases x with
  |v y=>cases y<;>simp [HR] at h
  |_=>simp [HR] at h
 |x::v::r,kv,h=>by
  unfold HR at h;split at h
  ·rename_i e;cases e
  ·rename_i kd' n v' r' e
   injection e with e1 e2
   injection e2 with e2 e3
   subst e1 e2 e3;split at h
   ·rename_i hk
    subst hk;rw [qa6] at h;obtain ⟨kv',h1,rfl⟩:=h;rw [FQ h1];rfl
   cases h
  cases h
def kZ:cF→Bool
 |⟨⟨[]⟩,.skip,.skip,true⟩=>true
 |_=>false
theorem oE {y:cF} (h:kZ y=true):y=wv:=by
 unfold kZ at h;split at h
 ·rfl
 cases h
structure MV where
 id:Nat
 kt:TypeId
 et:TypeId
 kd:IntKind
 kv:List (Int×AV)
def HS (P:Program) (t:TypeId) (m:AV) (hp:Hp):Option MV:=
 match P.underlying t with
 |some (.map kt et)=>match P.underlying kt with
  |some (.int kd)=>match m with
   | .yl id y=>match bp hp id with
    |some bk=>bif kZ y&&Nat.beq bk.T 1000000000&&!bk.full then (HR kd bk.cs).map fun kv=>⟨id,kt,et,kd,kv⟩ else none
    |none=>none
   |_=>none
  |_=>none
 |_=>none
variable {t:TypeId}
theorem wN {m:AV} {v:MV} (h:HS P t m hp=some v):P.underlying t=some (.map v.kt v.et)∧P.underlying v.kt=some (.int v.kd)∧m= .mp v.id∧bp hp v.id=some ⟨1000000000,uG (kI v.kd) v.kv,false⟩:=by
 unfold HS at h;split at h
 ·rename_i kt et ht
  split at h
  ·rename_i kd hk
   split at h
   ·rename_i id y
    split at h
    ·rename_i bk hb
     cases hc:(kZ y&&Nat.beq bk.T 1000000000&&!bk.full) with
     |false=>rw [hc] at h;cases h
     |true=>
      rw [hc] at h;simp only [cond_true] at h;simp only [qa1,qb7] at hc;rw [qa6] at h;obtain ⟨kv,h1,rfl⟩:=h;have e1:=oE hc.1.1;have e2:=qb6 hc.1.2;obtain ⟨T,cs,fl⟩:=bk;simp only at e2 hc h1;subst e2;refine ⟨ht,hk,by rw [e1],?_⟩;simp only;rw [hb,FQ h1,hc.2]
    cases h
   cases h
  cases h
 cases h
def zX (P:Program) (t:TypeId):Option Value:=match P.info? t with
 |some i=>i.zero
 |none=>none
variable {z:Value}
theorem P6 (h:zX P t=some z):∃ n b,dI P t z n b:=by
 unfold zX at h;split at h
 ·rename_i i hi;exact ⟨i.size,i.bytes,⟨i,hi,h,rfl,rfl⟩⟩
 cases h
variable {G:bI} {β:c9}
theorem xO (z:Value):Conc G β (AV.dY z) z:=by
 cases z<;>simp only [AV.dY]<;>try exact .v
 case agg cs=>
  have:=Conc.agg (G:=G) (β:=β) (cs:=cs.toList.map AV.v) cs.toList aC (by
   intro j x y hx hy;simp only [qc9,hy,qg2,qd9] at hx;subst hx;exact .v)
  simpa using this
variable {op:Op}
theorem JN (h:PV P op s (.v z)):PV P op s (AV.dY z):=fun R β G a w hr=>by
 obtain ⟨y,hy,hrun⟩:=h R β G a w hr;have:=fz hy;subst this;exact ⟨_,xO _,hrun⟩
variable {b:Bool}
theorem HT (h:PV P op s (.dC [.v z,.bool b])):PV P op s (.dC [AV.dY z,.bool b]):=fun R β G a w hr=>by
 obtain ⟨y,hy,hrun⟩:=h R β G a w hr;refine ⟨y,?_,hrun⟩;cases hy with
 |dC xs hl hs=>
  refine .dC xs hl fun j u v hu hv=>?_
  match j,hu with
  |0,hu=>
   have:=fz (hs 0 (.v z) v rfl hv);subst this;simp at hu;subst hu;exact xO _
  |1,hu=>exact hs 1 u v hu hv
  |j+2,hu=>simp at hu
def JO (P:Program) (t:TypeId) (m x:AV) (ok:Bool) (hp:Hp):Option AV:=
 match HS P t m hp with
 |some v=>match x with
  | .v (.int kd n)=>if kd=v.kd then
   match lk v.kv n with
   |some y=>some (if ok then .dC [y,.bool true] else y)
   |none=>match zX P v.et with
    |some z=>some (if ok then .dC [AV.dY z,.bool false] else AV.dY z)
    |none=>none
   else none
  |_=>none
 |none=>none
variable {x:Operand}
theorem JP {m:Operand} {ok:Bool} {y:AV} (h:JO P t (s.eval m) (s.eval x) ok s.hp=some y):PV P (.lookup t m x ok) s y:=by
 unfold JO at h;split at h
 ·rename_i v hv
  obtain ⟨h1,h2,h3,h4⟩:=wN hv;have i1:cT P t (.map v.kt v.et):=⟨h1⟩
  have i2:cT P v.kt (.int v.kd):=⟨h2⟩
  split at h
  ·rename_i kd n hx
   split at h
   ·rename_i hk
    subst hk;split at h
    ·rename_i y' hl
     injection h with h
     subst h;have:=zo (P:=P) (s:=s) (kA:=kI v.kd) (kV:=vI v.kd) (t:=t) (m:=m) (x:=x) hl h3 h4 hx;cases ok with
     |true=>exact this.2
     |false=>exact this.1
    rename_i hl;split at h
    ·rename_i z hz
     injection h with h
     subst h;obtain ⟨n',b',hi⟩:=P6 hz;have:=Cp (P:=P) (s:=s) (kA:=kI v.kd) (kV:=vI v.kd) (t:=t) (m:=m) (x:=x) (hi:=hi) hl h3 h4 hx;cases ok with
     |true=>exact HT this.2
     |false=>exact JN this.1
    cases h
   cases h
  cases h
 cases h
def Nq:AV→Option Bool
 | .v (.slice none 0 0)=>some true
 | .cD _ _ (_::_)=>some false
 | .sl _ _ _ _ (_+1)=>some false
 |_=>none
theorem Nr {x:AV} {y:Value} (h:Conc G β x y) (hb:Nq x=some b):∃ A n c,y= .slice A n c∧A.isNone=b:=by
 unfold Nq at hb;split at hb
 ·injection hb with hb;subst hb;cases h;exact ⟨_,_,_,rfl,rfl⟩
 ·injection hb with hb;subst hb
  cases h with
  |@cD _ _ _ _ A c ys hu hl hc hbb hA hr hs=>
   refine ⟨_,_,_,rfl,?_⟩;cases A with
   |none=>exact absurd rfl (hA aC)
   |some a=>rfl
 ·injection hb with hb;subst hb
  cases h with
  |sl h hn ht hm hbb=>exact ⟨_,_,_,rfl,rfl⟩
 cases hb
variable {e:TypeId}
theorem Ns {u:TypeId} (hu:cT P t (.slice e)) (hb:Nq (s.eval x)=some b):PV P (.binOp .eql t x (.const (.slice none 0 0)) u) s (.bool b):=
 dW fun R β G a w hr=>⟨_,.v,fun w' d ty pos bF g=>by
  obtain ⟨A,n,c,hA,hN⟩:=Nr (hr.eval x) hb;have hce:a.eval (.const (.slice none 0 0))= .slice none 0 0:=rfl;simp only [execOp,hA,hce,Sem.run_bind,nv,qb1,Lib.run_eql_slice_nil w' t e A n c 0 0 hu.ok];rw [← hN];rfl⟩
variable {y:Operand}
theorem pC {b:ByteArray} {k:IntKind} {n:Int} (hu:cT P t .string) (hx:s.eval x= .v (.string b)) (hy:s.eval y= .v (.int k n)) (h0:0≤n) (h1:n.toNat < b.size):PV P (.index t x y) s (.v (.int .u8 (b[n.toNat]'h1).toNat)):=
 dW fun _ _ _ a _ h=>by
  have e1:=h.eval x;rw [hx] at e1;have e2:=h.eval y;rw [hy] at e2;have hg:b[n.toNat]?=some (b[n.toNat]'h1):=getElem?_pos b n.toNat h1;exact ⟨_,.v,fun w' _ _ _ _ _=>by simp [execOp,fz e1,fz e2,Instr.index,run_underlying hu.ok,asIntOf,h0,hg]⟩
def UD (i:Option TI) (x y:AV):Option AV:=
 match i,x,y with
 |some ⟨_,_,_,_,.str⟩,.v (.string b),.v (.int _ n)=>if h:0≤n∧n.toNat < b.size then some (.v (.int .u8 (b[n.toNat]'h.2).toNat)) else none
 |_,_,_=>none
variable {bh:Nat→Option TI}
theorem QO (hT:Tb P bh) {v:AV} (h:UD (bh t) (s.eval x) (s.eval y)=some v):PV P (.index t x y) s v:=by
 unfold UD at h;split at h
 ·rename_i hti hx hy
  split at h
  ·rename_i hc
   injection h with h
   subst h;obtain ⟨d,z,hu,_,_,_,hk⟩:=hT.ok _ _ hti;cases hk;exact pC hu hx hy hc.1 hc.2
  cases h
 cases h
def JQ (P:Program) (bh:Nat→Option TI) (op:Op) (s:St):Option AV:=
 match op with
 | .makeFunc (.func f) ⟨[]⟩ caps=>if f≤999999999 then some (.fn f (cv s caps)) else none
 | .makeInterface t x=>match P.underlying t with
  |some d=>if Nf d=true then some (.fn (1000000000+t) [s.eval x]) else none
  |none=>none
 | .typeAssert x _ t false=>match s.eval x with
  | .fn N [v]=>if N=1000000000+t then
   match P.underlying t with
   |some d=>if Nf d=true then some v else none
   |none=>none
   else none
  |_=>none
 | .lookup t m x ok=>JO P t (s.eval m) (s.eval x) ok s.hp
 | .call ⟨.builtin .len,⟨[x]⟩,⟨[t]⟩⟩=>match HS P t (s.eval x) s.hp with
  |some v=>some (.int v.kv.length)
  |none=>(oZ bh (.call ⟨.builtin .len,⟨[x]⟩,⟨[t]⟩⟩) s).get
 | .index t x y=>match UD (bh t) (s.eval x) (s.eval y) with
  |some v=>some v
  |none=>(oZ bh (.index t x y) s).get
 | .binOp .eql t x (.const (.slice none 0 0)) _=>match yL (bh t) with
  |some _=>(Nq (s.eval x)).map fun b=>.bool b
  |none=>none
 |op=>(oZ bh op s).get
theorem Az {C:Cf} [hC:mi P C] {x:AV} (h:JQ P C.bh op s=some x):PV P op s x:=by
 have:=hC.tb;unfold JQ at h;split at h
 ·split at h
  ·rename_i hf;injection h with h;subst h;exact cL hf
  cases h
 ·split at h
  ·rename_i d hd
   have i1:cT P _ d:=⟨hd⟩
   split at h
   ·rename_i hn;injection h with h;subst h;exact uS hn
   cases h
  cases h
 ·split at h
  ·rename_i hx
   split at h
   ·rename_i hN
    split at h
    ·rename_i d hd
     have i1:cT P _ d:=⟨hd⟩
     split at h
     ·rename_i hn;injection h with h;subst h;exact yT hx hN hn
     cases h
    cases h
   cases h
  cases h
 ·exact JP h
 ·split at h
  ·rename_i v hv
   injection h with h
   subst h;obtain ⟨h1,h2,h3,h4⟩:=wN hv;have i1:cT P _ (.map v.kt v.et):=⟨h1⟩
   have i2:cT P v.kt (.int v.kd):=⟨h2⟩
   exact HL (P:=P) (kA:=kI v.kd) (kV:=vI v.kd) h3 h4
  exact xN (mG _ s) h
 ·split at h
  ·rename_i v hv;injection h with h;subst h;exact QO hC.tb hv
  exact xN (mG _ s) h
 ·split at h
  ·rename_i e he
   rw [qa6] at h;obtain ⟨b,hb,rfl⟩:=h;refine Ns (e:=e) ?_ hb;generalize hti:C.bh _=ti at he;unfold yL at he;split at he
   ·obtain ⟨d,z,hu,_,_,_,hk⟩:=hC.tb.ok _ _ hti
    cases hk;injection he with he;subst he;exact hu
   cases he
  cases h
 exact xN (mG _ s) h
def JR:AV→Bool
 | .v (.slice none 0 0)=>true
 | .cD _ _ []=>true
 | .sl _ _ _ _ 0=>true
 |_=>false
def S2:AV→Bool
 | .v (.slice none 0 0)=>true
 | .cD _ _ _=>true
 | .sl _ _ _ _ _=>true
 |_=>false
theorem HU {x:AV} {y:Value} (h:Conc G β x y) (hx:JR x=true):∃ A c,y= .slice A 0 c:=by
 unfold JR at hx;split at hx
 ·cases h;exact ⟨none,0,rfl⟩
 ·cases h with
  |cD ys hu hl hc hb hA hr hs=>exact ⟨_,_,rfl⟩
 ·cases h with
  |lU h=>exact ⟨_,_,rfl⟩
  |sl h hn ht hm hb=>exact ⟨_,_,rfl⟩
 cases hx
theorem JS {x:AV} {y:Value} (h:Conc G β x y) (hx:S2 x=true):∃ A n c,y= .slice A n c∧n≤c:=by
 unfold S2 at hx;split at hx
 ·cases h;exact ⟨none,0,0,rfl,qb3 _⟩
 ·cases h with
  |cD ys hu hl hc hb hA hr hs=>exact ⟨_,_,_,rfl,hc⟩
 ·cases h with
  |lU h=>exact ⟨_,_,_,rfl,qb3 _⟩
  |sl h hn ht hm hb=>exact ⟨_,_,_,rfl,hn⟩
 cases hx
variable {el:TypeId} {sz bw:Nat}
theorem Cz {ty:TypeId} (hu:cT P t (.slice el)) (hi:dI P el z sz bw) (A B:Option Addr) (n c c2:Nat) (hnc:n≤c) (w:World):(Builtin.append_ #[t,t] ty #[.slice A n c,.slice B 0 c2]).run P w= .ok (.slice A n c) w:=by
 have hf:∀ w:World,(Builtin.firstCells sz 0 (.slice B 0 c2)).run P w= .ok #[] w:=by
  intro w;cases B with
  |none=>rfl
  |some a=>simp [Builtin.firstCells,loadCells,loadCellsFrom]
 unfold Builtin.append_;simp only [qa0,qb9,qb2,Sem.run_bind,run_underlying hu.ok,qb1,eH hi,Sem.run_pure];have hl:(Builtin.lenOf (.slice B 0 c2)).run P w= .ok 0 w:=rfl;cases A<;>cases B<;>simp [hl,hf,hnc,storeCells,Builtin.firstCells,loadCells,loadCellsFrom,Result.andThen]
theorem EE (hu:cT P t (.slice el)) (hi:dI P el z sz bw) (hx:S2 (s.eval x)=true) (hy:JR (s.eval y)=true):
 PV P (.call {callee:=.builtin .append,args:=#[x,y],argTypes:=#[t,t]}) s (s.eval x):=fun R β G a w hr=>by
 have e1:=hr.eval x;obtain ⟨A,n,c,hA,hnc⟩:=JS e1 hx;obtain ⟨B,c2,hB⟩:=HU (hr.eval y) hy;refine ⟨_,e1,fun w' d ty pos bF g _=>?_⟩;have:=Cz (ty:=ty) hu hi A B n c c2 hnc w';rw [← hA,← hB] at this;simp [execOp,resolve,invoke,builtin,this]
theorem JT {f:List AV} (id m:Nat) {T:TypeId} {cs:List AV} {fl:Bool} (hb:bp hp id=some ⟨T,cs,fl⟩) (hT:T < 1000000000):Le ⟨f,hp⟩ ⟨f,cP hp id ⟨T,cs.take m,false⟩⟩:=by
 unfold Le;intro R β G a w hr;refine ⟨β,G,hr.defers,hr.size,hr.fr,⟨hr.hp.gs,fun i bk hi=>?_,fun i j b t t' hi hj=>?_,hr.hp.keeps,hr.hp.kH,hr.hp.kL,hr.hp.iC.cP (by rw [hb];rfl)⟩⟩
 ·rw [cO] at hi
  by_cases hid:id=i
  ·subst hid
   simp only [if_true,qd9] at hi;subst hi;have:=hr.hp.blk id _ hb;unfold bZ at this ⊢;cases hβ:β id with
   |no=>rw [hβ] at this;exact this
   |nil=>
    rw [hβ] at this;refine ⟨?_,rfl⟩;have:=this.1;simp only at this;subst this;simp
   |gh o=>
    rw [hβ] at this;have:=(vD.R4 this).2;exact absurd hT (Nat.not_lt.2 this)
   |«at» b t=>
    rw [hβ] at this;obtain ⟨g1,g2,arr,g3,g4,g5,g6,g7⟩:=this;have g5':cs.length≤t:=g5;refine ⟨g1,g2,arr,g3,g4,show (cs.take m).length≤t by rw [qc0];omega,fun hf=>(by cases hf),fun j x y hx hy=>?_⟩;rw [qc3] at hx;split at hx
    ·exact g7 j x y hx hy
    cases hx
  rw [if_neg hid] at hi;exact hr.hp.blk i bk hi
 have key:∀ i,(bp (cP hp id ⟨T,cs.take m,false⟩) i).isSome→(bp hp i).isSome:=fun i hi=>qx (by rw [hb];rfl) hi;exact hr.hp.inj i j b t t' (key i hi) (key j hj)
def QP (bh:Nat→Option TI) (t:TypeId):Option (TypeId×TI):=match yL (bh t) with
 |some e=>(bh e).map fun i=>(e,i)
 |none=>none
variable {i:TI}
theorem xP (hT:Tb P bh) (h:QP bh t=some (e,i)):cT P t (.slice e)∧∃ z,dI P e z i.n i.b∧(AV.dY z).cells=i.z:=by
 unfold QP at h;split at h
 ·rename_i e' he
  rw [qa6] at h;obtain ⟨i',hi,h⟩:=h;injection h with h1 h2
  subst h1 h2;obtain ⟨d',z',hu',hi',_,hz',_⟩:=hT.ok _ _ hi;refine ⟨?_,z',hi',hz'⟩;generalize hti:bh t=ti at he;unfold yL at he;split at he
  ·obtain ⟨d,z,hu,_,_,_,hk⟩:=hT.ok _ _ hti
   cases hk;injection he with he;subst he;exact hu
  cases he
 cases h
theorem S3 {l:List AV} (h:(AV.dY z).cells=l):z.cells.size=l.length:=by rw [← h,iH]
def JU (es:List AV):Bool:=es.all fun e=>jx e.cells
theorem HW {es:List AV} (h:JU es=true):zc es:=fun e he=>qc8.1 h e he
def tM (e:TypeId) (i:TI) (tt:Tmp) (xa ya:AV) (s:St) (k:St→Option γ):Option γ:=
 match xa with
 | .sl sz bw id 0 n=>match bp s.hp id with
  |some bk=>bif Nat.beq sz i.n&&Nat.beq bw i.b&&Nat.beq bk.T e&&Nat.beq bk.cs.length (n * sz)&&Nat.ble 1 sz&&Nat.ble 1 bw&&Nat.beq i.z.length sz then
   (match ya with
   | .cD sz2 bw2 es=>bif Nat.beq sz2 sz&&Nat.beq bw2 bw&&JU es&&Nat.ble ((n+es.length) * bw) 140737488355328 then
    P4 ⟨(AV.cG id s.fr).set tt (.sl sz bw id 0 (n+es.length)),cP (eQ id s.hp) id ⟨e,AV.cG id bk.cs++es.flatMap AV.cells,false⟩⟩ k else none
   | .sl sz2 bw2 id2 0 m=>match bp s.hp id2 with
    |some bk2=>bif Nat.beq sz2 sz&&Nat.beq bw2 bw&&bk2.full&&Nat.beq bk2.cs.length (m * sz)&&jx bk2.cs&&!AV.bz id bk2.cs&&Nat.ble ((n+m) * bw) 140737488355328 then
     P4 ⟨(AV.cG id s.fr).set tt (.sl sz bw id 0 (n+m)),cP (eQ id s.hp) id ⟨e,AV.cG id bk.cs++bk2.cs,false⟩⟩ k else none
    |none=>none
   |_=>none) else none
  |none=>none
 |_=>none
variable {r:γ}
theorem cm {x:Option γ} (h:(bif b then x else none)=some r):b=true∧x=some r:=by
 cases b with
 |true=>exact ⟨rfl,h⟩
 |false=>cases h
theorem sC (hT:Tb P bh) {tt:Tmp} {k:St→Option γ} (ht:QP bh t=some (e,i)) (h:tM e i tt (s.eval x) (s.eval y) s k=some r):
 ∃ s',k s'=some r∧∀ (ty:TypeId) (pos:String) (bF:Array Edge) (g:Option (Nat×Bool)) (K:St→Prop),K s'→ff P ⟨some tt,.call {callee:=.builtin .append,args:=#[x,y],argTypes:=#[t,t]},ty,pos,bF,g⟩ s K:=by
 obtain ⟨hu,z,hi,hz⟩:=xP hT ht;unfold tM at h;split at h
 ·rename_i sz bw id n hx
  split at h
  ·rename_i bk hb
   replace h:=cm h;obtain ⟨hc,h⟩:=h;simp only [qa1] at hc;obtain ⟨⟨⟨⟨⟨⟨c1,c2⟩,c3⟩,c4⟩,c5⟩,c6⟩,c7⟩:=hc;have c1:=qb6 c1;have c2:=qb6 c2;have c3:=qb6 c3;have c4:=qb6 c4;have c5:=qe6 c5;have c6:=qe6 c6;have c7:=qb6 c7;subst c1 c2;have hzs:z.cells.size=i.n:=by rw [S3 hz,c7]
   split at h
   ·rename_i sz2 bw2 es hy
    replace h:=cm h;obtain ⟨hc,h⟩:=h;simp only [qa1] at hc;obtain ⟨⟨⟨d1,d2⟩,d3⟩,d4⟩:=hc;have d1:=qb6 d1;have d2:=qb6 d2;subst d1 d2;rw [u4] at h;exact ⟨_,h,fun ty pos bF g K hk=>xv (hu:=hu) (hi:=hi) hx hb c3 c4 hy (HW d3) hzs c5 c6 (qe6 d4) hk⟩
   ·rename_i sz2 bw2 id2 m hy
    split at h
    ·rename_i bk2 hb2
     replace h:=cm h;obtain ⟨hc,h⟩:=h;simp only [qa1,qb7] at hc;obtain ⟨⟨⟨⟨⟨⟨d1,d2⟩,d3⟩,d4⟩,d5⟩,d6⟩,d7⟩:=hc;have d1:=qb6 d1;have d2:=qb6 d2;subst d1 d2;rw [u4] at h;exact ⟨_,h,fun ty pos bF g K hk=>yU (hu:=hu) (hi:=hi) hx hb c3 c4 hy hb2 d3 (qb6 d4) d5 d6 hzs c5 c6 (qe6 d7) hk⟩
    cases h
   cases h
  cases h
 cases h
def xQ:AV→Bool
 | .v (.slice none 0 0)=>true
 |_=>false
theorem HX {x:AV} (h:xQ x=true):x= .fO:=by
 unfold xQ at h;split at h
 ·rfl
 cases h
def QQ (bh:Nat→Option TI) (bs:Nat) (t:TypeId) (d:Option Tmp) (x y:Operand) (s:St):Option (St×Bool):=
 match QP bh t with
 |some (e,i)=>bif S2 (s.eval x)&&JR (s.eval y) then sA d (s.eval x) s fun s'=>some (s',true) else
  match d with
  |some tt=>bif xQ (s.eval x) then
   (match x with
   | .tmp tx=>let id:=bs+tt
    bif xQ (s.fr.getD tx .any)&&Nat.blt tx s.fr.length&&vW s id then
     P4 ⟨s.fr.set tx (.sl i.n i.b id 0 0),cP s.hp id ⟨e,[],false⟩⟩ fun s1=>tM e i tt (s1.eval x) (s1.eval y) s1 fun s'=>some (s',false)
    else none
   |_=>none)
   else match s.eval x with
    | .sl sz _ id 0 n=>match bp s.hp id with
     |some bk=>bif Nat.beq bk.cs.length (n * sz) then tM e i tt (s.eval x) (s.eval y) s fun s'=>some (s',false) else
      bif Nat.blt bk.T 1000000000 then P4 ⟨s.fr,cP s.hp id ⟨bk.T,bk.cs.take (n * sz),false⟩⟩ fun s1=>tM e i tt (s1.eval x) (s1.eval y) s1 fun s'=>some (s',false) else none
     |none=>none
    |_=>none
  |none=>none
 |none=>none
def pD (P:Program) (d:Option Tmp) (op:Op) (s s':St) (b:Bool):Prop:=
 ∀ (ty:TypeId) (pos:String) (bF:Array Edge) (g:Option (Nat×Bool)) (K:St→Prop),K s'→ff P ⟨d,op,ty,pos,bF,g⟩ s K∧(b=true→dJ P ⟨d,op,ty,pos,bF,g⟩ s K)
variable {d:Option Tmp} {s':St}
theorem pE (h:∀ (ty:TypeId) (pos:String) (bF:Array Edge) (g:Option (Nat×Bool)) (K:St→Prop),K s'→dJ P ⟨d,op,ty,pos,bF,g⟩ s K):pD P d op s s' true:=
 fun ty pos bF g K hk=>⟨ka (h ty pos bF g K hk),fun _=>h ty pos bF g K hk⟩
theorem nV (h:∀ (ty:TypeId) (pos:String) (bF:Array Edge) (g:Option (Nat×Bool)) (K:St→Prop),K s'→ff P ⟨d,op,ty,pos,bF,g⟩ s K):pD P d op s s' false:=
 fun ty pos bF g K hk=>⟨h ty pos bF g K hk,fun h=>by cases h⟩
theorem FT {x:AV} (h:PV P op s x):pD P d op s (s.put d x) true:=pE fun ty pos bF g K hk=>eF h hk
theorem Nt (hT:Tb P bh) {bs:Nat} (h:QQ bh bs t d x y s=some (s',b)):pD P d (.call {callee:=.builtin .append,args:=#[x,y],argTypes:=#[t,t]}) s s' b:=by
 unfold QQ at h;split at h
 ·rename_i e i ht
  obtain ⟨hu,z,hi,hz⟩:=xP hT ht;cases hc:(S2 (s.eval x)&&JR (s.eval y)) with
  |true=>
   rw [hc] at h;simp only [cond_true,jn] at h;injection h with h
   injection h with h1 h2
   subst h1 h2;simp only [qa1] at hc;exact FT (EE hu hi hc.1 hc.2)
  |false=>
   rw [hc] at h;simp only [cond_false] at h;split at h
   ·rename_i tt
    cases hn:xQ (s.eval x) with
    |true=>
     rw [hn] at h;simp only [cond_true] at h;split at h
     ·rename_i tx
      replace h:=cm h;obtain ⟨hq,h⟩:=h;simp only [qa1] at hq;obtain ⟨⟨q1,q2⟩,q3⟩:=hq;have q1:=HX q1;rw [qk6] at q2;have hx:s.fr[tx]?=some .fO:=by rw [qh7,qa7 q2,qf3] at q1;rw [qa7 q2,q1]
      rw [u4] at h;obtain ⟨s2,h2,h3⟩:=sC hT ht h;injection h2 with h2
      injection h2 with h4 h5
      subst h4 h5;exact nV fun ty pos bF g K hk=>fy (wI tx _ i.n i.b e hx (oD q3)) (h3 ty pos bF g K hk)
     cases h
    |false=>
     rw [hn] at h;simp only [cond_false] at h;split at h
     ·rename_i sz bw id n hx
      split at h
      ·rename_i bk hb
       cases hl:Nat.beq bk.cs.length (n * sz) with
       |true=>
        rw [hl] at h;simp only [cond_true] at h;obtain ⟨s2,h2,h3⟩:=sC (x:=x) (y:=y) hT ht h;injection h2 with h2
        injection h2 with h4 h5
        subst h4 h5;exact nV h3
       |false=>
        rw [hl] at h;simp only [cond_false] at h;replace h:=cm h;obtain ⟨hq,h⟩:=h;rw [qk6] at hq;rw [u4] at h;obtain ⟨s2,h2,h3⟩:=sC hT ht h;injection h2 with h2
        injection h2 with h4 h5
        subst h4 h5;exact nV fun ty pos bF g K hk=>fy (JT id (n * sz) hb hq) (h3 ty pos bF g K hk)
      cases h
     cases h
   cases h
 cases h
end Go.Ab
set_option maxRecDepth 10000
namespace Go.Ab
open Go.RowKit
variable {P:Program} {γ:Type}
def EF (bh:Nat→Option TI) (t:TypeId) (p v:AV) (d:Option Tmp) (s:St):Option (St×Bool):=
 match d,bh t,p with
 |none,some i,.ptr id off=>match bp s.hp id with
  |some bk=>bif PN v&&jx v.cells&&Nat.beq v.cells.length i.n&&Nat.ble (off+i.n) bk.cs.length then
   vV (gM bk.cs off v.cells) fun cs=>mN id ⟨bk.T,cs,bk.full⟩ s.hp fun hp=>some (⟨s.fr,hp⟩,false) else none
  |none=>none
 |_,_,_=>none
variable {bh:Nat→Option TI} {t:TypeId} {x:Operand} {d:Option Tmp} {s s':St} {b:Bool}
theorem HY (hT:Tb P bh) {p:Operand} (h:EF bh t (s.eval p) (s.eval x) d s=some (s',b)):pD P d (.store t p x) s s' b:=by
 unfold EF at h;split at h
 ·rename_i i id off hti hp
  obtain ⟨dd,z,hu,hi,_⟩:=hT.ok _ _ hti;split at h
  ·rename_i bk hb
   replace h:=cm h;obtain ⟨hq,h⟩:=h;rw [ig,ij] at h;injection h with h
   injection h with h1 h2
   subst h1 h2;simp only [qa1] at hq;obtain ⟨⟨⟨q1,q2⟩,q3⟩,q4⟩:=hq;exact nV fun ty pos bF g K hk=>uL (hi:=hi) hp hb q2 (tk q1) (qb6 q3) (qe6 q4) hk
  cases h
 cases h
def EG (bh:Nat→Option TI) (bs:Nat) (e:TypeId) (d:Option Tmp) (s:St):Option (St×Bool):=
 match d,bh e with
 |some t,some i=>fN (bs+t) fun id=>bif vW s id then vV i.z fun z=>mN id ⟨e,z,true⟩ s.hp fun hp=>yX t (.ptr id 0) s.fr fun fr=>some (⟨fr,hp⟩,true) else none
 |_,_=>none
variable {bs:Nat} {e:TypeId}
theorem HZ (hT:Tb P bh) (h:EG bh bs e d s=some (s',b)):pD P d (.alloc e) s s' b:=by
 unfold EG at h;split at h
 ·rename_i t i hti
  obtain ⟨dd,z,hu,hi,_,hz,_⟩:=hT.ok _ _ hti;rw [rY] at h;replace h:=cm h;obtain ⟨hq,h⟩:=h;rw [ig,ij,ny] at h;injection h with h;injection h with h1 h2;subst h1 h2;rw [← hz];exact pE fun ty pos bF g K hk=>eZ (hi:=hi) _ (oD hq) hk
 cases h
def QR (bs:Nat) (e:TypeId) (v:AV) (d:Option Tmp) (s:St):Option (St×Bool):=
 match d with
 |some t=>fN (bs+t) fun id=>bif vW s id&&PN v&&!AV.bz id v.cells then vV v.cells fun cs=>mN id ⟨e,cs,true⟩ s.hp fun hp=>yX t (.ptr id 0) s.fr fun fr=>some (⟨fr,hp⟩,true) else none
 |none=>none
theorem Nu (h:QR bs e (s.eval x) d s=some (s',b)):pD P d (.box e x) s s' b:=by
 unfold QR at h;split at h
 ·rename_i t
  rw [rY] at h;replace h:=cm h;obtain ⟨hq,h⟩:=h;rw [ig,ij,ny] at h;injection h with h
  injection h with h1 h2
  subst h1 h2;simp only [qa1,qb7] at hq;exact pE fun ty pos bF g K hk=>B8 _ (oD hq.1.1) (tk hq.1.2) hq.2 hk
 cases h
def UE (bh:Nat→Option TI) (bs:Nat) (t:TypeId) (len:Nat) (ps:List (Nat×AV)) (d:Option Tmp) (s:St):Option (St×Bool):=
 match d,QP bh t with
 |some tt,some (e,i)=>fN (bs+tt) fun id=>bif vW s id then
  (match len with
  |0=>match ps with
   |[]=>mN id ⟨e,[],true⟩ s.hp fun hp=>yX tt (.sl i.n i.b id 0 0) s.fr fun fr=>some (⟨fr,hp⟩,true)
   |_=>none
  |n+1=>bif decide (0 < (n+1) * i.n)&&decide ((n+1) * i.n≤16777216)&&decide ((n+1) * i.b≤140737488355328)&&rS 0 ps&&Nat.beq ps.length (n+1)&&eU (fun j=>some (j * i.n,i.n)) ((n+1) * i.n) ps&&!AV.bz id (ps.flatMap fun p=>p.2.cells) then
   vV (ps.flatMap fun p=>p.2.cells) fun cs=>mN id ⟨e,cs,true⟩ s.hp fun hp=>yX tt (.sl i.n i.b id 0 (n+1)) s.fr fun fr=>some (⟨fr,hp⟩,true) else none) else none
 |_,_=>none
theorem QS (hT:Tb P bh) {len:Nat} {parts:Array (Nat×Operand)} (h:UE bh bs t len (bM s parts) d s=some (s',b)):pD P d (.buildSlice t len parts) s s' b:=by
 unfold UE at h;split at h
 ·rename_i tt e i ht
  obtain ⟨hu,z,hi,hz⟩:=xP hT ht;rw [rY] at h;replace h:=cm h;obtain ⟨hf,h⟩:=h;have hf:=oD hf;split at h
  ·split at h
   ·rename_i hps
    rw [ij,ny] at h;injection h with h
    injection h with h1 h2
    subst h1 h2
    have:parts=#[]:=by unfold bM at hps;simpa using hps
    subst this;exact pE fun ty pos bF g K hk=>oa (hu:=hu) (hi:=hi) _ hf hk
   cases h
  rename_i n;replace h:=cm h;obtain ⟨hq,h⟩:=h;rw [ig,ij,ny] at h;injection h with h
  injection h with h1 h2
  subst h1 h2;simp only [qa1,qb7] at hq;obtain ⟨⟨⟨⟨⟨⟨q1,q2⟩,q3⟩,q4⟩,q5⟩,q6⟩,q7⟩:=hq;exact pE fun ty pos bF g K hk=>uX (hu:=hu) (hi:=hi) ⟨q1,q2,q3⟩ q4 (qb6 q5) q6 _ hf q7 hk
 cases h
def QT:Value→Bool
 | .int _ _=>true
 | .bool _=>true
 | .string _=>true
 | .slice none 0 0=>true
 | .pointer none=>true
 |_=>false
variable {z:Value}
theorem EH (h:QT z=true):z.cells=#[z]:=by
 unfold QT at h;split at h<;>first|rfl|cases h
def UF (P:Program) (bh:Nat→Option TI) (bs:Nat) (t:TypeId) (x y:AV) (d:Option Tmp) (s:St):Option (St×Bool):=
 match d,QP bh t,x,y with
 |some tt,some (e,i),.v (.int .i64 n),.v (.int .i64 m)=>match zX P e with
  |some z=>fN (bs+tt) fun id=>bif vW s id&&Nat.beq i.n 1&&decide (n=m)&&decide (0≤n)&&Nat.ble (n.toNat * i.b) 140737488355328&&Nat.ble 1 i.b&&QT z then
   vV (List.replicate n.toNat (.v z)) fun cs=>fN n.toNat fun k=>mN id ⟨e,cs,true⟩ s.hp fun hp=>yX tt (.sl 1 i.b id 0 k) s.fr fun fr=>some (⟨fr,hp⟩,true) else none
  |none=>none
 |_,_,_,_=>none
variable {y:Operand}
theorem QU (hT:Tb P bh) (h:UF P bh bs t (s.eval x) (s.eval y) d s=some (s',b)):pD P d (.makeSlice t x y) s s' b:=by
 unfold UF at h;split at h
 ·rename_i tt e i n m ht hx hy
  obtain ⟨hu,z,hi,hz⟩:=xP hT ht;split at h
  ·rename_i z' hz'
   obtain ⟨n',b',hi'⟩:=P6 hz';have hzz:z'=z:=by obtain ⟨i1,a1,a2,_⟩:=hi.ok;obtain ⟨i2,b1,b2,_⟩:=hi'.ok;rw [a1] at b1;injection b1 with b1;subst b1;rw [a2] at b2;injection b2 with b2;exact b2.symm
   subst hzz;rw [rY] at h;replace h:=cm h;obtain ⟨hq,h⟩:=h;rw [ig,rY,ij,ny] at h;injection h with h
   injection h with h1 h2
   subst h1 h2;simp only [qa1,decide_eq_true_eq] at hq;obtain ⟨⟨⟨⟨⟨⟨q1,q2⟩,q3⟩,q4⟩,q5⟩,q6⟩,q7⟩:=hq;have q2:=qb6 q2;subst q3;rw [q2] at hi;exact pE fun ty pos bF g K hk=>gZ (hu:=hu) (hi:=hi) hx hy q4 (qe6 q5) (qe6 q6) (EH q7) _ (oD q1) hk
  cases h
 cases h
def UG (d:Option Tmp) (s:St):Option (St×Bool):=
 match d with
 |some tt=>fN (S1 s) fun id=>bif Nat.ble 2000000000 id&&sB 2 id s.fr s.hp [] then mN id ⟨1000000000,[],false⟩ s.hp fun hp=>yX tt (.mp id) s.fr fun fr=>some (⟨fr,hp⟩,false) else none
 |none=>none
theorem QV (h:UG d s=some (s',b)):pD P d (.makeMap t none) s s' b:=by
 unfold UG at h;split at h
 ·rw [rY] at h
  replace h:=cm h;obtain ⟨hq,h⟩:=h;rw [ij,ny] at h;injection h with h
  injection h with h1 h2
  subst h1 h2;simp only [qa1,qb7] at hq;exact nV fun ty pos bF g K hk=>lu _ (qe6 hq.1) (my hq.2).1 (my hq.2).2.1 hk
 cases h
def TY (P:Program) (t:TypeId) (m x y:AV) (d:Option Tmp) (s:St):Option (St×Bool):=
 match d,HS P t m s.hp,x with
 |none,some v,.v (.int kd n)=>if kd=v.kd then vV (uG (kI v.kd) (kK v.kv n y)) fun cs=>mN v.id ⟨1000000000,cs,false⟩ s.hp fun hp=>some (⟨s.fr,hp⟩,false) else none
 |_,_,_=>none
variable {m:Operand}
theorem JV (h:TY P t (s.eval m) (s.eval x) (s.eval y) d s=some (s',b)):pD P d (.mapUpdate t m x y) s s' b∧pD P d (.insert t m x y) s s' b:=by
 unfold TY at h;split at h
 ·rename_i v kd n hv hx
  split at h
  ·rename_i hk
   subst hk;rw [ig,ij] at h;injection h with h
   injection h with h1 h2
   subst h1 h2;obtain ⟨h1,h2,h3,h4⟩:=wN hv;have i1:cT P t (.map v.kt v.et):=⟨h1⟩
   have i2:cT P v.kt (.int v.kd):=⟨h2⟩
   have key:=fun (ty:TypeId) (pos:String) (bF:Array Edge) (g:Option (Nat×Bool)) (K:St→Prop) (hk:K ⟨s.fr,cP s.hp v.id ⟨1000000000,uG (kI v.kd) (kK v.kv n (s.eval y)),false⟩⟩)=>
    xJ (P:=P) (kA:=kI v.kd) (kV:=vI v.kd) (t:=t) (m:=m) (x:=x) (y:=y) (ty:=ty) (pos:=pos) (bF:=bF) (g:=g) (K:=K) h3 h4 hx rfl hk
   exact ⟨nV fun ty pos bF g K hk=>(key ty pos bF g K hk).1,nV fun ty pos bF g K hk=>(key ty pos bF g K hk).2⟩
  cases h
 cases h
def UH (P:Program) (t:TypeId) (m x:AV) (d:Option Tmp) (s:St):Option (St×Bool):=
 match HS P t m s.hp,x with
 |some v,.v (.int kd n)=>if kd=v.kd then vV (uG (kI v.kd) (wx v.kv n)) fun cs=>mN v.id ⟨1000000000,cs,false⟩ s.hp fun hp=>sA d (.v (.tuple #[])) ⟨s.fr,hp⟩ fun s'=>some (s',false) else none
 |_,_=>none
theorem QW {t2:TypeId} (h:UH P t (s.eval m) (s.eval x) d s=some (s',b)):pD P d (.call {callee:=.builtin .delete,args:=#[m,x],argTypes:=#[t,t2]}) s s' b:=by
 unfold UH at h;split at h
 ·rename_i v kd n hv hx
  split at h
  ·rename_i hk
   subst hk;rw [ig,ij,jn] at h;injection h with h
   injection h with h1 h2
   subst h1 h2;obtain ⟨h1,h2,h3,h4⟩:=wN hv;have i1:cT P t (.map v.kt v.et):=⟨h1⟩
   have i2:cT P v.kt (.int v.kd):=⟨h2⟩
   exact nV fun ty pos bF g K hk=>Ex (P:=P) (kA:=kI v.kd) (kV:=vI v.kd) (t:=t) (m:=m) (x:=x) h3 h4 hx rfl hk
  cases h
 cases h
def UI (bh:Nat→Option TI) (t:TypeId) (x:AV) (d:Option Tmp) (s:St):Option (St×Bool):=
 match d,QP bh t,x with
 |none,some (e,i),.sl sz bw id off k=>match bp s.hp id with
  |some bk=>bif Nat.beq sz i.n&&Nat.beq bw i.b&&Nat.ble 1 k&&Nat.ble 1 sz&&Nat.beq (off / sz * sz) off&&Nat.beq bk.T e&&i.z.all AV.one&&Nat.beq i.z.length sz&&Nat.ble ((off / sz+k) * sz) bk.cs.length&&Nat.blt e 1000000000 then
   vV (bk.cs.take (off / sz * sz)) fun cs=>mN id ⟨e,cs,false⟩ s.hp fun hp=>some (⟨s.fr,hp⟩,false) else none
  |none=>none
 |_,_,_=>none
theorem H2 (h:((AV.dY z).cells).all AV.one=true):z.cells.toList.all (·.oneCell')=true:=by
 cases z with
 |agg cs=>
  simp only [AV.dY,AV.cells,List.all_map] at h;simp only [Value.cells];exact h
 |_=>simpa [AV.dY,AV.cells,Value.cells,AV.one] using h
theorem QX (hT:Tb P bh) (h:UI bh t (s.eval x) d s=some (s',b)):pD P d (.call {callee:=.builtin .clear,args:=#[x],argTypes:=#[t]}) s s' b:=by
 unfold UI at h;split at h
 ·rename_i e i sz bw id off k ht hx
  obtain ⟨hu,z,hi,hz⟩:=xP hT ht;split at h
  ·rename_i bk hb
   replace h:=cm h;obtain ⟨hq,h⟩:=h;rw [ig,ij] at h;injection h with h
   injection h with h1 h2
   subst h1 h2;simp only [qa1] at hq;obtain ⟨⟨⟨⟨⟨⟨⟨⟨⟨q1,q2⟩,q3⟩,q4⟩,q5⟩,q6⟩,q7⟩,q8⟩,q9⟩,q10⟩:=hq;have q1:=qb6 q1;have q2:=qb6 q2;have q3:=qe6 q3;have q5:=qb6 q5;have q6:=qb6 q6;have q8:=qb6 q8;have q9:=qe6 q9;rw [qk6] at q10;subst q1 q2;have hx':s.eval x=Fz i.n i.b id (off / i.n * i.n) k:=by rw [hx,Fz,if_neg ak,q5]
   exact nV fun ty pos bF g K hk=>nT (hu:=hu) (hi:=hi) hb hx' q6 (H2 (by rw [hz];exact q7)) (by rw [S3 hz,q8]) q9 hk q10
  cases h
 cases h
end Go.Ab
set_option maxRecDepth 10000
namespace Go.Ab
open Go.RowKit
variable {P:Program} {γ:Type}
variable {bh:Nat→Option TI} {x:AV} {s:St}
theorem Nv (hT:Tb P bh) {e:TypeId} {r:AV} {R:Rg} {β:c9} {G:bI} {a:Act} {w:World} (hr:fw R β G s a w) (h:(pd s.hp (bh e) x).get=some r) {v:Value} (hv:Conc G β x v):
 ∃ ad u,v= .pointer (some ad)∧Conc G β r u∧∀ w',Ext w w'→(loadVar e ad).run P w'= .ok u w':=by
 have hp:PV P (.load e (.tmp 0)) ⟨[x],s.hp⟩ r:=xN (mG (P:=P) (bh:=bh) (.load e (.tmp 0)) ⟨[x],s.hp⟩) h;have hr2:fw R β G ⟨[x],s.hp⟩ {tmps:=#[v],defers:=a.defers} w:=⟨hr.defers,rfl,fun i x' y' hx hy=>by
  cases i with
  |zero=>simp at hx hy;subst hx hy;exact hv
  |succ i=>simp at hx,hr.hp⟩
 obtain ⟨u,hu,hrun⟩:=hp R β G _ w hr2;have hptr:∃ ad,v= .pointer (some ad):=by
  have := hrun w none 0 "" #[] none (Below.refl _ _);simp only [execOp,Act.eval,Instr.loadAt] at this;replace this:((do let x ← (do let a ← Instr.sureAddr v;loadVar e a);pure (Next.value x):Sem Next)).run P w= .ok (.value u) w:=this;cases v with
  |pointer ad=>
   cases ad with
   |none=>simp [Instr.sureAddr] at this
   |some ad=>exact ⟨ad,rfl⟩
  |_=>simp [Instr.sureAddr] at this
 obtain ⟨ad,rfl⟩:=hptr;refine ⟨ad,u,rfl,hu,fun w' he=>?_⟩;have := hrun w' none 0 "" #[] none he;simp only [execOp,Act.eval,Instr.loadAt] at this;replace this:((do let x ← (do let a ← Instr.sureAddr (.pointer (some ad));loadVar e a);pure (Next.value x):Sem Next)).run P w'= .ok (.value u) w':=this;simp only [Instr.sureAddr,Sem.run_bind,Sem.run_pure,qb1] at this;cases hl:(loadVar e ad).run P w' with
 |ok u' w2=>rw [hl] at this;simp at this;rw [this.1,this.2]
 |halt u' w2=>rw [hl] at this;simp at this
def S4:TypeDesc→Bool
 | .pointer _=>true
 |_=>false
def JW (P:Program) (bh:Nat→Option TI) (T:TypeId) (name:String) (x0:AV) (hp:Hp):Option (FuncId×AV):=
 match HN P T name with
 |some (f,b)=>match P.underlying T with
  |some (.pointer e)=>match b with
   |true=>some (f,x0)
   |false=>((pd hp (bh e) x0).get).map fun r=>(f,r)
  |some d=>bif !b&&!S4 d then some (f,x0) else none
  |none=>none
 |none=>none
variable {f:FuncId}
theorem JX (hT:Tb P bh) {T:TypeId} {name:String} {x0 r:AV} (h:JW P bh T name x0 s.hp=some (f,r)):
 ∀ R β G a w,fw R β G s a w→∀ v,Conc G β x0 v→∃ u,Conc G β r u∧∀ w',Ext w w'→(method (P.types.size+Made.depth) T v name).run P w'= .ok (f,u) w':=by
 intro R β G a w hr v hv;unfold JW at h;split at h
 ·rename_i g b hm
  split at h
  ·rename_i e hu
   split at h
   ·injection h with h
    injection h with h1 h2
    subst h1 h2;exact ⟨v,hv,fun w' _=>JJ ⟨hu⟩ hm v w'⟩
   rw [qa6] at h;obtain ⟨r',hl,h⟩:=h;injection h with h1 h2
   subst h1 h2;obtain ⟨ad,u,rfl,hcu,hrun⟩:=Nv hT hr hl hv;exact ⟨u,hcu,fun w' he=>HP ⟨hu⟩ hm ad u w' (hrun w' he)⟩
  ·rename_i d hne hu
   replace h:=cm h;obtain ⟨hq,h⟩:=h;injection h with h
   injection h with h1 h2
   subst h1 h2;simp only [qa1,qb7] at hq;have hb:=hq.1;subst hb;exact ⟨v,hv,fun w' _=>JL ⟨hu⟩ (by have:=hq.2;cases d<;>first|rfl|cases this) hm v w'⟩
  cases h
 cases h
def UJ (P:Program) (C:Cf) (c:Call) (s:St):Option (FuncId×List AV):=
 match c with
 |⟨.value (.func f),args,_⟩=>bif eB f C.fs then some (f,cv s args) else none
 |⟨.value fo,args,_⟩=>match s.eval fo with
  | .fn f caps=>bif eB f C.fs then some (f,cv s args++caps) else none
  |_=>none
 |⟨.invoke fo name,args,_⟩=>match s.eval fo with
  | .fn N [x0]=>bif Nat.ble 1000000000 N then
   match JW P C.bh (N - 1000000000) name x0 s.hp with
   |some (f,r)=>bif eB f C.fs then some (f,r::cv s args) else none
   |none=>none
   else none
  |_=>none
 |_=>none
theorem QY {C:Cf} [hC:mi P C] {c:Call} {as:List AV} (h:UJ P C c s=some (f,as)):Enters P (.call c) s f as∧cI P f:=by
 unfold UJ at h;split at h
 ·rename_i f' args fx
  replace h:=cm h;obtain ⟨hq,h⟩:=h;injection h with h
  injection h with h1 h2
  subst h1 h2;have i1:=hC.fs _ hq;exact ⟨HM,i1⟩
 ·rename_i fo args fx _
  split at h
  ·rename_i f' caps hf
   replace h:=cm h;obtain ⟨hq,h⟩:=h;injection h with h
   injection h with h1 h2
   subst h1 h2;have i1:=hC.fs _ hq;exact ⟨EA hf,i1⟩
  cases h
 ·rename_i fo name args fx
  split at h
  ·rename_i N x0 hf
   replace h:=cm h;obtain ⟨hN,h⟩:=h;have hN:=qe6 hN;split at h
   ·rename_i f' r hr
    replace h:=cm h;obtain ⟨hq,h⟩:=h;injection h with h
    injection h with h1 h2
    subst h1 h2;have i1:=hC.fs _ hq;have eN:N=1000000000+(N - 1000000000):=(Nat.add_sub_of_le hN).symm;exact ⟨EB (T:=N - 1000000000) (by rw [hf,← eN]) (JX hC.tb hr),i1⟩
   cases h
  cases h
 cases h
variable {r:ResultVar}
theorem Nw {q t c:ResultVar} {z m d:AV} (h:kh P r s x) (h':kh P q s z) (h'':kh P t s m) (h3:kh P c s d):RV P #[r,q,t,c] s (.dC [x,z,m,d]):=fun fn hf R β G a w hr=>by
 obtain ⟨y,h1,h2⟩:=h R β G a w hr;obtain ⟨u,k1,k2⟩:=h' R β G a w hr;obtain ⟨v,l1,l2⟩:=h'' R β G a w hr;obtain ⟨e,m1,m2⟩:=h3 R β G a w hr;refine ⟨.tuple #[y,u,v,e],?_,?_⟩
 ·rw [mI,hf]
  simp [Array.mapM_eq_mapM_toList,h1,k1,l1,m1]
 have:=Conc.dC (G:=G) (β:=β) (cs:=[x,z,m,d]) [y,u,v,e] rfl (by
  intro j a b ha hb
  match j,ha,hb with
  |0,ha,hb=>simp at ha hb;subst ha;subst hb;exact h2
  |1,ha,hb=>simp at ha hb;subst ha;subst hb;exact k2
  |2,ha,hb=>simp at ha hb;subst ha;subst hb;exact l2
  |3,ha,hb=>simp at ha hb;subst ha;subst hb;exact m2
  |n+4,ha,hb=>simp at ha)
 exact this
def wy (bh:Nat→Option TI) (r:ResultVar) (s:St):Option AV:=match r with
 | .tmp t=>s.fr[t]?
 | .cell p t=>(pd s.hp (bh t) (s.eval (.tmp p))).get
theorem lg (hT:Tb P bh) (h:wy bh r s=some x):kh P r s x:=by
 unfold wy at h;split at h
 ·exact aW h
 rename_i p t;exact bn (xN (mG (P:=P) (bh:=bh) (.load t (.tmp p)) s) h)
def QZ (bh:Nat→Option TI) (rs:Array ResultVar) (s:St):Option AV:=match rs with
 |⟨[]⟩=>some (.dC [])
 |⟨[r]⟩=>wy bh r s
 |⟨[r,q]⟩=>match wy bh r s,wy bh q s with
  |some x,some y=>some (.dC [x,y])
  |_,_=>none
 |⟨[r,q,t]⟩=>match wy bh r s,wy bh q s,wy bh t s with
  |some x,some y,some z=>some (.dC [x,y,z])
  |_,_,_=>none
 |⟨[r,q,t,u]⟩=>match wy bh r s,wy bh q s,wy bh t s,wy bh u s with
  |some x,some y,some z,some v=>some (.dC [x,y,z,v])
  |_,_,_,_=>none
 |_=>none
theorem xR (hT:Tb P bh) {rs:Array ResultVar} (h:QZ bh rs s=some x):RV P rs s x:=by
 unfold QZ at h;split at h
 ·injection h with h;subst h;exact iI
 ·exact aX (lg hT h)
 ·split at h
  ·rename_i h1 h2;injection h with h;subst h;exact du (lg hT h1) (lg hT h2)
  cases h
 ·split at h
  ·rename_i h1 h2 h3;injection h with h;subst h;exact tD (lg hT h1) (lg hT h2) (lg hT h3)
  cases h
 ·split at h
  ·rename_i h1 h2 h3 h4;injection h with h;subst h;exact Nw (lg hT h1) (lg hT h2) (lg hT h3) (lg hT h4)
  cases h
 cases h
mutual
def AV.JY:AV→List Nat
 | .ptr i _=>[i]
 | .sl _ _ i _ _=>[i]
 | .yl i _=>[i]
 | .agg cs=>AV.CA cs
 | .dC cs=>AV.CA cs
 | .fn _ cs=>AV.CA cs
 | .any=>[]
 | .v _=>[]
 | .cD _ _ _=>[]
 | .bC _=>[]
def AV.CA:List AV→List Nat
 |[]=>[]
 |x::r=>AV.JY x++AV.CA r
end
def Q0 (hp:Hp):Nat→List Nat→List Nat→List Nat
 |0,_,seen=>seen
 |_+1,[],seen=>seen
 |n+1,i::r,seen=>bif eB i seen then Q0 hp n r seen else match bp hp i with
  |some b=>Q0 hp n (AV.CA b.cs++r) (i::seen)
  |none=>Q0 hp n r seen
def rZ (ids:List Nat):Hp→Hp
 |[]=>[]
 |(i,b)::r=>bif eB i ids then (i,b)::rZ ids r else rZ ids r
theorem rl {ids:List Nat} {i:Nat}:∀ {hp:Hp},bp (rZ ids hp) i=if eB i ids then bp hp i else none
 |[]=>by simp [rZ,bp]
 |(j,b)::r=>by
  rw [rZ];cases hj:eB j ids with
  |true=>
   simp only [cond_true,bp];by_cases h:j=i
   ·subst h;simp [hj]
   simp only [h,if_false];exact rl
  |false=>
   simp only [cond_false,bp];by_cases h:j=i
   ·subst h;rw [rl];simp [hj]
   simp only [h,if_false];exact rl
theorem H3 (ids:List Nat) (hp:Hp):iE hp (rZ ids hp):=fun i b h=>by
 rw [rl] at h;split at h
 ·exact h
 cases h
def S5 (hp:Hp) (ids:List Nat):Nat→Nat→Nat
 |0,m=>m
 |n+1,m=>bif ids.all fun i=>(bp hp (i+m)).isNone then m else S5 hp ids n (m+1000)
def Q1 (bs:Nat) (s:St) (ids:List Nat):Option Nat:=match ids with
 |[]=>some 0
 |_=>fN (S5 s.hp ids 400 (bs+1000)) fun m=>bif ids.all fun i=>vW s (i+m) then some m else none
variable {bs:Nat} {s:St}
theorem Nx {ids:List Nat} {m:Nat} (h:Q1 bs s ids=some m):∀ id∈ids.map (· +m),s.free id=true:=by
 intro id hid;obtain ⟨i,hi,rfl⟩:=qe7.1 hid;unfold Q1 at h;split at h
 ·cases hi
 rw [rY] at h;replace h:=cm h;obtain ⟨hq,h⟩:=h;injection h with h
 subst h;exact oD (qc8.1 hq i hi)
abbrev EX:=Nat→Code→St→Option (Exit×St)
def sD (P:Program) (E:EX):Prop:=∀ k c s e s',E k c s=some (e,s')→AW P c s (fun e1 s1=>e1=e∧Le s1 s')
def CB:Exit→Bool
 | .normal=>true
 | .ret=>true
 |_=>false
def sE (P:Program) (f:FuncId):Option (Code×Nat×Array ResultVar):=match P.funcs[f]? with
 |some fn=>match fn.body with
  |some c=>some (c,fn.ntmps,fn.results)
  |none=>none
 |none=>none
variable {f:FuncId}
theorem oF {c:Code} {n:Nat} {rs:Array ResultVar} (h:sE P f=some (c,n,rs)):∃ fn,P.funcs[f]?=some fn∧fn.body=some c∧fn.ntmps=n∧fn.results=rs:=by
 unfold sE at h;split at h
 ·rename_i fn hf
  split at h
  ·rename_i c' hb
   injection h with h
   injection h with h1 h2
   injection h2 with h2 h3
   subst h1;exact ⟨fn,hf,hb,h2,h3⟩
  cases h
 cases h
def AA (P:Program) (C:Cf) (E:EX) (bs:Nat) (f:FuncId) (as:List AV) (d:Option Tmp) (s:St):Option (St×Bool):=
 match sE P f with
 |some (c,n,rs)=>vV (as.map (eK C.dp s.hp)) fun zs=>vV (zs++List.replicate (n - zs.length) .any) fun fr=>
  match E 0 c ⟨fr,[]⟩ with
  |some (e,s2)=>bif CB e then
   match QZ C.bh rs s2 with
   |some x=>Sd (rZ (Q0 s2.hp 2000 (AV.JY x) []) s2.hp) fun hp'=>
    match Q1 bs s (bl hp') with
    |some m=>bif AV.uF (bl hp') x&&rX (bl hp') hp'&&(x.pW m).clean&&tK (lT m hp') then
     Sd (lT m hp'++s.hp) fun hp2=>sA d (x.pW m) ⟨s.fr,hp2⟩ fun s'=>some (s',true) else none
    |none=>none
   |none=>none
   else none
  |none=>none
 |none=>none
theorem EI (d:Option Tmp) (x:AV) (fr:List AV) (hp hp2:Hp):(⟨fr,hp2⟩:St).put d x=⟨((⟨fr,hp⟩:St).put d x).fr,hp2⟩:=by cases d<;>rfl
variable {C:Cf} {E:EX} {c:Call} {as:List AV} {d:Option Tmp} {s':St} {b:Bool}
theorem EJ [hC:mi P C] (hE:sD P E) (ht:Enters P (.call c) s f as) (h:AA P C E bs f as d s=some (s',b)):pD P d (.call c) s s' b:=by
 unfold AA at h;split at h
 ·rename_i cd n rs hb
  obtain ⟨fn,h1,h2,h3,h4⟩:=oF hb;rw [ig,ig] at h;split at h
  ·rename_i e s2 hrun
   replace h:=cm h;obtain ⟨hfin,h⟩:=h;split at h
   ·rename_i x hx
    rw [Ax] at h;split at h
    ·rename_i m hm
     replace h:=cm h;obtain ⟨hq,h⟩:=h;rw [Ax,jn] at h;injection h with h
     injection h with e1 e2
     subst e1 e2;simp only [qa1] at hq;obtain ⟨⟨⟨q1,q2⟩,q3⟩,q4⟩:=hq;have hcall:da P f (as.map (eK C.dp s.hp)) (bl (rZ (Q0 s2.hp 2000 (AV.JY x) []) s2.hp)) (fun x' hp'=>x'=x∧hp'=rZ (Q0 s2.hp 2000 (AV.JY x) []) s2.hp):=by refine HJ h1 h2 h3 h4 (jN (hE 0 cd _ e s2 hrun) fun e1 s1 ⟨he,hle⟩=>?_);subst he;refine JD hle (xR hC.tb hx) (H3 _ _) (zj (by rw [q1,q2];rfl)) ⟨rfl,rfl⟩ ?_;cases e1<;>first|exact .inl rfl|exact .inr rfl|cases hfin
     have hcall2:=hcall.pW m (Q':=fun x' hp'=>x'=x.pW m∧hp'=lT m (rZ (Q0 s2.hp 2000 (AV.JY x) []) s2.hp)) (fun x' hp' ⟨a,b⟩=>⟨by rw [a],by rw [b]⟩);refine pE fun ty pos bF g K hk=>vU C.dp ht rfl hcall2 (Nx hm) fun x' hp' ⟨a,b⟩=>?_;subst a b;refine ⟨by rw [q3,q4];rfl,?_⟩;rw [EI d (x.pW m) s.fr s.hp] at hk;exact hk
    cases h
   cases h
  cases h
 cases h
def gd (k:Nat):Nat:=1000000001+k
def Ny:Hp→(Hp→γ)→γ
 |[],k=>k []
 |p::r,k=>Ny r fun r=>k (p::r)
theorem sF:∀ (hp:Hp) (k:Hp→γ),Ny hp k=k hp
 |[],_=>rfl
 |p::r,k=>by rw [Ny,sF r]
def AB (P:Program) (C:Cf) (E:EX) (k:Nat) (f:FuncId) (as:List AV) (d:Option Tmp) (s:St):Option (St×Bool):=
 match sE P f with
 |some (c,n,rs)=>bif sB 1 (gd k) s.fr s.hp as&&Nat.blt k 900000000 then
  vV (as++List.replicate (n - as.length) .any) fun fr=>Ny (s.hp++[(gd k,fJ s.fr)]) fun hp1=>
  match E (k+1) c ⟨fr,hp1⟩ with
  |some (e,s2)=>bif CB e then
   match QZ C.bh rs s2,bp s2.hp (gd k) with
   |some x,some bk=>bif Nat.beq bk.T 1000000000&&!bk.full then vV bk.cs fun fr=>Ny (fg s2.hp (gd k)) fun hp=>sA d x ⟨fr,hp⟩ fun s'=>some (s',false) else none
   |_,_=>none
   else none
  |none=>none
  else none
 |none=>none
theorem EK [hC:mi P C] (hE:sD P E) {k:Nat} (ht:Enters P (.call c) s f as) (h:AB P C E k f as d s=some (s',b)):pD P d (.call c) s s' b:=by
 unfold AB at h;split at h
 ·rename_i cd n rs hb
  obtain ⟨fn,h1,h2,h3,h4⟩:=oF hb;replace h:=cm h;obtain ⟨hq,h⟩:=h;rw [ig,sF] at h;simp only [qa1,qb7] at hq;obtain ⟨q0,q4⟩:=hq;obtain ⟨q1,q2,q3⟩:=my q0;rw [qk6] at q4;split at h
  ·rename_i e s2 hrun
   replace h:=cm h;obtain ⟨hfin,h⟩:=h;split at h
   ·rename_i x bk hx hg
    replace h:=cm h;obtain ⟨hq,h⟩:=h;rw [ig,sF,jn] at h;injection h with h
    injection h with e1 e2
    subst e1 e2;simp only [qa1,qb7] at hq;have hT:=qb6 hq.1;obtain ⟨T,cs,fl⟩:=bk;simp only at hT hq;refine nV fun ty pos bF g K hk=>Cv (gd k) ht h1 h2 h3 h4 (by unfold gd;omega) (by unfold gd;omega) q1 q2 q3 (jN (hE (k+1) cd _ e s2 hrun) fun e1 s1 ⟨he,hle⟩=>?_);subst he;have hg':bp s2.hp (gd k)=some (fJ cs):=by rw [hg,hT,hq.2];rfl
    rw [EI d x cs []] at hk
    have:∃ s3 x fr',Le s1 s3∧RV P rs s3 x∧bp s3.hp (gd k)=some (fJ fr')∧K ⟨(St.put ⟨fr',[]⟩ d x).fr,fg s3.hp (gd k)⟩:=⟨s2,x,cs,hle,xR hC.tb hx,hg',hk⟩
    cases e1<;>first|exact this|cases hfin
   cases h
  cases h
 cases h
def FU:Value→Value→Bool
 | .int k n,.int k' m=>decide (k=k')&&decide (n=m)
 | .bool a,.bool b=>decide (a=b)
 | .string a,.string b=>decide (a.data=b.data)
 | .slice none 0 0,.slice none 0 0=>true
 | .pointer none,.pointer none=>true
 | .tuple ⟨[]⟩,.tuple ⟨[]⟩=>true
 | .nilIface,.nilIface=>true
 | .nilFunc,.nilFunc=>true
 | .map none,.map none=>true
 |_,_=>false
theorem CC {x y:Value} (h:FU x y=true):x=y:=by
 unfold FU at h;split at h
 ·simp only [qa1,decide_eq_true_eq] at h;rw [h.1,h.2]
 ·simp only [decide_eq_true_eq] at h;rw [h]
 ·rename_i a b;simp only [decide_eq_true_eq] at h;obtain ⟨a⟩:=a;obtain ⟨b⟩:=b;simp only at h;rw [h]
 ·rfl
 ·rfl
 ·rfl
 ·rfl
 ·rfl
 ·rfl
 cases h
mutual
def AV.same:AV→AV→Bool
 | .any,.any=>true
 | .v x,.v y=>FU x y
 | .agg a,.agg b=>AV.jZ a b
 | .dC a,.dC b=>AV.jZ a b
 | .cD a b l,.cD a' b' l'=>decide (a=a')&&decide (b=b')&&AV.jZ l l'
 | .bC l,.bC l'=>AV.jZ l l'
 | .ptr i o,.ptr i' o'=>decide (i=i')&&decide (o=o')
 | .sl a b i o n,.sl a' b' i' o' n'=>decide (a=a')&&decide (b=b')&&decide (i=i')&&decide (o=o')&&decide (n=n')
 | .fn f l,.fn f' l'=>decide (f=f')&&AV.jZ l l'
 | .yl i y,.yl i' y'=>decide (i=i')&&(kZ y&&kZ y')
 |_,_=>false
def AV.jZ:List AV→List AV→Bool
 |[],[]=>true
 |x::r,y::q=>AV.same x y&&AV.jZ r q
 |_,_=>false
end
theorem FV:∀ (x y:AV),AV.same x y=true→x=y:=by
 intro x
 induction x using AV.rec (motive_2:=fun l=>∀ l',AV.jZ l l'=true→l=l') with
 |any=>intro y h;cases y<;>first|rfl|simp [AV.same] at h
 |v x=>intro y h;cases y<;>first|(simp only [AV.same] at h;rw [CC h])|simp [AV.same] at h
 |agg cs ih=>intro y h;cases y<;>first|(simp only [AV.same] at h;rw [ih _ h])|simp [AV.same] at h
 |dC cs ih=>intro y h;cases y<;>first|(simp only [AV.same] at h;rw [ih _ h])|simp [AV.same] at h
 |cD a b l ih=>intro y h;cases y<;>first|(simp only [AV.same,qa1,decide_eq_true_eq] at h;rw [h.1.1,h.1.2,ih _ h.2])|simp [AV.same] at h
 |bC l ih=>intro y h;cases y<;>first|(simp only [AV.same] at h;rw [ih _ h])|simp [AV.same] at h
 |ptr i o=>intro y h;cases y<;>first|(simp only [AV.same,qa1,decide_eq_true_eq] at h;rw [h.1,h.2])|simp [AV.same] at h
 |sl a b i o n=>intro y h;cases y<;>first|(simp only [AV.same,qa1,decide_eq_true_eq] at h;rw [h.1.1.1.1,h.1.1.1.2,h.1.1.2,h.1.2,h.2])|simp [AV.same] at h
 |fn f l ih=>intro y h;cases y<;>first|(simp only [AV.same,qa1,decide_eq_true_eq] at h;rw [h.1,ih _ h.2])|simp [AV.same] at h
 |yl i z=>intro y h;cases y<;>first|(simp only [AV.same,qa1,decide_eq_true_eq] at h;rw [h.1,oE h.2.1,oE h.2.2])|simp [AV.same] at h
 |nil=>rename_i l' h;cases l'<;>first|rfl|simp [AV.jZ] at h
 |cons x r ihx ihr=>rename_i l' h;cases l' with
  |nil=>simp [AV.jZ] at h
  |cons y q=>simp only [AV.jZ,qa1] at h;rw [ihx _ h.1,ihr _ h.2]
theorem oG:∀ (l l':List AV),AV.jZ l l'=true→l=l'
 |[],[],_=>rfl
 |[],_::_,h=>by simp [AV.jZ] at h
 |_::_,[],h=>by simp [AV.jZ] at h
 |x::r,y::q,h=>by
  simp only [AV.jZ,qa1] at h;rw [FV x y h.1,oG r q h.2]
def S6 (f:FuncId) (as:List AV):List (FuncId×List AV×AV)→Option AV
 |[]=>none
 |(g,bs,x)::r=>bif Nat.beq g f&&AV.jZ as bs then some x else S6 f as r
theorem EL {f:FuncId} {as:List AV} {x:AV}:∀ {l:List (FuncId×List AV×AV)},S6 f as l=some x→(f,as,x)∈l
 |[],h=>by cases h
 |(g,bs,y)::r,h=>by
  rw [S6] at h;cases hq:(Nat.beq g f&&AV.jZ as bs) with
  |true=>
   rw [hq] at h;injection h with h
   rw [qa1] at hq;have e1:=qb6 hq.1;have e2:=oG _ _ hq.2;subst e1 e2 h;exact List.mem_cons_self
  |false=>rw [hq] at h;exact qk8 _ (EL h)
theorem CD {f:FuncId} {args:List AV} {x:AV} (h:bm P f args (fun r=>r=x)) (hx:x.clean=true) (hpu:x.gq=true):da P f args [] (fun x' hp'=>x'=x∧hp'=[]):=by
 intro _ G w vals hG hc;refine (h G w vals hG hc).mono fun e w' ⟨y,G',x',he,hQ,hcx,hd,hG',hext⟩=>?_;subst hQ;refine ⟨y,G',na,_,[],he,⟨rfl,rfl⟩,fun id _=>⟨by simpa [AV.bz] using jT (id:=id) (l:=[_]) (by simpa [AV.cu] using hpu),rfl⟩,hcx,⟨hG',fun id bk h=>by simp [bp] at h,fun i j b t t' h=>by simp [bp] at h,⟨hext.os,hext.tape,hext.output,hext.size,fun k hk _=>hext.block k hk⟩,fun b hb=>(hd b hb).imp (fun h=>h) (fun h=>.inl h),sX,jw.nil⟩⟩
def Vt (f:FuncId) (as:List AV) (C:Cf) (hp:Hp):Option AV:=
 bif C.kn.any fun e=>Nat.beq e.1 f then
  match S6 f (as.map (eK C.dp hp)) C.kn with
  |some x=>bif x.clean&&AV.gq x then some x else none
  |none=>none
 else none
def JZ (P:Program) (C:Cf) (E:EX) (k bs:Nat) (c:Call) (d:Option Tmp) (s:St):Option (St×Bool):=
 match UJ P C c s with
 |some (f,as)=>match S6 f as C.kn with
  |some x=>sA d x s fun s'=>some (s',true)
  |none=>match Vt f as C s.hp with
   |some x=>sA d x s fun s'=>some (s',true)
   |none=>bif eB f C.inl then AB P C E k f as d s else AA P C E bs f as d s
 |none=>none
theorem J0 {C:Cf} [hC:mi P C] {E:EX} (hE:sD P E) {k bs:Nat} {c:Call} {d:Option Tmp} {s s':St} {b:Bool} (h:JZ P C E k bs c d s=some (s',b)):pD P d (.call c) s s' b:=by
 unfold JZ at h;split at h
 ·rename_i f as ht
  obtain ⟨he,_⟩:=QY ht;split at h
  ·rename_i x hx
   rw [jn] at h;injection h with h
   injection h with h1 h2
   subst h1 h2;obtain ⟨k1,k2⟩:=hC.kn _ (EL hx);exact pE fun ty pos bF g K hk=>ED he k1 k2 hk
  split at h
  ·rename_i x hx
   unfold Vt at hx;replace hx:=(cm hx).2;split at hx
   ·rename_i x2 hx2
    obtain ⟨hcl,hx⟩:=cm hx;injection hx with hx;subst hx;rw [qa1] at hcl;rw [jn] at h;injection h with h;injection h with h1 h2;subst h1 h2;obtain ⟨k1,k2⟩:=hC.kn _ (EL hx2);refine pE fun ty pos bF g K hk=>vU C.dp he rfl (CD k1 hcl.1 hcl.2) (fun id hid=>by cases hid) fun x' hp' ⟨a,b⟩=>?_;subst a b;refine ⟨by rw [hcl.1];rfl,?_⟩;rw [qk0];have e:(⟨(s.put d x').fr,s.hp⟩:St)=s.put d x':=by cases d<;>rfl
    rw [e];exact hk
   cases hx
  cases hi:eB f C.inl with
  |true=>rw [hi] at h;exact EK hE he h
  |false=>rw [hi] at h;exact EJ hE he h
 cases h
end Go.Ab
set_option maxRecDepth 10000
namespace Go.Ab
open Go.RowKit
variable {P:Program} {γ:Type}
def Nz (P:Program) (C:Cf) (op:Op) (d:Option Tmp) (s:St):Option (St×Bool):=match JQ P C.bh op s with
 |some x=>sA d x s fun s'=>some (s',true)
 |none=>none
variable {C:Cf} {op:Op} {d:Option Tmp} {s s':St} {b:Bool}
theorem FW [hC:mi P C] (h:Nz P C op d s=some (s',b)):pD P d op s s' b:=by
 unfold Nz at h;split at h
 ·rename_i x hx
  rw [jn] at h;injection h with h
  injection h with h1 h2
  subst h1 h2;exact FT (Az hx)
 cases h
def EM (P:Program) (C:Cf) (E:EX) (k bs:Nat) (op:Op) (d:Option Tmp) (s:St):Option (St×Bool):=
 match op with
 | .store t p x=>EF C.bh t (s.eval p) (s.eval x) d s
 | .alloc e=>EG C.bh bs e d s
 | .box e x=>QR bs e (s.eval x) d s
 | .buildSlice t len ps=>UE C.bh bs t len (bM s ps) d s
 | .makeSlice t x y=>UF P C.bh bs t (s.eval x) (s.eval y) d s
 | .makeMap _ none=>UG d s
 | .mapUpdate t m x y=>TY P t (s.eval m) (s.eval x) (s.eval y) d s
 | .insert t m x y=>TY P t (s.eval m) (s.eval x) (s.eval y) d s
 | .call ⟨.builtin .append,⟨[x,y]⟩,⟨[t,t2]⟩⟩=>if t2=t then QQ C.bh bs t d x y s else none
 | .call ⟨.builtin .delete,⟨[m,x]⟩,⟨[t,_]⟩⟩=>UH P t (s.eval m) (s.eval x) d s
 | .call ⟨.builtin .clear,⟨[x]⟩,⟨[t]⟩⟩=>UI C.bh t (s.eval x) d s
 | .call ⟨.builtin b,args,fx⟩=>Nz P C (.call ⟨.builtin b,args,fx⟩) d s
 | .call c=>JZ P C E k bs c d s
 |op=>Nz P C op d s
variable {E:EX} {k bs:Nat}
theorem AD [hC:mi P C] (hE:sD P E) (h:EM P C E k bs op d s=some (s',b)):pD P d op s s' b:=by
 unfold EM at h;split at h
 ·exact HY hC.tb h
 ·exact HZ hC.tb h
 ·exact Nu h
 ·exact QS hC.tb h
 ·exact QU hC.tb h
 ·exact QV h
 ·exact (JV h).1
 ·exact (JV h).2
 ·split at h
  ·rename_i ht;subst ht;exact Nt hC.tb h
  cases h
 ·exact QW h
 ·exact QX hC.tb h
 ·exact FW h
 ·exact J0 hE h
 exact FW h
def tN:Exit→Bool
 | .normal=>true
 |_=>false
def EN (E:EX) (k:Nat) (as:List AV) (nargs:Nat) (gid:Nat) (y:cF) (d:Option Tmp) (s:St):Option St:=
 match bp s.hp gid with
 |some bk=>bif Nat.beq bk.T 1000000001&&!bk.full&&Nat.beq nargs y.ps.size&&oz y.assign&&oz y.body&&sB 1 (gd k) s.fr s.hp as&&Nat.ble 1000000000 gid&&Nat.blt k 900000000&&!Nat.beq gid (gd k) then
  vV (mL y.ps.toList as bk.cs) fun fr1=>Ny (s.hp++[(gd k,fJ s.fr)]) fun hp1=>
  match E (k+1) y.assign ⟨fr1,hp1⟩ with
  |some (e1,s1)=>match bp s1.hp gid with
   |some b1=>bif tN e1&&Nat.beq b1.T 1000000001&&!b1.full then
    mN gid ⟨1000000002,b1.cs,false⟩ s1.hp fun hp2=>
    match E (k+1) y.body ⟨s1.fr,hp2⟩ with
    |some (e,s3)=>match bp s3.hp gid,bp s3.hp (gd k),kp e with
     |some b3,some b4,some T=>bif Nat.beq b3.T 1000000002&&!b3.full&&Nat.beq b4.T 1000000000&&!b4.full then
      mN gid ⟨T,b3.cs,false⟩ s3.hp fun hp3=>Ny (fg hp3 (gd k)) fun hp4=>vV b4.cs fun fr4=>sA d (.v (.bool (tN e))) ⟨fr4,hp4⟩ some else none
     |_,_,_=>none
    |none=>none
    else none
   |none=>none
  |none=>none
  else none
 |none=>none
variable {all:Array Oper} {rest:List Oper} {K:St→Prop}
theorem H4 (hE:sD P E) {fo:Operand} {args:Array Operand} {fx:Array TypeId} {gid:Nat} {y:cF} {ty:TypeId} {pos:String} {bF:Array Edge} (hf:s.eval fo= .yl gid y)
 (h:EN E k (cv s args) args.size gid y d s=some s') (hk:dj P all rest s' K):dj P all (⟨d,.call {callee:=.value fo,args,argTypes:=fx},ty,pos,bF,none⟩::rest) s K:=by
 unfold EN at h;split at h
 ·rename_i bk hb
  replace h:=cm h;obtain ⟨hq,h⟩:=h;rw [ig,sF] at h;simp only [qa1,qb7] at hq;obtain ⟨⟨⟨⟨⟨⟨⟨⟨q1,q2⟩,q3⟩,q4⟩,q5⟩,q678⟩,q9⟩,q10⟩,q11⟩:=hq;obtain ⟨q6,q7,q8⟩:=my q678;have q1:=qb6 q1;have q3:=qb6 q3;have q9:=qe6 q9;rw [qk6] at q10;have q11:=Nat.ne_of_beq_eq_false q11;obtain ⟨T0,fro,fl⟩:=bk;simp only at q1 q2 h;subst q1 q2;split at h
  ·rename_i e1 s1 hr1
   split at h
   ·rename_i b1 hb1
    replace h:=cm h;obtain ⟨hq,h⟩:=h;rw [ij] at h;simp only [qa1,qb7] at hq;obtain ⟨⟨r0,r1⟩,r2⟩:=hq;have r1:=qb6 r1;obtain ⟨T1,fro1,fl1⟩:=b1;simp only at r1 r2 h;subst r1 r2;split at h
    ·rename_i e s3 hr3
     split at h
     ·rename_i b3 b4 T hb3 hb4 hj
      replace h:=cm h;obtain ⟨hq,h⟩:=h;rw [ij,sF,ig,jn] at h;injection h with h
      subst h;simp only [qa1,qb7] at hq;obtain ⟨⟨⟨t1,t2⟩,t3⟩,t4⟩:=hq;have t1:=qb6 t1;have t3:=qb6 t3;obtain ⟨T3,fro3,fl3⟩:=b3;obtain ⟨T4,fr4,fl4⟩:=b4;simp only at t1 t2 t3 t4 hk;subst t1 t2 t3 t4;obtain ⟨fr,hp⟩:=s;refine vO (gd k) hf hb q3 q4 q5 q9 (by unfold gd;omega) (by unfold gd;omega) q11 q6 q7 q8 rfl ?_;refine jN (hE (k+1) y.assign _ e1 s1 hr1) fun x1 u1 ⟨he1,hle1⟩=>?_;subst he1;have hx1:x1= .normal:=by cases x1<;>first|rfl|cases r0
      subst hx1;refine ⟨s1,fro1,hle1,hb1,rfl,?_⟩;refine jN (hE (k+1) y.body _ e s3 hr3) fun x2 u2 ⟨he2,hle2⟩=>?_;subst he2;refine ⟨s3,fro3,fr4,T,hle2,hb3,hb4,rfl,hj,?_⟩;rw [EI d _ fr4 []] at hk;cases x2<;>exact hk
     cases h
    cases h
   cases h
  cases h
 cases h
def FX (P:Program) (C:Cf) (E:EX) (k bs:Nat) (op:Op) (d:Option Tmp) (s:St):Option St:=
 match op with
 | .call ⟨.value fo,args,fx⟩=>match s.eval fo with
  | .yl gid y=>EN E k (cv s args) args.size gid y d s
  |_=>match EM P C E k bs (.call ⟨.value fo,args,fx⟩) d s with
   |some (s',_)=>some s'
   |none=>none
 |op=>match EM P C E k bs op d s with
  |some (s',_)=>some s'
  |none=>none
theorem CE [hC:mi P C] (hE:sD P E) {ty:TypeId} {pos:String} {bF:Array Edge} (hnd:iL [(⟨d,op,ty,pos,bF,none⟩:Oper)]=true)
 (h:FX P C E k bs op d s=some s') (hk:dj P all rest s' K):dj P all (⟨d,op,ty,pos,bF,none⟩::rest) s K:=by
 unfold FX at h;split at h
 ·split at h
  ·rename_i gid y hf
   exact H4 hE hf h hk
  split at h
  ·rename_i s1 b hs
   injection h with h
   subst h;exact bD rfl hnd fun K' hK'=>(AD hE hs ty pos bF none K' (hK' _ hk)).1
  cases h
 split at h
 ·rename_i s1 b hs
  injection h with h
  subst h;exact bD rfl hnd fun K' hK'=>(AD hE hs ty pos bF none K' (hK' _ hk)).1
 cases h
def CF (P:Program) (C:Cf) (E:EX) (k bs:Nat) (all:Array Oper):List Oper→St→Option St
 |[],s=>some s
 |⟨d,op,ty,pos,bF,none⟩::r,s=>bif iL [(⟨d,op,ty,pos,bF,none⟩:Oper)] then
  match FX P C E k bs op d s with
  |some s'=>CF P C E k bs all r s'
  |none=>none
  else none
 |⟨d,op,ty,pos,bF,some (j,b)⟩::r,s=>match rT (rK all j s) b with
  | .run=>bif iL [(⟨d,op,ty,pos,bF,none⟩:Oper)] then
   match FX P C E k bs op d s with
   |some s'=>CF P C E k bs all r s'
   |none=>none
   else none
  | .skip=>sA d (.v undef) s fun s'=>CF P C E k bs all r s'
  | .no=>none
theorem rm {C:Cf} [hC:mi P C] {E:EX} (hE:sD P E) {k bs:Nat} {all:Array Oper}:∀ (l:List Oper) (s r:St),CF P C E k bs all l s=some r→∀ K:St→Prop,(∀ x,Le x r→K x)→dj P all l s K
 |[],s,r,h,K,hK=>by injection h with h;subst h;exact cH (hK _ (Le.refl _))
 |⟨d,op,ty,pos,bF,none⟩::l,s,r,h,K,hK=>by
  rw [CF] at h;replace h:=cm h;obtain ⟨hq,h⟩:=h;split at h
  ·rename_i s1 hs
   exact CE hE hq hs (rm hE l s1 r h K hK)
  cases h
 |⟨d,op,ty,pos,bF,some (j,b)⟩::l,s,r,h,K,hK=>by
  rw [CF] at h;split at h
  ·rename_i hg
   obtain ⟨t,g1,g2⟩:=eX (tl hg);replace h:=cm h;obtain ⟨hq,h⟩:=h;split at h
   ·rename_i s1 hs
    exact iT g1 g2 (CE hE hq hs (rm hE l s1 r h K hK))
   cases h
  ·rename_i hg
   rw [jn] at h;rcases qt hg with hx|hx
   ·obtain ⟨t,g1,g2⟩:=eX hx
    exact sy g1 g2 (by cases b<;>rfl) (rm hE l _ r h K hK)
   obtain ⟨t,g1,g2⟩:=eX hx;exact sy g1 g2 (by simp [undef]) (rm hE l _ r h K hK)
  cases h
def FY (h1:Hp):Hp→Bool
 |[]=>true
 |(i,b)::r=>(match bp h1 i with
  |some b1=>Nat.beq b1.T b.T&&decide (b1.full=b.full)&&AV.jZ b1.cs b.cs
  |none=>false)&&FY h1 r
theorem CG {h1:Hp}:∀ {h0:Hp},FY h1 h0=true→iE h1 h0
 |[],_=>fR _
 |(i,b)::r,h=>by
  simp only [FY,qa1] at h;obtain ⟨ha,hb⟩:=h;have ih:=CG hb;intro j bk hj;simp only [bp] at hj;split at hj
  ·rename_i e
   subst e;injection hj with hj
   subst hj;split at ha
   ·rename_i b1 h2
    simp only [qa1,decide_eq_true_eq] at ha;obtain ⟨⟨a1,a2⟩,a3⟩:=ha;rw [h2];obtain ⟨T1,c1,f1⟩:=b1;obtain ⟨T,cs,fl⟩:=b;simp only at a1 a2 a3;rw [qb6 a1,a2,oG _ _ a3]
   cases ha
  exact ih j bk hj
def UK (s1 s0:St):Bool:=AV.jZ s1.fr s0.fr&&FY s1.hp s0.hp
variable {s1:St}
theorem Q2 {s0:St} (h:UK s1 s0=true):Le s1 s0:=by
 simp only [UK,qa1] at h;obtain ⟨f1,h1⟩:=s1;obtain ⟨f0,h0⟩:=s0;have e:=oG _ _ h.1;simp only at e;subst e;exact ea (mF _) (CG h.2)
def Q3:Op→Bool
 | .alloc _=>false
 | .box _ _=>false
 | .store _ _ _=>false
 | .buildSlice _ _ _=>false
 | .makeSlice _ _ _=>false
 | .makeMap _ _=>false
 | .mapUpdate _ _ _ _=>false
 | .insert _ _ _ _=>false
 | .call ⟨.builtin .len,_,_⟩=>true
 | .call ⟨.builtin .min,_,_⟩=>true
 | .call ⟨.builtin .max,_,_⟩=>true
 | .call _=>false
 |_=>true
def EO:Nat→List Oper→List Nat
 |_,[]=>[]
 |i,o::r=>bif Q3 o.op then i::EO (i+1) r else EO (i+1) r
def S7 (inl:List Nat):Op→Bool
 | .store _ _ _=>true
 | .mapUpdate _ _ _ _=>true
 | .insert _ _ _ _=>true
 | .makeMap _ _=>true
 | .call ⟨.builtin .append,_,_⟩=>true
 | .call ⟨.builtin .delete,_,_⟩=>true
 | .call ⟨.builtin .clear,_,_⟩=>true
 | .call ⟨.value (.func f),_,_⟩=>eB f inl
 | .call ⟨.invoke _ _,_,_⟩=>true
 |_=>false
def J1 (inl:List Nat):Nat→List Oper→List Nat
 |_,[]=>[]
 |i,o::r=>bif S7 inl o.op then i::J1 inl (i+1) r else J1 inl (i+1) r
def AE (inl:List Nat) (ops:Array Oper):List Nat:=(EO 0 ops.toList).filter fun k=>(J1 inl 0 ops.toList).all fun i=>((Region.before ops).getD i 0).testBit k
def Sf (P:Program) (C:Cf) (E:EX) (k bs:Nat) (ops:Array Oper) (j:Nat) (s:St):Option (St×Bool):=match ops[j]? with
 |some ⟨d,op,_,_,_,none⟩=>EM P C E k bs op d s
 |some ⟨d,op,_,_,_,some (g,b)⟩=>match rT (rK ops g s) b with
  | .run=>EM P C E k bs op d s
  | .skip=>sA d (.v undef) s fun s'=>some (s',true)
  | .no=>none
 |none=>none
def FZ (P:Program) (C:Cf) (ops:Array Oper) (j:Nat) (s:St):Option St:=match ops[j]? with
 |some ⟨d,op,_,_,_,none⟩=>match JQ P C.bh op s with
  |some x=>sA d x s some
  |none=>none
 |some ⟨d,op,_,_,_,some (g,b)⟩=>match rT (rK ops g s) b with
  | .run=>match JQ P C.bh op s with
   |some x=>sA d x s some
   |none=>none
  | .skip=>sA d (.v undef) s some
  | .no=>none
 |none=>none
def TZ:List Bool→(List Bool→γ)→γ
 |[],k=>k []
 |b::r,k=>fB b fun b=>TZ r fun r=>k (b::r)
theorem J2:∀ (l:List Bool) (k:List Bool→γ),TZ l k=k l
 |[],_=>rfl
 |b::r,k=>by rw [TZ,P3,J2 r]
def vX (l:Array Bool) (i:Nat) (k:Array Bool→γ):γ:=TZ (l.setIfInBounds i true).toList fun q=>k q.toArray
theorem oH (l:Array Bool) (i:Nat) (k:Array Bool→γ):vX l i k=k (l.setIfInBounds i true):=by rw [vX,J2]
def EP (P:Program) (C:Cf) (E:EX) (k bs:Nat) (ops:Array Oper) (hs:List Nat):Nat→Array Bool→St→Option St
 |0,listed,s=>match Region.ready .any ops listed with
  |[]=>some s
  |_=>none
 |f+1,listed,s=>match Region.ready .any ops listed with
  |[]=>some s
  |i::r=>match (i::r).find? fun j=>eB j hs with
   |some j=>bif Region.noSelect ops&&(Region.ready .any ops listed).contains j&&Region.free .any ops listed j&&hs.contains j then
    match FZ P C ops j s with
    |some s1=>vX listed j fun l2=>EP P C E k bs ops hs f l2 s1
    |none=>none
    else none
   |none=>match Sf P C E k bs ops i s with
    |some (s1,b)=>bif b|| !early ops hs i then
     match vX listed i fun l2=>EP P C E k bs ops hs f l2 s1 with
     |some r0=>bif r.all fun j=>match Sf P C E k bs ops j s with
      |some (s2,b2)=>(b2|| !early ops hs j)&&match vX listed j fun l2=>EP P C E k bs ops hs f l2 s2 with
       |some r2=>UK r2 r0
       |none=>false
      |none=>false
      then some r0 else none
     |none=>none
     else none
    |none=>none
variable {ops:Array Oper} {hs:List Nat} {f j:Nat} {listed:Array Bool}
theorem wO [hC:mi P C] (hE:sD P E) (h:Sf P C E k bs ops j s=some (s1,b)) (he:(b|| !early ops hs j)=true)
 (hk:dt P ops hs f (listed.setIfInBounds j true) s1 K):uM P ops hs f listed j s K:=by
 unfold Sf at h;split at h
 ·rename_i d op ty pos bF hi
  have ho:=AD hE h;cases b with
  |true=>exact Jh hi fun K' hK'=>(ho ty pos bF none K' (hK' _ hk)).2 rfl
  |false=>
   simp only [qc1,qb7] at he;exact Ak hi he fun K' hK'=>(ho ty pos bF none K' (hK' _ hk)).1
 ·rename_i d op ty pos bF g b' hi
  split at h
  ·rename_i hg
   obtain ⟨t,g1,g2⟩:=eX (tl hg);have ho:=AD hE h;cases b with
   |true=>exact Nj hi g1 g2 fun K' hK'=>(ho ty pos bF none K' (hK' _ hk)).2 rfl
   |false=>
    simp only [qc1,qb7] at he;exact Nk hi he g1 g2 fun K' hK'=>(ho ty pos bF none K' (hK' _ hk)).1
  ·rename_i hg
   rw [jn] at h;injection h with h
   injection h with h1 h2
   subst h1;rcases qt hg with hx|hx
   ·obtain ⟨t,g1,g2⟩:=eX hx
    exact FP hi g1 g2 (by cases b'<;>rfl) hk
   obtain ⟨t,g1,g2⟩:=eX hx;exact FP hi g1 g2 (by simp [undef]) hk
  cases h
 cases h
theorem CH [hC:mi P C] (h:FZ P C ops j s=some s1) (hb:(Region.noSelect ops&&(Region.ready .any ops listed).contains j&&Region.free .any ops listed j&&hs.contains j)=true)
 (hk:dt P ops hs f (listed.setIfInBounds j true) s1 K):dt P ops hs (f+1) listed s K:=by
 unfold FZ at h;split at h
 ·rename_i d op ty pos bF hi
  split at h
  ·rename_i x hx
   rw [jn] at h;injection h with h
   subst h;exact FB j hi hb (Az hx) fun K' hK'=>hK' _ hk
  cases h
 ·rename_i d op ty pos bF g b' hi
  split at h
  ·rename_i hg
   obtain ⟨t,g1,g2⟩:=eX (tl hg);split at h
   ·rename_i x hx
    rw [jn] at h;injection h with h
    subst h;exact BT j hi hb g1 g2 (Az hx) fun K' hK'=>hK' _ hk
   cases h
  ·rename_i hg
   rw [jn] at h;injection h with h
   subst h;rcases qt hg with hx|hx
   ·obtain ⟨t,g1,g2⟩:=eX hx
    exact wF j hi hb g1 g2 (by cases b'<;>rfl) fun K' hK'=>hK' _ hk
   obtain ⟨t,g1,g2⟩:=eX hx;exact wF j hi hb g1 g2 (by simp [undef]) fun K' hK'=>hK' _ hk
  cases h
 cases h
theorem wP {C:Cf} [hC:mi P C] {E:EX} (hE:sD P E) {k bs:Nat} {ops:Array Oper} {hs:List Nat}:∀ (f:Nat) (listed:Array Bool) (s r:St),EP P C E k bs ops hs f listed s=some r→∀ K:St→Prop,(∀ x,Le x r→K x)→dt P ops hs f listed s K
 |0,listed,s,r,h,K,hK=>by
  rw [EP] at h;split at h
  ·rename_i hr
   injection h with h
   subst h;exact qu hr (hK _ (Le.refl _))
  cases h
 |f+1,listed,s,r,h,K,hK=>by
  rw [EP] at h;split at h
  ·rename_i hr
   injection h with h
   subst h;exact qu hr (hK _ (Le.refl _))
  rename_i i q hr;split at h
  ·rename_i j hj
   replace h:=cm h;obtain ⟨hq,h⟩:=h;split at h
   ·rename_i s1 hs1
    rw [oH] at h;exact CH hs1 hq (wP hE f _ s1 r h K hK)
   cases h
  split at h
  ·rename_i s1 b hs1
   replace h:=cm h;obtain ⟨hq,h⟩:=h;split at h
   ·rename_i r0 h0
    rw [oH] at h0;replace h:=cm h;obtain ⟨hall,h⟩:=h;injection h with h
    subst h;refine xM (by rw [hr];simp) fun j hj=>?_;rw [hr] at hj;rcases qc2.1 hj with rfl|hj
    ·exact wO hE hs1 hq (wP hE f _ s1 r0 h0 K hK)
    have:=qc8.1 hall j hj;split at this
    ·rename_i s2 b2 hs2
     rw [qa1] at this;obtain ⟨hq2,this⟩:=this;split at this
     ·rename_i r2 h2
      rw [oH] at h2;exact wO hE hs2 hq2 (wP hE f _ s2 r2 h2 K fun x hx=>hK x (hx.trans (Q2 this)))
     cases this
    cases this
   cases h
  cases h
mutual
def AV.sG (tb:List (Nat×cF)):AV→AV
 | .agg cs=>.agg (AV.jG tb cs)
 | .dC cs=>.dC (AV.jG tb cs)
 | .fn f cs=>.fn f (AV.jG tb cs)
 | .yl i y=>bif kZ y then .yl i y else match tb.lookup i with
  |some y0=>.yl i y0
  |none=>.any
 | .any=>.any
 | .v x=>.v x
 | .cD a b l=>.cD a b l
 | .bC l=>.bC l
 | .ptr i o=>.ptr i o
 | .sl a b i o n=>.sl a b i o n
def AV.jG (tb:List (Nat×cF)):List AV→List AV
 |[]=>[]
 |x::r=>AV.sG tb x::AV.jG tb r
end
theorem k8 (tb:List (Nat×cF)):∀ (l:List AV) (i:Nat),(AV.jG tb l)[i]?=l[i]?.map (AV.sG tb)
 |[],i=>by simp [AV.jG]
 |x::r,0=>by simp [AV.jG]
 |x::r,i+1=>by simpa [AV.jG] using k8 tb r i
theorem k9 (tb:List (Nat×cF)) (l:List AV):(AV.jG tb l).length=l.length:=by
 induction l with
 |nil=>rfl
 |cons x r ih=>simp [AV.jG,ih]
def vY (tb:List (Nat×cF)):Hp→Hp
 |[]=>[]
 |(i,b)::r=>(i,⟨b.T,AV.jG tb b.cs,b.full⟩)::vY tb r
theorem pG (tb:List (Nat×cF)) (i:Nat):∀ (hp:Hp),bp (vY tb hp) i=(bp hp i).map fun b=>⟨b.T,AV.jG tb b.cs,b.full⟩
 |[]=>rfl
 |(j,b)::r=>by
  simp only [vY,bp];split
  ·rfl
  exact pG tb i r
def tO (tb:List (Nat×cF)) (s:St):St:=⟨AV.jG tb s.fr,vY tb s.hp⟩
def S8 (β:c9) (tb:List (Nat×cF)):Prop:=∀ i y0 l y,tb.lookup i=some y0→β i= .gh (some (l,y))→y0=y
variable {G:bI} {β:c9} {tb:List (Nat×cF)}
theorem Conc.sG {x:AV} {v:Value} (h:Conc G β x v) (ht:S8 β tb):Conc G β (x.sG tb) v:=by
 have key:∀ {β0 x v},Conc G β0 x v→β0=β→Conc G β (x.sG tb) v:=by
  intro β0 x v h
  induction h with
  |any=>intros;exact .any
  |v=>intros;exact .v
  |agg xs hl _ ih=>
   intro e;exact .agg xs (by rw [k9];exact hl) fun j x y hx hy=>by
    rw [k8,qa6] at hx;obtain ⟨u,hu,rfl⟩:=hx;exact ih j u y hu hy e
  |dC xs hl _ ih=>
   intro e;exact .dC xs (by rw [k9];exact hl) fun j x y hx hy=>by
    rw [k8,qa6] at hx;obtain ⟨u,hu,rfl⟩:=hx;exact ih j u y hu hy e
  |fn xs hf hl _ ih=>
   intro e;exact .fn xs hf (by rw [k9];exact hl) fun j x y hx hy=>by
    rw [k8,qa6] at hx;obtain ⟨u,hu,rfl⟩:=hx;exact ih j u y hu hy e
  |sZ _ ih=>intro e;exact .sZ (ih e)
  |ptr h0=>intro e;subst e;exact .ptr h0
  |lU h0=>intro e;subst e;exact .lU h0
  |sl h0 hn h1 hm hb=>intro e;subst e;exact .sl h0 hn h1 hm hb
  |cD ys hu hl hc hb hA hr hs _=>intro e;exact .cD ys hu hl hc hb hA hr hs
  |bC ys hl hr hs _=>intro e;exact .bC ys hl hr hs
  |@yl β0 i y l hβ=>
   intro e;subst e;simp only [AV.sG];cases hm:kZ y with
   |true=>exact .yl hβ
   |false=>
    simp only [cond_false];split
    ·rename_i y0 hy0
     have:=ht i y0 l y hy0 hβ;subst this;exact .yl hβ
    exact .any
 exact key h rfl
def u5 (tb:List (Nat×cF)) (hp:Hp):Bool:=tb.all fun p=>match bp hp p.1 with
 |some b=>Nat.blt 1000000000 b.T
 |none=>false
variable {i:Nat} {y:cF}
theorem ER (h:tb.lookup i=some y):(i,y)∈tb:=by
 induction tb with
 |nil=>simp at h
 |cons p r ih=>
  obtain ⟨j,z⟩:=p;rw [List.lookup_cons] at h;by_cases e:i=j
  ·subst e;simp at h;subst h;simp
  have e':(i == j)=false:=by simpa using e
  rw [e'] at h;exact qk8 _ (ih h)
variable {R:Rg} {w:World}
theorem ES {hp:Hp} (h:dx R β G hp w) {l:Nat} {b:iB} (hb:bp hp i=some b) (hT:1000000000 < b.T) (hβ:β i= .gh (some (l,y))):∃ D,R.lp i=some (l,D,y):=by
 have h0:=h.blk i b hb;unfold bZ at h0;rw [hβ] at h0;rcases h0 with ⟨_,_,_,⟨_,_,D,_,h1,_⟩,_⟩|⟨_,_,_,_,⟨_,h2,_⟩,_⟩
 ·exact ⟨D,h1⟩
 exact absurd hT (by rw [h2];exact Nat.lt_irrefl _)
def tP:List AV→List (Nat×cF)
 |[]=>[]
 | .yl i y::r=>bif kZ y then tP r else (i,y)::tP r
 |_::r=>tP r
theorem u6 {i:Nat} {y:cF}:∀ {l:List AV},(i,y)∈tP l→∃ j:Nat,l[j]?=some (.yl i y)
 |[],h=>by simp [tP] at h
 |x::r,h=>by
  have key:(i,y)∈tP r→∃ j:Nat,(x::r)[j]?=some (.yl i y):=fun h=>by
   obtain ⟨j,hj⟩:=u6 h;exact ⟨j+1,by simpa using hj⟩
  cases x with
  |yl i' y'=>
   simp only [tP] at h;cases hm:kZ y' with
   |true=>rw [hm] at h;exact key h
   |false=>
    rw [hm] at h;rcases qc2.1 h with h|h
    ·injection h with h1 h2;subst h1 h2;exact ⟨0,rfl⟩
    exact key h
  |_=>exact key h
def F2:Hp→List (Nat×cF)
 |[]=>[]
 |(_,b)::r=>tP b.cs++F2 r
def S9 (s:St):List (Nat×cF):=tP s.fr++F2 s.hp
def xS:Hp→Bool
 |[]=>true
 |(i,_)::r=>!eB i (bl r)&&xS r
theorem zu {i:Nat} {y:cF}:∀ {hp:Hp},xS hp=true→(i,y)∈F2 hp→∃ k b,∃ j:Nat,bp hp k=some b∧b.cs[j]?=some (.yl i y)
 |[],_,h=>by simp [F2] at h
 |(k0,b)::r,hu,h=>by
  simp only [xS,qa1,qb7] at hu;rcases qe4.1 h with h|h
  ·obtain ⟨j,hj⟩:=u6 h
   exact ⟨k0,b,j,by simp [bp],hj⟩
  obtain ⟨k,b2,j,h1,h2⟩:=zu hu.2 h;refine ⟨k,b2,j,?_,h2⟩;have hne:k0≠k:=fun e=>by
   subst e;exact uQ.1 hu.1 (dq.2 ⟨b2,h1⟩)
  simp [bp,hne,h1]
theorem F3 {s:St} {a:Act} (h:fw R β G s a w) (hu:xS s.hp=true) (hm:(i,y)∈S9 s):∃ l,β i= .gh (some (l,y)):=by
 have fin:∀ {v:Value},Conc G β (.yl i y) v→∃ l,β i= .gh (some (l,y)):=fun hc=>by
  cases hc with
  |@yl _ _ _ l hβ=>exact ⟨l,hβ⟩
 rcases qe4.1 hm with hm|hm
 ·obtain ⟨j,hj⟩:=u6 hm
  have hlt:j < a.tmps.size:=by rw [h.size];exact bX hj
  exact fin (h.fr j _ _ hj (qd1 hlt))
 obtain ⟨k,b,j,h1,h2⟩:=zu hu hm;have h0:=h.hp.blk k b h1;unfold bZ at h0;cases hβ:β k with
 |no=>rw [hβ] at h0;exact h0.elim
 |nil=>rw [hβ] at h0;rw [h0.1] at h2;simp at h2
 |«at» bb t=>
  rw [hβ] at h0;obtain ⟨g1,g2,arr,g3,g4,g5,g6,g7⟩:=h0;have hlt:j < arr.size:=by have:=bX h2;omega
  exact fin (g7 j _ _ h2 (qd1 hlt))
 |gh o=>
  rw [hβ] at h0;obtain ⟨outs,v1,v2,_⟩:=h0.view;have hlt:j < outs.length:=by rw [← v1];exact bX h2
  exact fin (v2 j _ _ h2 (qa7 hlt))
def J3 (R:Rg) (tb:List (Nat×cF)):Prop:=∀ p∈tb,∃ l D,R.lp p.1=some (l,D,p.2)
theorem xT {β2:c9} {G2:bI} {r:St} {a2:Act} {w2:World} (hlp:J3 R tb) (h2:fw R β2 G2 r a2 w2) (hr2:u5 tb r.hp=true):∃ β3,fw R β3 G2 (tO tb r) a2 w2:=by
 have ht:S8 β2 tb:=fun i y0 l y hl hβ2=>by
  have hm:=ER hl;have e2:=qc8.1 hr2 _ hm;simp only at e2;split at e2
  ·rename_i b2 hb2
   rw [qk6] at e2;obtain ⟨l1,D1,k1⟩:=hlp _ hm;obtain ⟨D2,k2⟩:=ES h2.hp hb2 e2 hβ2;simp only at k1;rw [k1] at k2;injection k2 with k2
   injection k2 with _ k2
   injection k2 with _ k2
  cases e2
 have hs:∀ i,(bp (vY tb r.hp) i).isSome→(bp r.hp i).isSome:=fun i hi=>by
  rw [pG] at hi;cases hq:bp r.hp i with
  |some _=>rfl
  |none=>rw [hq] at hi;simp at hi
 refine ⟨β2,h2.defers,by rw [h2.size];exact (k9 tb r.fr).symm,fun i x y hx hy=>?_,⟨h2.hp.gs,fun i bk hi=>?_,fun i j b t t' hi hj=>h2.hp.inj i j b t t' (hs i hi) (hs j hj),h2.hp.keeps,h2.hp.kH,h2.hp.kL,h2.hp.iC.sub hs⟩⟩
 ·simp only [tO] at hx
  rw [k8,qa6] at hx;obtain ⟨u,hu',rfl⟩:=hx;exact (h2.fr i u y hu' hy).sG ht
 simp only [tO] at hi;rw [pG,qa6] at hi;obtain ⟨b0,hb0,rfl⟩:=hi;have h0:=h2.hp.blk i b0 hb0;unfold bZ at h0 ⊢;cases hβ:β2 i with
 |no=>rw [hβ] at h0;exact h0
 |nil=>rw [hβ] at h0;exact ⟨by simp [h0.1,AV.jG],h0.2⟩
 |«at» bb t=>
  rw [hβ] at h0;obtain ⟨g1,g2,arr,g3,g4,g5,g6,g7⟩:=h0;exact ⟨g1,g2,arr,g3,g4,by simp only [k9];exact g5,fun hf=>by simp only [k9];exact g6 hf,fun j x y hx hy=>by
   simp only at hx;rw [k8,qa6] at hx;obtain ⟨u,hu',rfl⟩:=hx;exact (g7 j u y hu' hy).sG ht⟩
 |gh o=>
  rw [hβ] at h0;obtain ⟨outs,v1,v2,v3⟩:=h0.view;exact v3 β2 (AV.jG tb b0.cs) (by rw [k9];exact v1) fun j x y hx hy=>by
   rw [k8,qa6] at hx;obtain ⟨u,hu',rfl⟩:=hx;exact (v2 j u y hu' hy).sG ht
mutual
def AV.nW:AV→AV→Bool
 | .any,.any=>true
 | .v x,.v y=>FU x y
 | .agg a,.agg b=>AV.nz a b
 | .dC a,.dC b=>AV.nz a b
 | .cD a b l,.cD a' b' l'=>decide (a=a')&&decide (b=b')&&AV.jZ l l'
 | .bC l,.bC l'=>AV.jZ l l'
 | .ptr i o,.ptr i' o'=>decide (i=i')&&decide (o=o')
 | .sl a b i o n,.sl a' b' i' o' n'=>decide (a=a')&&decide (b=b')&&decide (i=i')&&decide (o=o')&&decide (n=n')
 | .fn f l,.fn f' l'=>decide (f=f')&&AV.nz l l'
 | .yl i y,.yl i' y'=>decide (i=i')&&(kZ y == kZ y')
 |_,_=>false
def AV.nz:List AV→List AV→Bool
 |[],[]=>true
 |x::r,y::q=>AV.nW x y&&AV.nz r q
 |_,_=>false
end
theorem NA (tb:List (Nat×cF)):∀ (x y:AV),AV.nW x y=true→x.sG tb=y.sG tb:=by
 intro x
 induction x using AV.rec (motive_2:=fun l=>∀ l',AV.nz l l'=true→AV.jG tb l=AV.jG tb l') with
 |any=>intro y h;cases y<;>first|rfl|simp [AV.nW] at h
 |v x=>intro y h;cases y<;>first|(simp only [AV.nW] at h;rw [CC h])|simp [AV.nW] at h
 |agg cs ih=>intro y h;cases y<;>first|(simp only [AV.nW] at h;simp only [AV.sG,ih _ h])|simp [AV.nW] at h
 |dC cs ih=>intro y h;cases y<;>first|(simp only [AV.nW] at h;simp only [AV.sG,ih _ h])|simp [AV.nW] at h
 |cD a b l ih=>intro y h;cases y<;>first|(simp only [AV.nW,qa1,decide_eq_true_eq] at h;rw [h.1.1,h.1.2,oG _ _ h.2])|simp [AV.nW] at h
 |bC l ih=>intro y h;cases y<;>first|(simp only [AV.nW] at h;rw [oG _ _ h])|simp [AV.nW] at h
 |ptr i o=>intro y h;cases y<;>first|(simp only [AV.nW,qa1,decide_eq_true_eq] at h;rw [h.1,h.2])|simp [AV.nW] at h
 |sl a b i o n=>intro y h;cases y<;>first|(simp only [AV.nW,qa1,decide_eq_true_eq] at h;rw [h.1.1.1.1,h.1.1.1.2,h.1.1.2,h.1.2,h.2])|simp [AV.nW] at h
 |fn f l ih=>intro y h;cases y<;>first|(simp only [AV.nW,qa1,decide_eq_true_eq] at h;simp only [AV.sG,ih _ h.2,h.1])|simp [AV.nW] at h
 |yl i z=>
  intro y h;cases y with
  |yl i' z'=>
   simp only [AV.nW,qa1,decide_eq_true_eq,beq_iff_eq] at h;obtain ⟨e1,e2⟩:=h;subst e1;simp only [AV.sG];cases hz:kZ z with
   |true=>
    rw [hz] at e2;rw [← e2];rw [oE hz,oE e2.symm]
   |false=>rw [hz] at e2;rw [← e2];rfl
  |_=>simp [AV.nW] at h
 |nil=>rename_i l' h;cases l'<;>first|rfl|simp [AV.nz] at h
 |cons x r ihx ihr=>rename_i l' h;cases l' with
  |nil=>simp [AV.nz] at h
  |cons y q=>simp only [AV.nz,qa1] at h;simp only [AV.jG,ihx _ h.1,ihr _ h.2]
theorem xU (tb:List (Nat×cF)):∀ (l l':List AV),AV.nz l l'=true→AV.jG tb l=AV.jG tb l'
 |[],[],_=>rfl
 |[],_::_,h=>by simp [AV.nz] at h
 |_::_,[],h=>by simp [AV.nz] at h
 |x::r,y::q,h=>by
  simp only [AV.nz,qa1] at h;simp only [AV.jG,NA tb x y h.1,xU tb r q h.2]
def AF (h1:Hp):Hp→Bool
 |[]=>true
 |(i,b)::r=>(match bp h1 i with
  |some b1=>Nat.beq b1.T b.T&&decide (b1.full=b.full)&&AV.nz b1.cs b.cs
  |none=>false)&&AF h1 r
theorem zv (tb:List (Nat×cF)) {h1:Hp}:∀ {h0:Hp},AF h1 h0=true→iE (vY tb h1) (vY tb h0)
 |[],_=>fR _
 |(i,b)::r,h=>by
  simp only [AF,qa1] at h;obtain ⟨ha,hb⟩:=h;have ih:=zv tb hb;intro j bk hj;simp only [vY,bp] at hj;split at hj
  ·rename_i e
   subst e;injection hj with hj
   subst hj;split at ha
   ·rename_i b1 h2
    simp only [qa1,decide_eq_true_eq] at ha;obtain ⟨⟨a1,a2⟩,a3⟩:=ha;rw [pG,h2];obtain ⟨T1,c1,f1⟩:=b1;obtain ⟨T,cs,fl⟩:=b;simp only at a1 a2 a3;simp only [qg2];rw [qb6 a1,a2,xU tb _ _ a3]
   cases ha
  exact ih j bk hj
def T5 (s1 s0:St):Bool:=AV.nz s1.fr s0.fr&&AF s1.hp s0.hp
theorem J4 (tb:List (Nat×cF)) {s1 s0:St} (h:T5 s1 s0=true):Le (tO tb s1) (tO tb s0):=by
 simp only [T5,qa1] at h;unfold tO;rw [xU tb _ _ h.1];exact ea (mF _) (zv tb h.2)
def T6 (tb:List (Nat×cF)) (x r:St):Prop:=∀ R β G a w,J3 R tb→fw R β G x a w→∃ β' G',fw R β' G' r a w
def Q4 (P:Program) (C:Cf) (E:EX) (k bs:Nat) (ops:Array Oper) (o:List Nat) (s:St):Option St:=CF P C E k bs ops (o.filterMap fun i=>ops[i]?) s
def qf (s:St):List (Nat×cF):=(S9 s).filter fun p=>match bp s.hp p.1 with
 |some b=>Nat.blt 1000000000 b.T
 |none=>false
def Q5 (P:Program) (C:Cf) (E:EX) (k bs:Nat) (ops:Array Oper) (s:St):Option St:=
 match pB ops ops.size (Array.replicate ops.size false) with
 |[]=>none
 |o::r=>match Q4 P C E k bs ops o s with
  |some r0=>bif xS s.hp&&u5 (qf s) r0.hp&&(r.all fun o=>match Q4 P C E k bs ops o s with
   |some r1=>T5 r1 r0&&u5 (qf s) r1.hp
   |none=>false) then P4 (tO (qf s) r0) some else none
  |none=>none
variable {C:Cf} {E:EX} {k bs id:Nat} {ops:Array Oper} {s r:St}
theorem NB [hC:mi P C] (hE:sD P E) (h:Q5 P C E k bs ops s=some r):AW P (.region id ops true) s (fun e1 s1=>e1= .normal∧Le s1 r):=by
 unfold Q5 at h;split at h
 ·cases h
 rename_i o0 rest hord;split at h
 ·rename_i r0 hr0
  replace h:=cm h;obtain ⟨hq,h⟩:=h;rw [u4] at h;injection h with h
  subst h;simp only [qa1] at hq;obtain ⟨⟨q1,q2⟩,q3⟩:=hq;have hall:∀ o∈pB ops ops.size (Array.replicate ops.size false),∃ r1,Q4 P C E k bs ops o s=some r1∧u5 (qf s) r1.hp=true∧Le (tO (qf s) r1) (tO (qf s) r0):=fun o ho=>by
   rw [hord] at ho;rcases qc2.1 ho with rfl|ho
   ·exact ⟨r0,hr0,q2,Le.refl _⟩
   have:=qc8.1 q3 o ho;split at this
   ·rename_i r1 h1
    simp only [qa1] at this;exact ⟨r1,h1,this.2,J4 _ this.1⟩
   cases this
  intro ro _ R β G a w hr;have hlp:J3 R (qf s):=fun p hp=>by
   obtain ⟨hm,hq⟩:=qh1.1 hp;split at hq
   ·rename_i b hb
    rw [qk6] at hq;obtain ⟨l,hβ⟩:=F3 hr q1 (i:=p.1) (y:=p.2) hm;obtain ⟨D,k1⟩:=ES hr.hp hb hq hβ;exact ⟨l,D,k1⟩
   cases hq
  obtain ⟨l,rfl⟩:∃ l:List Oper,ops=l.toArray:=⟨ops.toList,(qf5).symm⟩
  refine wpIn_mono (Q:=QN R fun x=>T6 (qf s) x (tO (qf s) r0)) (wpIn_region_draw fun t=>?_) (fun e a' w' hx=>?_)
  ·simp only [Region.schedule,hC.mo,qi7,if_true]
   have hr':=hr.drew;have hmem:=Ez l.toArray l.toArray.size t (Array.replicate l.toArray.size false);obtain ⟨r1,h1,h2,h3⟩:=hall _ (by simpa [Region.linearise] using hmem);have h4:=rm hE _ s r1 h1 (fun x=>T6 (qf s) x (tO (qf s) r0)) (fun x hx R β G a w hlp hr=>by
    obtain ⟨β1,G1,hr1⟩:=hx R β G a w hr;obtain ⟨β2,hr2⟩:=xT hlp hr1 h2;exact h3 R β2 G1 a w hr2) ro R β G a _ hr'
   refine ku _ _ _ ?_;simpa [Region.linearise] using h4
  cases e with
  |normal=>
   obtain ⟨β1,G1,x,hle,hrep⟩:=hx;obtain ⟨β2,G2,hr2⟩:=hle R β1 G1 a' w' hlp hrep;exact ⟨β2,G2,_,⟨rfl,Le.refl _⟩,hr2⟩
  |_=>exact hx.elim
 cases h
def ET (P:Program) (C:Cf) (E:EX) (tb:List (Nat×cF)) (k bs:Nat) (ops:Array Oper) (hs:List Nat):Nat→Array Bool→St→Option St
 |0,listed,s=>match Region.ready .any ops listed with
  |[]=>bif u5 tb s.hp then some s else none
  |_=>none
 |f+1,listed,s=>match Region.ready .any ops listed with
  |[]=>bif u5 tb s.hp then some s else none
  |i::r=>match (i::r).find? fun j=>eB j hs with
   |some j=>bif Region.noSelect ops&&(Region.ready .any ops listed).contains j&&Region.free .any ops listed j&&hs.contains j then
    match FZ P C ops j s with
    |some s1=>vX listed j fun l2=>ET P C E tb k bs ops hs f l2 s1
    |none=>none
    else none
   |none=>match Sf P C E k bs ops i s with
    |some (s1,b)=>bif b|| !early ops hs i then
     match vX listed i fun l2=>ET P C E tb k bs ops hs f l2 s1 with
     |some r0=>bif r.all fun j=>match Sf P C E k bs ops j s with
      |some (s2,b2)=>(b2|| !early ops hs j)&&match vX listed j fun l2=>ET P C E tb k bs ops hs f l2 s2 with
       |some r2=>T5 r2 r0
       |none=>false
      |none=>false
      then some r0 else none
     |none=>none
     else none
    |none=>none
theorem wQ {C:Cf} [hC:mi P C] {E:EX} (hE:sD P E) {tb:List (Nat×cF)} {k bs:Nat} {ops:Array Oper} {hs:List Nat}:∀ (f:Nat) (listed:Array Bool) (s r:St),ET P C E tb k bs ops hs f listed s=some r→∀ K:St→Prop,(∀ x,T6 tb x (tO tb r)→K x)→dt P ops hs f listed s K
 |0,listed,s,r,h,K,hK=>by
  rw [ET] at h;split at h
  ·rename_i hr
   replace h:=cm h;obtain ⟨hq,h⟩:=h;injection h with h
   subst h;exact qu hr (hK _ fun R β G a w hlp hrep=>let ⟨β3,h3⟩:=xT hlp hrep hq;⟨β3,G,h3⟩)
  cases h
 |f+1,listed,s,r,h,K,hK=>by
  rw [ET] at h;split at h
  ·rename_i hr
   replace h:=cm h;obtain ⟨hq,h⟩:=h;injection h with h
   subst h;exact qu hr (hK _ fun R β G a w hlp hrep=>let ⟨β3,h3⟩:=xT hlp hrep hq;⟨β3,G,h3⟩)
  rename_i i q hr;split at h
  ·rename_i j hj
   replace h:=cm h;obtain ⟨hq,h⟩:=h;split at h
   ·rename_i s1 hs1
    rw [oH] at h;exact CH hs1 hq (wQ hE f _ s1 r h K hK)
   cases h
  split at h
  ·rename_i s1 b hs1
   replace h:=cm h;obtain ⟨hq,h⟩:=h;split at h
   ·rename_i r0 h0
    rw [oH] at h0;replace h:=cm h;obtain ⟨hall,h⟩:=h;injection h with h
    subst h;refine xM (by rw [hr];simp) fun j hj=>?_;rw [hr] at hj;rcases qc2.1 hj with rfl|hj
    ·exact wO hE hs1 hq (wQ hE f _ s1 r0 h0 K hK)
    have:=qc8.1 hall j hj;split at this
    ·rename_i s2 b2 hs2
     rw [qa1] at this;obtain ⟨hq2,this⟩:=this;split at this
     ·rename_i r2 h2
      rw [oH] at h2;exact wO hE hs2 hq2 (wQ hE f _ s2 r2 h2 K fun x hx=>hK x fun R β G a w hlp hrep=>let ⟨β1,G1,h1⟩:=hx R β G a w hlp hrep;J4 tb this R β1 G1 a w h1)
     cases this
    cases this
   cases h
  cases h
def Q6 (P:Program) (C:Cf) (E:EX) (k bs:Nat) (ops:Array Oper) (s:St):Option St:=
 bif xS s.hp then match ET P C E (qf s) k bs ops (AE C.inl ops) ops.toList.length (Array.replicate ops.toList.length false) s with
  |some r0=>P4 (tO (qf s) r0) some
  |none=>none
 else none
theorem H5 {R:Rg} {β:c9} {G:bI} {a:Act} {w:World} (hr:fw R β G s a w) (q1:xS s.hp=true):J3 R (qf s):=fun p hp=>by
 obtain ⟨hm,hq⟩:=qh1.1 hp;split at hq
 ·rename_i b hb
  rw [qk6] at hq;obtain ⟨l,hβ⟩:=F3 hr q1 (i:=p.1) (y:=p.2) hm;obtain ⟨D,k1⟩:=ES hr.hp hb hq hβ;exact ⟨l,D,k1⟩
 cases hq
theorem NC [hC:mi P C] (hE:sD P E) (h:Q6 P C E k bs ops s=some r) (hd:iL ops.toList=true):AW P (.region id ops true) s (fun e1 s1=>e1= .normal∧Le s1 r):=by
 unfold Q6 at h;replace h:=cm h;obtain ⟨q1,h⟩:=h;split at h
 ·rename_i r0 h0
  rw [u4] at h;injection h with h
  subst h;have h4:=wH (P:=P) (id:=id) (l:=ops.toList) (s:=s) (Q:=fun e1 x=>e1= .normal∧T6 (qf s) x (tO (qf s) r0)) ops.toList.length (AE C.inl ops) rfl hC.mo (by
   rw [qf5];exact wQ hE _ _ _ _ h0 _ fun x hx=>⟨rfl,hx⟩) hd
  rw [qf5] at h4;intro ro ho R β G a w hr;have hlp:J3 R (qf s):=H5 hr q1;refine wpIn_mono (h4 ro ho R β G a w hr) (fun e a' w' hx=>?_);obtain ⟨β1,G1,x,⟨e0,hle⟩,hrep⟩:=hx;obtain ⟨β2,G2,hr2⟩:=hle R β1 G1 a' w' hlp hrep;exact ⟨β2,G2,_,⟨e0,Le.refl _⟩,hr2⟩
 cases h
def J5 (P:Program) (C:Cf) (E:EX) (k bs:Nat) (ops:Array Oper) (s:St):Option St:=
 match (match qf s with
  |[]=>EP P C E k bs ops (AE C.inl ops) ops.toList.length (Array.replicate ops.toList.length false) s
  |_=>Q6 P C E k bs ops s) with
 |some r=>some r
 |none=>bif Nat.ble ops.size 10 then Q5 P C E k bs ops s else none
theorem J6 [hC:mi P C] (hE:sD P E) (h:J5 P C E k bs ops s=some r) (hd:iL ops.toList=true):AW P (.region id ops true) s (fun e1 s1=>e1= .normal∧Le s1 r):=by
 unfold J5 at h;split at h
 ·rename_i r1 h1
  injection h with h
  subst h;split at h1
  ·have h4:=wH (P:=P) (id:=id) (l:=ops.toList) (s:=s) (Q:=fun e1 s2=>e1= .normal∧Le s2 r1) ops.toList.length (AE C.inl ops) rfl hC.mo (by
    rw [qf5];exact wP hE _ _ _ _ h1 _ fun x hx=>⟨rfl,hx⟩) hd
   rwa [qf5] at h4
  exact NC hE h1 hd
 replace h:=cm h;exact NB hE h.2
def CI (F:St→Option (Exit×St)):Nat→St→Option (Exit×St)
 |0,_=>none
 |n+1,s=>match F s with
  |some (e,s1)=>bif tN e then CI F n s1 else some (e,s1)
  |none=>none
def J7 (T:Nat):Option Exit:=
 bif Nat.beq T 1000000001 then some .normal else bif Nat.beq T 1000000003 then some .ret else bif Nat.ble 1000000004 T then some (.exit (T - 1000000004)) else none
variable {e:Exit}
theorem J8 {T:Nat} (h:J7 T=some e):kp e=some T:=by
 unfold J7 at h;cases h1:Nat.beq T 1000000001 with
 |true=>rw [h1] at h;injection h with h;subst h;rw [qb6 h1];rfl
 |false=>
  rw [h1] at h;simp only [cond_false] at h;cases h2:Nat.beq T 1000000003 with
  |true=>rw [h2] at h;injection h with h;subst h;rw [qb6 h2];rfl
  |false=>
   rw [h2] at h;simp only [cond_false] at h;replace h:=cm h;obtain ⟨hq,h⟩:=h;injection h with h
   subst h;show some (1000000004+(T - 1000000004))=some T;rw [Nat.add_sub_of_le (qe6 hq)]
def EU (P:Program) (C:Cf) (E:EX) (k:Nat) (f:AV) (ps:Array Tmp) (assign body:Code) (s:St):Option (Exit×St):=
 match f with
 | .fn g caps=>match sE P g with
  |some (c,n,rs)=>bif eB g C.fs&&sB 1 (gd k) s.fr s.hp caps&&Nat.blt k 900000000 then
   vV ((.yl (gd k) ⟨ps,assign,body,false⟩::caps)++List.replicate (n - (caps.length+1)) .any) fun fr=>Ny (s.hp++[(gd k,⟨1000000001,s.fr,false⟩)]) fun hp=>
   match E (k+1) c ⟨fr,hp⟩ with
   |some (e,s2)=>match QZ C.bh rs s2,bp s2.hp (gd k) with
    |some _,some bk=>bif CB e&&!bk.full then
     match J7 bk.T with
     |some e2=>vV bk.cs fun fr2=>Ny (fg s2.hp (gd k)) fun hp2=>some (e2,⟨fr2,hp2⟩)
     |none=>none
     else none
    |_,_=>none
   |none=>none
   else none
  |none=>none
 |_=>none
theorem H6 [hC:mi P C] (hE:sD P E) {f:Operand} {ps:Array Tmp} {assign body:Code} {s':St} (h:EU P C E k (s.eval f) ps assign body s=some (e,s')):AW P (.rangeFunc f ps assign body) s (fun e1 s1=>e1=e∧Le s1 s'):=by
 unfold EU at h;split at h
 ·rename_i g caps hf
  split at h
  ·rename_i c n rs hb
   obtain ⟨fn,h1,h2,h3,h4⟩:=oF hb;replace h:=cm h;obtain ⟨hq,h⟩:=h;rw [ig,sF] at h;simp only [qa1,qb7] at hq;obtain ⟨⟨q0,q123⟩,q4⟩:=hq;obtain ⟨q1,q2,q3⟩:=my q123;rw [qk6] at q4;have i1:=hC.fs _ q0;split at h
   ·rename_i e2 s2 hrun
    split at h
    ·rename_i x bk hx hg
     replace h:=cm h;obtain ⟨hq,h⟩:=h;simp only [qa1,qb7] at hq;split at h
     ·rename_i e3 he3
      rw [ig,sF] at h;injection h with h
      injection h with h5 h6
      subst h5 h6;obtain ⟨T,cs,fl⟩:=bk;simp only at hq he3;obtain ⟨fr,hp⟩:=s;have hg':bp s2.hp (gd k)=some ⟨T,cs,false⟩:=by rw [hg,hq.2]
      refine zr (gd k) hf (by unfold gd;omega) q1 q2 q3 h1 h3 h2 h4 (jN (hE (k+1) c _ e2 s2 hrun) fun x1 u1 ⟨he,hle⟩=>?_) (by unfold gd;omega);subst he
      have:∃ s3 y e' T fr',Le u1 s3∧RV P rs s3 y∧kp e'=some T∧bp s3.hp (gd k)=some ⟨T,fr',false⟩∧(e'=e3∧Le ⟨fr',fg s3.hp (gd k)⟩ ⟨cs,fg s2.hp (gd k)⟩):=⟨s2,x,e3,T,cs,hle,xR hC.tb hx,J8 he3,hg',rfl,Le.refl _⟩
      have hf1:=hq.1;cases x1<;>first|exact this|cases hf1
     cases h
    cases h
   cases h
  cases h
 cases h
def exec (P:Program) (C:Cf):Nat→EX
 |0,_,_,_=>none
 |n+1,k,c,s=>match c with
  | .skip=>some (.normal,s)
  | .ret=>some (.ret,s)
  | .exit id=>some (.exit id,s)
  | .seq a b=>match exec P C n k a s with
   |some (e,s1)=>bif tN e then exec P C n k b s1 else some (e,s1)
   |none=>none
  | .cond x a b=>match s.eval x with
   | .v (.bool true)=>exec P C n k a s
   | .v (.bool false)=>exec P C n k b s
   |_=>none
  | .block id b=>match exec P C n k b s with
   |some (.exit id',s1)=>if id'=id then some (.normal,s1) else some (.exit id',s1)
   |r=>r
  | .loop b=>CI (exec P C n k b) 100000 s
  | .region _ ops false=>match CF P C (exec P C n) k (SZ s) ops ops.toList s with
   |some s1=>some (.normal,s1)
   |none=>none
  | .region _ ops true=>bif iL ops.toList then
   match J5 P C (exec P C n) k (SZ s) ops s with
   |some s1=>some (.normal,s1)
   |none=>none
   else none
  | .rangeFunc f ps assign body=>EU P C (exec P C n) k (s.eval f) ps assign body s
  |_=>none
theorem J9 {F:St→Option (Exit×St)} {c:Code} (hF:∀ s e s',F s=some (e,s')→AW P c s (fun e1 s1=>e1=e∧Le s1 s')) (n:Nat) (s:St) (e:Exit) (s':St) (h:CI F n s=some (e,s')):AW P (.loop c) s (fun e1 s1=>e1=e∧Le s1 s'):=by
 refine FO (fun m u=>∃ v,Le u v∧CI F m v=some (e,s')) ⟨s,Le.refl _,h⟩ fun m u ⟨v,hle,hm⟩=>?_;cases m with
 |zero=>cases hm
 |succ m=>
  rw [CI] at hm;refine cE hle ?_;split at hm
  ·rename_i e1 s1 hF1
   refine jN (hF v e1 s1 hF1) fun x y ⟨hx,hy⟩=>?_;subst hx;cases x with
   |normal=>exact ⟨m,Nat.lt_succ_self m,s1,hy,hm⟩
   |_=>(injection hm with hm;injection hm with h1 h2;subst h1 h2;exact ⟨rfl,hy⟩)
  cases hm
theorem AG {C:Cf} [hC:mi P C]:∀ n,sD P (exec P C n)
 |0,k,c,s,e,s',h=>by cases h
 |n+1,k,c,s,e,s',h=>by
  have ih:=AG (C:=C) n;cases c with
  |skip=>injection h with h;injection h with h1 h2;subst h1 h2;exact FL ⟨rfl,Le.refl _⟩
  |ret=>injection h with h;injection h with h1 h2;subst h1 h2;exact Jp ⟨rfl,Le.refl _⟩
  |exit id=>injection h with h;injection h with h1 h2;subst h1 h2;exact FK ⟨rfl,Le.refl _⟩
  |seq a b=>
   simp only [exec] at h;split at h
   ·rename_i e1 s1 h1
    refine bH fun K hK=>jN (ih k a s e1 s1 h1) fun x y ⟨hx,hy⟩=>?_;subst hx;cases x with
    |normal=>exact hK _ (cE hy (ih k b s1 e s' h))
    |_=>(injection h with h;injection h with h2 h3;subst h2 h3;exact ⟨rfl,hy⟩)
   cases h
  |cond x a b=>
   simp only [exec] at h;split at h
   ·rename_i hx;exact BY hx (ih k a s e s' h)
   ·rename_i hx;exact BZ hx (ih k b s e s' h)
   cases h
  |block id b=>
   simp only [exec] at h;refine bE ?_;split at h
   ·rename_i id' s1 h1
    refine jN (ih k b s _ s1 h1) fun x y ⟨hx,hy⟩=>?_;subst hx;show if id'=id then _ else _
    split at h
    ·rename_i hi
     injection h with h;injection h with h2 h3;subst h2 h3
     rw [if_pos hi];exact ⟨rfl,hy⟩
    rename_i hi;injection h with h;injection h with h2 h3;subst h2 h3
    rw [if_neg hi];exact ⟨rfl,hy⟩
   rename_i r hne;refine jN (ih k b s e s' h) fun x y ⟨hx,hy⟩=>?_;subst hx;cases x with
   |exit id'=>exact absurd h (hne id' s')
   |_=>exact ⟨rfl,hy⟩
  |loop b=>
   simp only [exec] at h;exact J9 (fun u e1 u' hu=>ih k b u e1 u' hu) 100000 s e s' h
  |region id ops draw=>
   cases draw with
   |false=>
    simp only [exec] at h;split at h
    ·rename_i s1 h1
     injection h with h;injection h with h2 h3;subst h2 h3
     have:=rm ih _ _ _ h1 (fun x=>Le x s1) (fun x hx=>hx);have h4:=fU (P:=P) (id:=id) (l:=ops.toList) (s:=s) (Q:=fun e1 s2=>e1= .normal∧Le s2 s1) (by
      rw [qf5];unfold dj at this ⊢;intro ro R β G a w hr;have h5:=this ro R β G a w hr;have e1:(fun s2=>Exit.normal= .normal∧Le s2 s1)=fun s2=>Le s2 s1:=by funext x;simp
      show wpListIn (jy ro) 0 P ops (QN R fun s2=>Exit.normal= .normal∧Le s2 s1) ops.toList a w;rw [e1];exact h5)
     rwa [qf5] at h4
    cases h
   |true=>
    simp only [exec] at h;replace h:=cm h;obtain ⟨hnd,h⟩:=h;split at h
    ·rename_i s1 h1
     injection h with h;injection h with h2 h3;subst h2 h3
     exact J6 ih h1 hnd
    cases h
  |rangeFunc f ps assign body=>
   simp only [exec] at h;exact H6 ih h
  |_=>cases h
def Q7 (P:Program) (C:Cf) (n:Nat) (f:FuncId) (args:List AV):Option AV:=match sE P f with
 |some (c,m,rs)=>match exec P C n 0 c ⟨args++List.replicate (m - args.length) .any,[]⟩ with
  |some (e,s2)=>bif CB e then (QZ C.bh rs s2).map (eK C.dp s2.hp) else none
  |none=>none
 |none=>none
def runT (P:Program) (C:Cf) (n:Nat) (f:FuncId) (args:List AV):Bool:=match sE P f with
 |some (c,m,rs)=>match exec P C n 0 c ⟨args++List.replicate (m - args.length) .any,[]⟩ with
  |some (e,s2)=>CB e&&match QZ C.bh rs s2 with
   |some (.v (.bool true))=>true
   |_=>false
  |none=>false
 |none=>false
theorem ND [hC:mi P C] {n:Nat} {f:FuncId} {args:List AV} (h:runT P C n f args=true):bm P f args (fun r=>r= .bool true):=by
 unfold runT at h;split at h
 ·rename_i c m rs hb
  obtain ⟨fn,h1,h2,h3,h4⟩:=oF hb;split at h
  ·rename_i e s2 hrun
   simp only [qa1] at h;obtain ⟨hfin,h⟩:=h;split at h
   ·rename_i hx
    refine B0 h1 h2 h3 h4 (jN (AG n 0 c _ e s2 hrun) fun e1 s1 ⟨he,hle⟩=>?_);subst he
    have:∃ s' x,Le s1 s'∧RV P rs s' x∧x.gq=true∧x= .bool true:=⟨s2,_,hle,xR hC.tb hx,rfl,rfl⟩
    cases e1<;>first|exact this|cases hfin
   cases h
  cases h
 cases h
end Go.Ab
set_option maxRecDepth 10000
namespace Go.Ab
open Go.RowKit
variable {P:Program}
theorem vZ {G3:bI} {b t:Nat} {arr:Array Value} {T:TypeId} {f:Nat×Nat} (h:G3 b=some (.cells arr T f)) (off j:Nat):ep G3 ((⟨b,off,none⟩:Addr).add j)=arr[off+j]?:=by
 rw [Addr.fM];unfold ep;simp [h]
theorem sH {R:Rg} {β:c9} {G G3:bI} {hp:Hp} {w:World} (h:dx R β G hp w) (hs:∀ b o,G b=some o→G3 b=some o) (h3:∀ id bk b t,bp hp id=some bk→β id= .at b t→G3 b=w.heap[b]?):∀ (n:Nat) (x:AV) (y:Value),Conc G β x y→Conc G3 na (eK n hp x) y
 |0,x,y,hc=>by
  unfold eK;split
  ·rename_i hp';exact (hc.oq hp' na).mono hs
  exact .any
 |n+1,x,y,hc=>by
  have hl:∀ {cs:List AV} {xs:List Value},(∀ (j:Nat) x y,cs[j]?=some x→xs[j]?=some y→Conc G β x y)→∀ (j:Nat) x y,(cs.map (eK n hp))[j]?=some x→xs[j]?=some y→Conc (G3) na x y:=fun {cs xs} hh j x y hx hy=>by
   rw [qc9,qa6] at hx;obtain ⟨u,hu,rfl⟩:=hx;exact sH h hs h3 n u y (hh j u y hu hy)
  cases hc with
  |any=>exact .any
  |v=>exact .v
  |agg xs hl' hh=>exact .agg xs (by simpa using hl') (hl hh)
  |dC xs hl' hh=>exact .dC xs (by simpa using hl') (hl hh)
  |fn xs hf hl' hh=>exact .fn xs hf (by simpa using hl') (hl hh)
  |sZ hh=>exact .sZ (sH h hs h3 n _ _ hh)
  |yl _=>exact .any
  |cD ys hu hl' hc hb hA hr hs'=>exact .cD ys hu hl' hc hb hA (fun j y hy=>let ⟨a,ha,hg⟩:=hr j y hy;⟨a,ha,jO hs hg⟩) fun j x y hx hy=>(hs' j x y hx hy).mono hs
  |bC ys hl' hr hs'=>exact .bC ys hl' (fun j y hy=>jO hs (hr j y hy)) fun j x y hx hy=>(hs' j x y hx hy).mono hs
  |@ptr _ id off b t hβ=>
   simp only [eK];split
   ·rename_i T cs fl hb
    split
    ·rename_i hT
     obtain ⟨g1,g2,arr,g3,g4,g5,g6,g7⟩:=h.block hb hβ;have hlen:cs.length≤arr.size:=by rw [g4];exact g5
     refine .bC ((arr.toList.drop off).take (cs.length - off)) aO (fun j y hy=>?_) (hl fun j x y hx hy=>?_)
     ·rw [vZ (t:=t) ((h3 _ _ _ _ hb hβ).trans g3)]
      rw [qc3] at hy;split at hy
      ·rw [qd0] at hy;simpa using hy
      cases hy
     rw [qd0] at hx;rw [qc3] at hy;split at hy
     ·rw [qd0] at hy;exact g7 _ x y hx (by simpa using hy)
     cases hy
    exact .any
   exact .any
  |@lU _ sz bw id hβ=>
   simp only [eK];split
   ·split
    ·simp only [chunk]
     exact Conc.cD (A:=none) (c:=0) [] aC aC aC aC aC aC aC
    exact .any
   exact .any
  |@sl _ sz bw id off k c b t hβ hn ht hm hb'=>
   simp only [eK];split
   ·rename_i T cs fl hb
    split
    ·rename_i hT
     obtain ⟨g1,g2,arr,g3,g4,g5,g6,g7⟩:=h.block hb hβ;have hlen:cs.length≤arr.size:=by rw [g4];exact g5
     have hdl:k * sz≤((cs.drop off).map (eK n hp)).length:=by simp;omega
     have key:=Conc.cD (G:=G3) (β:=na) (sz:=sz) (bw:=bw) (es:=chunk sz k ((cs.drop off).map (eK n hp))) (A:=some ⟨b,off,none⟩) (c:=c) ((arr.toList.drop off).take (k * sz))
      (qC k _ hdl) (by rw [jY];simp;omega) (by rw [jY];exact hn) (by rw [jY];exact hb') (fun _=>by simp) (fun j y hy=>⟨_,rfl,by
       rw [vZ (t:=t) ((h3 _ _ _ _ hb hβ).trans g3)];rw [qc3] at hy;split at hy
       ·rw [qd0] at hy;simpa using hy
       ·cases hy⟩) (fun j x y hx hy=>by
       rcases uY k _ hdl j x hx with rfl|hx
       ·exact .any
       refine hl (cs:=cs.drop off) (xs:=(arr.toList.drop off).take (k * sz)) (fun j x y hx hy=>?_) j x y hx hy;rw [qd0] at hx;rw [qc3] at hy;split at hy
       ·rw [qd0] at hy;exact g7 _ x y hx (by simpa using hy)
       cases hy)
     rw [jY] at key;exact key
    exact .any
   exact .any
variable {f:FuncId} {args:List AV} {n:Nat}
theorem H7 {fn:Func} {c:Code} {m:Nat} {rs:Array ResultVar} {s2:St} {x:AV} (hf:P.funcs[f]?=some fn) (hb:fn.body=some c) (hn:fn.ntmps=n) (hrs:fn.results=rs)
 (hx:RV P rs s2 x) (h:AW P c ⟨args++List.replicate (n - args.length) .any,[]⟩ (fun e s=>(e= .ret∨e= .normal)∧Le s s2)):bm P f args (fun r=>r=eK m s2.hp x):=by
 intro G w vals hG ⟨hl,hc⟩;subst hn;refine iq (R:=⟨w,fun _=>False,G,fun _=>none,nb.no⟩) (β:=na) (G:=G) hf hb hrs (jS hl hc ⟨hG,fun id bk h=>by simp [bp] at h,fun i j b t t' h=>by simp [bp] at h,⟨rfl,rfl,rfl,qb3 _,fun _ _ _=>rfl⟩,fun b h=>.inl h,sX,jw.nil⟩) h fun e s' hq=>?_;obtain ⟨he,hle⟩:=hq;have key:∃ s'' x0,Le s' s''∧RV P rs s'' x0∧∀ β2 G2 y w2,Conc G2 β2 x0 y→dx ⟨w,fun _=>False,G,fun _=>none,nb.no⟩ β2 G2 s''.hp w2→
  (fun (e:Ending) (w':World)=>∃ y G' x',e=Ending.returned y∧x'=eK m s2.hp x∧Conc G' na x' y∧(∀ b,G' b≠none→G b≠none∨w.heap.size≤b)∧mA G' w'∧Ext w w') (.returned y) w2:=by
  refine ⟨s2,x,hle,hx,fun β2 G2 y w2 hcy hH=>?_⟩;have hk:=hH.keeps;let G3:bI:=fun b=>if w.heap.size≤b then w2.heap[b]? else G2 b
  have a1:∀ b,w.heap.size≤b→G3 b=w2.heap[b]?:=fun b hb=>by simp only [G3];rw [if_pos hb]
  have a2:∀ b,¬w.heap.size≤b→G3 b=G2 b:=fun b hb=>by simp only [G3];rw [if_neg hb]
  have hs:∀ b o,G2 b=some o→G3 b=some o:=fun b o hb=>by
   by_cases hlt:w.heap.size≤b
   ·rw [a1 b hlt];exact hH.gs b o hb
   rw [a2 b hlt];exact hb
  refine ⟨y,G3,_,rfl,rfl,sH hH hs (fun id bk b t hi hβ=>?_) m x y hcy,fun b hb=>?_,fun b o hb=>?_,⟨hk.os,hk.tape,hk.output,hk.size,fun k hk'=>hk.block k hk' aC⟩⟩
  ·rcases (hH.block hi hβ).2.1 with h1|h1
   ·exact a1 b h1
   exact h1.elim
  ·by_cases hlt:w.heap.size≤b
   ·exact .inr hlt
   rw [a2 b hlt] at hb;exact (hH.kH b hb).imp (fun h=>h) (fun h=>h.elim (fun h=>h) (fun h=>h.elim))
  by_cases hlt:w.heap.size≤b
  ·rw [a1 b hlt] at hb;exact hb
  rw [a2 b hlt] at hb;exact hH.gs b o hb
 rcases he with rfl|rfl
 ·exact ⟨.inr rfl,key⟩
 exact ⟨.inl rfl,key⟩
variable {C:Cf} {z:AV}
theorem NF [hC:mi P C] (h:Q7 P C n f args=some z):bm P f args (fun r=>r=z):=by
 unfold Q7 at h;split at h
 ·rename_i c m rs hb
  obtain ⟨fn,h1,h2,h3,h4⟩:=oF hb;split at h
  ·rename_i e s2 hrun
   replace h:=cm h;obtain ⟨hfin,h⟩:=h;rw [qa6] at h;obtain ⟨x,hx,rfl⟩:=h;refine H7 h1 h2 h3 h4 (xR hC.tb hx) (jN (AG n 0 c _ e s2 hrun) fun e1 s1 ⟨he,hle⟩=>⟨?_,hle⟩);subst he;cases e1<;>first|exact .inl rfl|exact .inr rfl|cases hfin
  cases h
 cases h
def P7 (P:Program) (C:Cf) (n:Nat) (f:FuncId) (args:List AV) (z:AV):Bool:=match Q7 P C n f args with
 |some x=>AV.same x z
 |none=>false
theorem oI [hC:mi P C] (h:P7 P C n f args z=true):bm P f args (fun r=>r=z):=by
 unfold P7 at h;split at h
 ·rename_i x hx
  rw [FV _ _ h] at hx;exact NF hx
 cases h
end Go.Ab
