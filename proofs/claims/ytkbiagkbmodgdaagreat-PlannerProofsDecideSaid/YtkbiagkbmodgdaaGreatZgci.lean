/- Part of a proof: of two right answers both have a plan, at one cost, or none. No condition. -/
import Derived.Test.YtkbiagkbmodgdaaGreatZgch
set_option linter.unusedSimpArgs false
set_option linter.unusedVariables false
namespace Go.Proofs.YtkbiagkbmodgdaaGreat
open Go.Ab
open Go
set_option maxRecDepth 10000
attribute [local irreducible] dE fh mC lW db PV eR ef AW bg dn ec dP cO Ab.Fin ft en gI iO RV jX Le eI fM mg gV kf dz dg
set_option maxHeartbeats 8000000
attribute [local go_sem] fp jH iW
def vC (R:List Bool) (p:Int):Bool:=!R[p.toNat]!
def pH (R:List Bool) (l:List Int):List Bool:=l.foldl (fun R p=>R.set p.toNat true) R
theorem xi (l:List Int):∀ R:List Bool,(pH R l).length=R.length:=by
 induction l with
 |nil=>intro R;rfl
 |cons a l ih=>intro R;show (pH (R.set a.toNat true) l).length=_;rw [ih,List.length_set]
theorem B3 {l:List Int} {k:Nat} (h:k < l.length) (R:List Bool):pH R (l.take (k+1))=(pH R (l.take k)).set l[k].toNat true:=by
 rw [List.take_succ_eq_append_getElem h,pH,List.foldl_append];rfl
abbrev Nd:=Bool×List Bool×List Bool
def Aq (pre add:Nat→List Int) (i:Nat) (x:Nd):Nd:=
 if x.2.1[i]! =false∧(pre i).any (vC x.2.2)=false then (true,x.2.1.set i true,pH x.2.2 (add i)) else x
def ep (pre add:Nat→List Int):Nat→Nd→Nd
 |0,x=>x
 |k+1,x=>Aq pre add k (ep pre add k x)
def B4 (pre add:Nat→List Int) (n:Nat):Nat→List Bool×List Bool→List Bool×List Bool
 |0,x=>x
 |f+1,x=>if (ep pre add n (false,x.1,x.2)).1=true then B4 pre add n f (ep pre add n (false,x.1,x.2)).2 else (ep pre add n (false,x.1,x.2)).2
def rT (U:List Bool):Nat:=U.count false
theorem HP {U:List Bool} {i:Nat} (h:i < U.length) (h0:U[i]! =false):rT (U.set i true)+1=rT U:=by
 rw [bY h] at h0
 have hp:0 < U.count false:=List.count_pos_iff.2 (h0 ▸ List.getElem_mem h)
 rw [rT,rT,List.count_set h,h0]
 simp
 omega
theorem qw (pre add:Nat→List Int):∀ (k:Nat) (x:Nd),(ep pre add k x).2.1.length=x.2.1.length∧(ep pre add k x).2.2.length=x.2.2.length
 |0,x=>⟨rfl,rfl⟩
 |k+1,x=>by
  have h:=qw pre add k x
  rw [ep,Aq]
  split
  ·exact ⟨by simp only [List.length_set];exact h.1,by simp only [xi];exact h.2⟩
  ·exact h
theorem vD (pre add:Nat→List Int):∀ (k:Nat) (x:Nd),k≤x.2.1.length→rT (ep pre add k x).2.1≤rT x.2.1∧((ep pre add k x).1=true→x.1=true∨rT (ep pre add k x).2.1 < rT x.2.1)
 |0,x,_=>⟨Nat.le_refl _,fun h=>.inl h⟩
 |k+1,x,hk=>by
  have h:=vD pre add k x aj
  have hl:=(qw pre add k x).1
  rw [ep,Aq]
  split
  ·rename_i hc
   have:=HP aj hc.1
   exact ⟨by simp only;omega,fun _=>.inr aH⟩
  ·exact h
abbrev rH (n:Nat) (R:List Bool):Hp:=[(8,⟨115,[.sl 1 1 43 0 n],true⟩),(43,⟨4,R.map AV.bool,true⟩)]
theorem Kg (R:List Bool) (p:Nat) (hp:p < R.length):cO Tryz.prog 56 [.int (p:Int),.ptr 8 0] (rH R.length R) [] [8] (fun x hp=>x= .bool (vC R p)∧hp=rH R.length R):=by
 have e:vC R p= !R[p]:=by rw [vC,Int.toNat_natCast,bY hp]
 rw [e]
 (refine ck Tryz.func56 Tryz.ntmps56 ?_)
 (repeat' (first|(refine hK _ ?_;clear hK K)|(refine aM (fun K hK=>?_))|(refine gR ?_;refine aP ?_)|(refine gE ?_;(first|(refine cc ?_)|(refine dL (fun _=>?_))))|(refine gT ?_;refine aZ ?_)))
 (refine bH (Le.refl _) (aQ (aO ab)) (by (repeat refine bq ab ?_);exact aY _) ab ae ⟨rfl,rfl⟩)
theorem Kh (R:List Bool) (xs:List Int) (h:∀ p∈xs,0≤p∧p < R.length) :
  cO Tryz.prog 117 [ints xs,.fn 56 [.ptr 8 0]] (rH R.length R) [] [8] (fun x hp=>x= .int (mc (vC R) xs)∧hp=rH R.length R):=by
 (refine ck Tryz.func117 Tryz.ntmps117 ?_)
 (refine cL (i:=0) rfl (fun hb=>?_);(try simp only [List.length_map] at hb))
 (repeat' (first|(refine hK _ ?_;clear hK K)|(refine aM (fun K hK=>?_))|(refine gR ?_;refine aP ?_)|(refine aN ?_)))
 refine bU [4,5,8,9,10,11,12,13,14,15,16,17,18] (fun k:Nat=>k≤xs.length∧∀ i (hi:i < xs.length),i < k→vC R xs[i]=false) (fun k=>xs.length - k) (fun k=>[(8,.int k)]) (fun _=>[]) 0 ⟨by omega,by omega⟩ ?_ ?_
 ·(refine cm ?_)
  (exact bd)
 ·rintro k ⟨hk,hn⟩ K hK
  (refine cm ?_)
  by_cases hlt:k < xs.length
  ·have hx:=h xs[k] (List.getElem_mem hlt)
   have c1:=Kg R xs[k].toNat aj
   rw [Int.toNat_of_nonneg hx.1] at c1
   cases ho:vC R xs[k] with
   |true=>
    rw [ho] at c1
    (repeat' (first|(refine hK _ ?_;clear hK K)|(refine aM (fun K hK=>?_))|(refine gR ?_;refine aP ?_)|(refine bn (fun K hK=>?_);(refine dQ ab (c1) (by (repeat (first|exact bP|refine bA ab ?_))) (fun _ h=>by cases h) ab (fun x hp' hx=>?_);obtain ⟨rfl,rfl⟩:=hx<;>simp only [go_sem,seval,dj,aV]))|(refine gE ?_;refine dL (fun _=>?_))|(refine gQ ?_;(first|(refine cf ?_)|(refine aS (fun hc=>?_) (fun hc=>?_)<;>(try (first|contradiction|omega)))))|(refine gW ?_;refine bN ?_)|(refine aN ?_)|(refine gT ?_;refine aZ ?_)|(refine gS ?_;refine aX ?_)))
    rw [ib hlt ho hn]
    (refine bH (Le.refl _) (aQ (aO ab)) (by (repeat refine bq ab ?_);exact aY _) ab ae ⟨rfl,rfl⟩)
   |false=>
    rw [ho] at c1
    (repeat' (first|(refine hK _ ?_;clear hK K)|(refine aM (fun K hK=>?_))|(refine gR ?_;refine aP ?_)|(refine bn (fun K hK=>?_);(refine dQ ab (c1) (by (repeat (first|exact bP|refine bA ab ?_))) (fun _ h=>by cases h) ab (fun x hp' hx=>?_);obtain ⟨rfl,rfl⟩:=hx<;>simp only [go_sem,seval,dj,aV]))|(refine gE ?_;(first|(refine cc ?_)|(refine dL (fun _=>?_))))|(refine gQ ?_;(first|(refine bT ?_)|(refine aS (fun hc=>?_) (fun hc=>?_)<;>(try (first|contradiction|omega)))))|(refine gW ?_;refine bN ?_)|(refine aN ?_)|(refine gS ?_;refine aX ?_)))
    refine ⟨k+1,⟨by omega,fq hn fun _=>ho⟩,by omega,?_⟩
    (refine cm ?_)
    (exact bd)
  ·(repeat' (first|(refine hK _ ?_;clear hK K)|(refine aM (fun K hK=>?_))|(refine gR ?_;refine aP ?_)|(refine gQ ?_;refine aS (fun hc=>?_) (fun hc=>?_)<;>(try (first|contradiction|omega)))|(refine gX ?_;refine bV ?_)|(refine gT ?_;refine aZ ?_)|(apply_assumption (exfalso:=false) (symm:=false))))
   rw [fR fun i hi=>hn i hi aj]
   (refine bH (Le.refl _) (aQ (aO ab)) (by (repeat refine bq ab ?_);exact aY _) ab ae ⟨rfl,rfl⟩)
theorem Ki (R:List Bool) (xs:List Int) (h:∀ p∈xs,0≤p∧p < R.length) :
  cO Tryz.prog 55 [ints xs,.fn 56 [.ptr 8 0]] (rH R.length R) [] [8] (fun x hp=>x= .bool (xs.any (vC R))∧hp=rH R.length R):=by
 have c1:=Kh R xs h
 rw [← iI]
 generalize mc (vC R) xs=z at *
 (refine ck Tryz.func55 Tryz.ntmps55 ?_)
 (repeat' (first|(refine hK _ ?_;clear hK K)|(refine aM (fun K hK=>?_))|(refine gR ?_;refine aP ?_)|(refine bn (fun K hK=>?_);(refine bI (c1) (by (repeat (first|exact bP|refine bA ab ?_))) (fun _ h=>by cases h) ab (fun x hp' hx=>?_);obtain ⟨rfl,rfl⟩:=hx<;>simp only [go_sem,seval,dj,aV]))|(refine gW ?_;refine bN ?_)|(refine gT ?_;refine aZ ?_)))
 (refine bH (Le.refl _) (aQ (aO ab)) (by (repeat refine bq ab ?_);exact aY _) ab ae ⟨rfl,rfl⟩)
end Go.Proofs.YtkbiagkbmodgdaaGreat
