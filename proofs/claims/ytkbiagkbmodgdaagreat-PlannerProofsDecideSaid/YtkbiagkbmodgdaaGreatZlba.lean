/- Part of a proof: of two right answers both have a plan, at one cost, or none. No condition. -/
import Derived.Laws.BitsAllLaws
import Derived.Test.YtkbiagkbmodgdaaGreatZabo
import Derived.Test.YtkbiagkbmodgdaaGreatZdgr
import Derived.Test.YtkbiagkbmodgdaaGreatZdgz
import Derived.Test.YtkbiagkbmodgdaaGreatZdtd
import Derived.Test.YtkbiagkbmodgdaaGreatZshl
set_option linter.unusedSimpArgs false
set_option linter.unusedVariables false
namespace Go.Proofs.YtkbiagkbmodgdaaGreat
open Go.Ab
open Go
set_option maxRecDepth 10000
attribute [local irreducible] PV eR ef AW bg dn ec dP Ab.Fin ft en gI RV jX Le eI fM mg gV kf dz dg
set_option maxHeartbeats 2000000
theorem Kk (xs:List Int) (id:Nat) (fl:Bool) (hl:xs.length≤17592186044416):dP Tryz.prog 186 [.sl 1 8 id 0 xs.length] id ⟨3,xs.map AV.int,fl⟩ (fun x bk=>x= .dr []∧bk=⟨3,(lJ xs).map AV.int,false⟩):=
 Bi hl (fun blk off cap zs w h1 h2 h3=>Tryz.slices_Sort_int blk off cap zs w h1 h2 h3) (fun p cap w=>Tryz.slices_Sort_int_none p cap w)
theorem B5 (xs:List Int) (id:Nat) (fl:Bool) (hl:xs.length≤1000000):dP Tryz.prog 187 [.sl 1 8 id 0 xs.length] id ⟨3,xs.map AV.int,fl⟩ (fun x bk=>x= .sl 1 8 id 0 (Lib.compact xs).length∧bk=⟨3,(Lib.compact xs).map AV.int,false⟩):=
 v8 hl (fun blk off cap zs w h1 h2 h3=>Tryz.slices_Compact_int blk off cap zs w h1 h2 h3) (fun p cap w=>Tryz.slices_Compact_int_empty p cap w)
def kX (del s:List Int):List Int:=s.filter fun x=>!hasB del x
theorem ET {del s:List Int} {k:Nat} (hk:k < s.length) (h:hasB del s[k]=false):kX del (s.take (k+1))=kX del (s.take k)++[s[k]]:=by
 unfold kX;rw [List.take_succ_eq_append_getElem hk,List.filter_append,List.filter_cons_of_pos (by simp [h])];rfl
theorem HU {del s:List Int} {k:Nat} (hk:k < s.length) (h:hasB del s[k]=true):kX del (s.take (k+1))=kX del (s.take k):=by
 unfold kX;rw [List.take_succ_eq_append_getElem hk,List.filter_append,List.filter_cons_of_neg (by simp [h])];simp
theorem xj {del s:List Int} {k:Nat}:(kX del (s.take k)).length≤k:=by
 unfold kX
 have:=List.length_filter_le (fun x=>!hasB del x) (s.take k)
 have h2:(s.take k).length≤k:=by rw [List.length_take];omega
 omega
theorem pj (s add del:List Int) (hs:s.length≤1000) (ha:add.length≤1000) (hd:del.Pairwise (· < ·)):bg Tryz.prog 137 [ints s,ints add,ints del] (fun r=>r=ints (nX s add del)):=by
 (refine bh Tryz.func137 Tryz.ntmps137 ?_)
 (repeat' (first|(refine hK _ ?_;clear hK K)|(refine aM (fun K hK=>?_))|(refine gR ?_;refine aP ?_)|(refine aN ?_)))
 (refine j1 7 100 1 8 3 ?_)
 refine bO [7,9,10,11,14,15,16,17,18,19,20,21,22,23,24,25,26,27,28,29,30] (fun k:Nat=>k≤s.length) (fun k=>s.length - k) (fun k=>[(14,.int k),(7,.sl 1 8 100 0 (kX del (s.take k)).length)]) (fun k=>[(100,⟨3,(kX del (s.take k)).map AV.int,false⟩)]) 0 aj ?_ ?_
 ·(refine cm ?_)
  (exact bd)
 ·rintro k hk K hK
  (refine cm ?_)
  have hl:=xj (del:=del) (s:=s) (k:=k)
  by_cases hlt:k < s.length
  ·(repeat' (first|(refine hK _ ?_;clear hK K)|(refine aM (fun K hK=>?_))|(refine gR ?_;refine aP ?_)|(refine gC 136 ?_;refine bp (w4 _ _ az) ?_)|(refine bn (fun K hK=>?_);refine cF ?_)|(refine gE ?_;(first|(refine cc ?_)|(refine dL (fun _=>?_))))|(refine gQ ?_;refine aS (fun hc=>?_) (fun hc=>?_)<;>(try (first|contradiction|omega)))|(refine aN ?_)|(refine gS ?_;refine aX ?_)))
   all_goals refine ⟨k+1,by omega,by omega,?_⟩
   ·rw [ET hlt az]
    (refine cm ?_)
    (exact bd)
   ·rw [HU hlt az]
    (refine cm ?_)
    (exact bd)
  ·obtain rfl:k=s.length:=by omega
   rw [List.take_length] at *
   have hnl:(kX del s++add).length=(kX del s).length+add.length:=List.length_append
   have hnb:=xj (del:=del) (s:=s) (k:=s.length)
   rw [List.take_length] at hnb
   have hr:nX s add del=GA (kX del s++add):=rfl
   (repeat' (first|(refine hK _ ?_;clear hK K)|(refine aM (fun K hK=>?_))|(refine fH 10 ab ?_;refine aP ?_)|(refine bn (fun K hK=>?_);refine cF ?_)|(refine gQ ?_;refine aS (fun hc=>?_) (fun hc=>?_)<;>(try (first|contradiction|omega)))|(refine gX ?_;refine bV ?_)|(apply_assumption (exfalso:=false) (symm:=false))))
   simp only [go_sem,seval,ky,List.length_map]
   rw [← hnl,← List.map_append]
   have hx:(kX del s++add).length≤2000:=by omega
   generalize kX del s++add=xs at *
   have hsl:xs.length=(lJ xs).length:=(List.length_mergeSort xs).symm
   (repeat' (first|(refine hK _ ?_;clear hK K)|(refine aM (fun K hK=>?_))|(refine fH 11 ab ?_;refine aP ?_)|(refine bn (fun K hK=>?_);refine kz (hT:=by exact of_decide_eq_true rfl) (d:=some 35) (Kk xs 100 _ aj) ab (fun x bk hx=>?_);obtain ⟨rfl,rfl⟩:=hx;simp only [Nat.reduceBEq,Bool.or_true,Bool.or_false,Bool.false_or,Bool.true_or,go_sem,seval])))
   have hr2:nX s add del=Lib.compact (lJ xs):=hr
   clear hr
   have hys:(lJ xs).length≤2000:=by omega
   rw [hsl]
   clear hsl
   generalize lJ xs=ys at *
   (repeat' (first|(refine hK _ ?_;clear hK K)|(refine gR ?_;refine aP ?_)|(refine bn (fun K hK=>?_);refine kz (hT:=by exact of_decide_eq_true rfl) (d:=some 37) (B5 ys 100 _ aj) ab (fun x bk hx=>?_);obtain ⟨rfl,rfl⟩:=hx;simp only [Nat.reduceBEq,Bool.or_true,Bool.or_false,Bool.false_or,Bool.true_or,go_sem,seval])|(refine gT ?_;refine aZ ?_)))
   refine oT (Lib.compact ys) rfl ab ab rfl (fun _=>rfl) (fun _=>rfl) (by rw [hr2])
end Go.Proofs.YtkbiagkbmodgdaaGreat
namespace Go.Proofs.YtkbiagkbmodgdaaGreat
open Go.Ab
open Go
set_option maxRecDepth 10000
attribute [local irreducible] dE fh mC lW db PV eR ef AW bg dn ec dP cO Ab.Fin ft en gI iO RV jX Le eI fM mg gV kf dz dg
set_option maxHeartbeats 8000000
theorem Mx (L:Int) (h0L:0≤L) (hL:L≤24) (S:eB) (all:Int) (c:SSet) (hc:MX L c) (h:ma L S) (hv:Vd S.ns all) (hb:S.ns.length+1200+zS+zS≤DB) :
  cO Tryz.prog 68 [.ptr 702 0,c.av] (JM L S all) [] [702,700] (fun x hp=>x= .bool (vc L all c S).2∧hp=JM L (vc L all c S).1 all):=by
 have r1:=rG h0L hL hc h
 have c1:=Ac L h0L hL S all c hc h aj
 have hR:vc L all c S=(let x:=mU L c S;let y:=yh L x.1 all;let z:=fC L 0 y.1 x.2 y.2;(z.1,decide (z.2=0))):=rfl
 simp only at hR
 generalize mU L c S=x at *
 have g1:=r1.gr.len
 have hb2:=qt r1.ok.no h0L (r1.gr.vd hv)
 have r2:=qu h0L L.toNat x.1 GX all r1.ok (BQ h0L) (r1.gr.vd hv) aj
 have c2:=Mf L h0L hL x.1 all r1.ok (r1.gr.vd hv) aj
 have ey:(j2 L.toNat x.1 GX all).1.1=(yh L x.1 all).1∧(j2 L.toNat x.1 GX all).2=(yh L x.1 all).2:=⟨rfl,rfl⟩
 generalize hy:yh L x.1 all=y at *
 have k1:=r2.ok
 have k2:=r2.vd
 have k3:=r2.gr
 rw [ey.1] at k1 k2 k3
 rw [ey.2] at k2
 have g2:=k3.len
 have hp:=qn hL
 have c3:=yj L h0L hL y.1 x.2 y.2 k1 (k3.vd r1.vd) k2 aj
 generalize fC L 0 y.1 x.2 y.2=z at *
 rw [hR]
 (refine ck Tryz.func68 Tryz.ntmps68 ?_)
 (repeat' (first|(refine hK _ ?_;clear hK K)|(refine aM (fun K hK=>?_))|(refine fH 1 ab ?_;refine aP ?_)|(refine gE ?_;refine cc ?_)))
 (refine cT (bQ 3 rfl rfl rfl) ?_;simp only [go_sem,seval])
 refine nJ [.ptr 702 0,.ptr 702 0,.ptr 702 0,.ptr 700 0,.ptr 702 0,c.av,.int x.2,.ptr 702 0,.ptr 702 0,.ptr 702 0,.ptr 700 0,.ptr 702 0,.ptr 702 0,.ptr 702 1,.int all,.int y.2,.int z.2,.bool (decide (z.2=0)),.bool (decide (z.2=0))] [[0],[5],[6],[7],[0],[3],[9,10],[0],[12],[13],[14],[0],[16],[17],[18],[15,19],[8,11,20],[21],[22]] [6,15,16] [(0,0),(0,1),(0,2),(1,0),(1,1),(1,2),(2,0),(2,1),(2,2),(3,0),(3,1),(3,2),(4,0),(5,0),(7,0),(7,1),(8,0),(8,1),(9,0),(9,1),(10,0),(10,1),(11,0),(11,1),(12,0),(12,1),(13,0),(13,1),(14,0),(14,1),(17,3),(18,3)] [fun h=>JM L x.1 all++eZ (aV (JM L S all)++[]) [702,700] h,fun h=>jr L y.1++eZ (aV (jr L x.1)++[]) [700] h,fun h=>jr L z.1++eZ (aV (jr L y.1)++[]) [700] h] ab ah au (all_cons ⟨_,rfl,rfl,(by first|exact ba (cR) ab)⟩ (all_cons ⟨_,rfl,rfl,(by first|exact ba (cR) ab)⟩ (all_cons ⟨_,rfl,rfl,(by first|exact ba (cR) ab)⟩ (all_cons ⟨_,rfl,rfl,(by first|exact ba (cu ab) ab|exact ba (b8 ab) ab|exact ba (b9 ab) ab)⟩ (all_cons ⟨_,rfl,rfl,(by first|exact ba (cu ab) ab|exact ba (b8 ab) ab|exact ba (b9 ab) ab)⟩ (all_cons ⟨_,rfl,rfl,(by first|exact ba (cu ab) ab|exact ba (b8 ab) ab|exact ba (b9 ab) ab)⟩ (all_cons ⟨_,rfl,rfl,(by first|exact ba (bl ab ab ak) ab|exact ba (bm ab ab ak) ab)⟩ (all_cons ⟨_,rfl,rfl,(by first|exact ba (bl ab ab ak) ab|exact ba (bm ab ab ak) ab)⟩ (all_cons ⟨_,rfl,rfl,(by first|exact ba (bl ab ab ak) ab|exact ba (bm ab ab ak) ab)⟩ (all_cons ⟨_,rfl,rfl,aR⟩ (all_cons ⟨_,rfl,rfl,aR⟩ (all_cons ⟨_,rfl,rfl,aR⟩ (all_cons ⟨_,rfl,rfl,(by first|exact ba (cR) ab)⟩ (all_cons ⟨_,rfl,rfl,aR⟩ (all_cons ⟨_,rfl,rfl,(by first|exact ba (cR) ab)⟩ (all_cons ⟨_,rfl,rfl,(by first|exact ba (cR) ab)⟩ (all_cons ⟨_,rfl,rfl,(by first|exact ba (cu ab) ab|exact ba (b8 ab) ab|exact ba (b9 ab) ab)⟩ (all_cons ⟨_,rfl,rfl,(by first|exact ba (cu ab) ab|exact ba (b8 ab) ab|exact ba (b9 ab) ab)⟩ (all_cons ⟨_,rfl,rfl,(by first|exact ba (bl ab ab ak) ab|exact ba (bm ab ab ak) ab)⟩ (all_cons ⟨_,rfl,rfl,(by first|exact ba (bl ab ab ak) ab|exact ba (bm ab ab ak) ab)⟩ (all_cons ⟨_,rfl,rfl,aR⟩ (all_cons ⟨_,rfl,rfl,aR⟩ (all_cons ⟨_,rfl,rfl,(by first|exact ba (cR) ab)⟩ (all_cons ⟨_,rfl,rfl,(by first|exact ba (cR) ab)⟩ (all_cons ⟨_,rfl,rfl,(by first|exact ba (cu ab) ab|exact ba (b8 ab) ab|exact ba (b9 ab) ab)⟩ (all_cons ⟨_,rfl,rfl,(by first|exact ba (cu ab) ab|exact ba (b8 ab) ab|exact ba (b9 ab) ab)⟩ (all_cons ⟨_,rfl,rfl,(by first|exact ba (bl ab ab ak) ab|exact ba (bm ab ab ak) ab)⟩ (all_cons ⟨_,rfl,rfl,(by first|exact ba (bl ab ab ak) ab|exact ba (bm ab ab ak) ab)⟩ (all_cons ⟨_,rfl,rfl,aR⟩ (all_cons ⟨_,rfl,rfl,aR⟩ (all_cons ⟨_,rfl,rfl,(by first|exact ba (A8 ab ab) ab|exact ba (tH ab ab) ab|exact ba (tJ ab ab ah) ab)⟩ (all_cons ⟨_,rfl,rfl,(by first|exact ba (cU) ab)⟩ all_nil)))))))))))))))))))))))))))))))) (dS (fun f hfl hU hfm K1 hK1=>⟨_,rfl,rfl,(by (refine bI (by rw [eM hU ab];exact c1) (by (repeat (first|exact bP|refine bA ab ?_))) (fun _ h=>by cases h) ab (fun x hp' hx=>?_);obtain ⟨rfl,rfl⟩:=hx;rw [fb hfm (by repeat (first|exact all_nil|refine all_cons ab ?_)) (by repeat (first|exact all_nil|refine all_cons ab ?_))];exact hK1))⟩) (dS (fun f hfl hU hfm K1 hK1=>⟨_,rfl,rfl,(by (refine bI (by rw [eM hU ab];exact c2) (by (repeat (first|exact bP|refine bA ab ?_))) (fun _ h=>by cases h) ab (fun x hp' hx=>?_);obtain ⟨rfl,rfl⟩:=hx;rw [fb hfm (by repeat (first|exact all_nil|refine all_cons ab ?_)) (by repeat (first|exact all_nil|refine all_cons ab ?_))];exact hK1))⟩) (dS (fun f hfl hU hfm K1 hK1=>⟨_,rfl,rfl,(by (refine bI (by rw [eM hU ab];exact c3) (by (repeat (first|exact bP|refine bA ab ?_))) (fun _ h=>by cases h) ab (fun x hp' hx=>?_);obtain ⟨rfl,rfl⟩:=hx;rw [fb hfm (by repeat (first|exact all_nil|refine all_cons ab ?_)) (by repeat (first|exact all_nil|refine all_cons ab ?_))];exact hK1))⟩) nH))) ?_
 simp only [go_sem,seval,dj,aV,CJ,List.length_cons,List.length_nil]
 (repeat' (first|(refine hK _ ?_;clear hK K)|(refine gT ?_;refine aZ ?_)))
 (refine bH (Le.refl _) (aQ (aO ab)) (by (repeat refine bq ab ?_);exact aY _) ab ae ⟨rfl,rfl⟩)
end Go.Proofs.YtkbiagkbmodgdaaGreat
namespace Go.Proofs.YtkbiagkbmodgdaaGreat
open Go.Ab
open Go
set_option maxRecDepth 10000
attribute [local irreducible] PV eR ef AW bg dn ec dP Ab.Fin ft en gI RV jX Le eI fM mg gV kf dz dg
set_option maxHeartbeats 2000000
theorem As (s p:List Int) (hs:s.Pairwise (· < ·)) (hp:p.Pairwise (· < ·)):bg Tryz.prog 127 [ints s,ints p] (fun r=>r= .bool (iG p s)):=by
 have hs':=List.pairwise_iff_getElem.1 hs
 have hp':=List.pairwise_iff_getElem.1 hp
 (refine bh Tryz.func127 Tryz.ntmps127 ?_)
 (refine cL (i:=0) rfl (fun hb=>?_);(try simp only [List.length_map] at hb))
 (refine cL (i:=1) rfl (fun hb1=>?_);(try simp only [List.length_map] at hb1))
 (repeat' (first|(refine hK _ ?_;clear hK K)|(refine aM (fun K hK=>?_))|(refine gR ?_;refine aP ?_)|(refine aN ?_)))
 refine bO [4,5,7,10,11,12,13,14,15,16,17,18,19,20,21,22,23,24,25,26,27,28,29,30,31,32,33,34,35,36,37,38,39,40] (fun q:Nat×Nat=>q.1≤p.length∧q.2≤s.length∧(∀ j (hj:j < p.length),j < q.1→hasB s p[j]=true)∧∀ a (ha:a < s.length),a < q.2→∀ j (hj:j < p.length),q.1≤j→s[a] < p[j]) (fun q=>p.length - q.1) (fun q=>[(10,.int q.1),(5,.int q.2)]) (fun _=>[]) (0,0) ⟨by simp,by simp,by simp,by simp⟩ ?_ ?_
 ·(refine cm ?_)
  (exact bd)
 ·rintro ⟨k,i⟩ ⟨hk,hi,hn,hl⟩ K hK
  simp only at hk hi hn hl
  (refine cm ?_)
  by_cases hlt:k < p.length
  ·(repeat' (first|(refine hK _ ?_;clear hK K)|(refine aM (fun K hK=>?_))|(refine gR ?_;refine aP ?_)|(refine gE ?_;refine dL (fun _=>?_))|(refine gQ ?_;refine aS (fun hc=>?_) (fun hc=>?_)<;>(try (first|contradiction|omega)))|(refine aN ?_)|(refine gS ?_;refine aX ?_)))
   refine bO [5,14,15,16,17,18,19,20,21,22,23,24,25,26,27] (fun i:Nat=>i≤s.length∧∀ a (ha:a < s.length),a < i→∀ j (hj:j < p.length),k≤j→s[a] < p[j]) (fun i=>s.length - i) (fun i=>[(5,.int i)]) (fun _=>[]) i ⟨hi,hl⟩ ?_ ?_
   ·(refine cm ?_)
    (exact bd)
   ·clear hi hl
    rintro i ⟨hi,hl⟩ K hK
    (refine cm ?_)
    by_cases hit:i < s.length
    ·have hnf:s[i] < p[k]→∀ a (ha:a < s.length),a < i+1→∀ j (hj:j < p.length),k≤j→s[a] < p[j]:=fun hc a ha hai j hj hkj=>by
      rcases Nat.lt_or_ge a i with h|h
      ·exact hl a ha h j hj hkj
      ·obtain rfl:a=i:=by omega
       rcases Nat.lt_or_ge k j with h2|h2
       ·have:=hp' k j hlt hj h2;omega
       ·obtain rfl:j=k:=by omega
        exact hc
     have hno:p[k] < s[i]→hasB s p[k]=false:=fun hc=>by
      rw [nK]
      intro hm
      obtain ⟨a,ha,he⟩:=List.getElem_of_mem hm
      rcases Nat.lt_or_ge a i with h|h
      ·have:=hl a ha h k hlt (Nat.le_refl _);omega
      ·rcases Nat.lt_or_ge i a with h2|h2
       ·have:=hs' i a hit ha h2;omega
       ·obtain rfl:a=i:=by omega
        omega
     (repeat' (first|(refine hK _ ?_;clear hK K)|(refine aM (fun K hK=>?_))|(refine gR ?_;refine aP ?_)|(refine gE ?_;(first|(refine cc ?_)|(refine dL (fun _=>?_))))|(refine gG ?_;refine cB (fun hc=>?_) (fun hc=>?_)<;>(try (first|contradiction|omega)))|(refine gQ ?_;refine aS (fun hc=>?_) (fun hc=>?_)<;>(try (first|contradiction|omega)))|(refine aN ?_)|(refine gX ?_;refine bV ?_)|(refine gT ?_;refine aZ ?_)|(refine gS ?_;refine aX ?_)|(apply_assumption (exfalso:=false) (symm:=false))))
     ·refine ⟨i+1,⟨by omega,hnf az⟩,by omega,?_⟩
      (refine cm ?_)
      (exact bd)
     ·(refine aT (Le.refl _) (aQ (aO ab)) af ?_)
      rw [show iG p s=false from Hd hlt (hno aj)]
     ·refine ⟨(k+1,i),⟨by simp only;omega,by simp only;omega,?_,?_⟩,by simp only;omega,?_⟩
      ·intro j hj hjk
       rcases Nat.lt_or_ge j k with h|h
       ·exact hn j hj h
       ·obtain rfl:j=k:=by simp only at hjk;omega
        rw [hZ,← hc];exact List.getElem_mem hit
      ·exact fun a ha hai j hj hkj=>hl a ha hai j hj (by simp only at hkj;omega)
      ·(refine cm ?_)
       (exact bd)
    ·obtain rfl:i=s.length:=by omega
     have hno:hasB s p[k]=false:=by
      rw [nK]
      intro hm
      obtain ⟨a,ha,he⟩:=List.getElem_of_mem hm
      have:=hl a ha ha k hlt (Nat.le_refl _);omega
     (repeat' (first|(refine hK _ ?_;clear hK K)|(refine aM (fun K hK=>?_))|(refine gR ?_;refine aP ?_)|(refine gG ?_;refine cB (fun hc=>?_) (fun hc=>?_)<;>(try (first|contradiction|omega)))|(refine gQ ?_;(first|(refine cf ?_)|(refine bT ?_)))|(refine gX ?_;refine bV ?_)|(refine gT ?_;refine aZ ?_)|(apply_assumption (exfalso:=false) (symm:=false))))
     (refine aT (Le.refl _) (aQ (aO ab)) af ?_)
     rw [show iG p s=false from Hd hlt hno]
  ·obtain rfl:k=p.length:=by omega
   (repeat' (first|(refine hK _ ?_;clear hK K)|(refine aM (fun K hK=>?_))|(refine gR ?_;refine aP ?_)|(refine gQ ?_;refine aS (fun hc=>?_) (fun hc=>?_)<;>(try (first|contradiction|omega)))|(refine gX ?_;refine bV ?_)|(refine gT ?_;refine aZ ?_)|(apply_assumption (exfalso:=false) (symm:=false))))
   (refine aT (Le.refl _) (aQ (aO ab)) af ?_)
   rw [show iG p s=true from JO hn (Nat.le_refl _)]
theorem rU (s p:List Int) (n m:Int) (hs:isSet s n=true) (hp:isSet p m=true):bg Tryz.prog 127 [ints s,ints p] (fun r=>r= .bool (iG p s)):=As s p (cG.1 hs).2 (cG.1 hp).2
theorem K3 {t:Task} (hw:xY t) {x:Int} (hx:0≤x∧x < t.ops.length):∃ h:x.toNat < t.ops.length,t.ops[x.toNat]! =t.ops[x.toNat]∧isSet t.ops[x.toNat].pre t.facts=true∧isSet t.ops[x.toNat].add t.facts=true∧isSet t.ops[x.toNat].del t.facts=true:=by
 have h:x.toNat < t.ops.length:=by omega
 obtain ⟨p1,p2,p3,_⟩:=Ey (hw.ops _ (List.getElem_mem h)).1
 exact ⟨h,bY h,p1,p2,p3⟩
theorem My (t:Task) (s:List Int) (x:Int) (hw:xY t) (hs:isSet s t.facts=true) (hx:0≤x∧x < t.ops.length):bg Tryz.prog 177 [t.av,ints s,.int x] (fun r=>r= .bool (iG (t.ops[x.toNat]!).pre s)):=by
 obtain ⟨h,hg,p1,p2,p3⟩:=K3 hw hx
 have h40:=hw.n40
 rw [hg]
 (refine bh Tryz.func177 Tryz.ntmps177 ?_)
 (repeat' (first|(refine hK _ ?_;clear hK K)|(refine aM (fun K hK=>?_))|(refine gR ?_;refine aP ?_)|(refine gC 127 ?_;refine bp (rU _ _ _ _ hs p1) ?_)|(refine gE ?_;(first|(refine cc ?_)|(refine dL (fun _=>?_))))|(refine gT ?_;refine aZ ?_)))
 (refine aT (Le.refl _) (aQ (aO ab)) af ?_)
 rfl
theorem C8 {s:List Int} {n:Int} (hs:isSet s n=true) (h0:0≤n) (h24:n≤24):s.length≤1000:=by
 have:=Ez hs h0;omega
theorem Kl (t:Task) (s:List Int) (x:Int) (hw:xY t) (hs:isSet s t.facts=true) (hx:0≤x∧x < t.ops.length):bg Tryz.prog 178 [t.av,ints s,.int x] (fun r=>r=ints (bC t.facts s t.ops[x.toNat]!)):=by
 obtain ⟨h,hg,p1,p2,p3⟩:=K3 hw hx
 have h40:=hw.n40
 rw [hg,← GC hw.f0 hs p2]
 have l1:=C8 hs hw.f0 hw.f1
 have l2:=C8 p2 hw.f0 hw.f1
 have hd:=(cG.1 p3).2
 (refine bh Tryz.func178 Tryz.ntmps178 ?_)
 (repeat' (first|(refine hK _ ?_;clear hK K)|(refine aM (fun K hK=>?_))|(refine gR ?_;refine aP ?_)|(refine gC 137 ?_;refine bp (pj _ _ _ l1 l2 hd) ?_)|(refine gE ?_;(first|(refine cc ?_)|(refine dL (fun _=>?_))))|(refine gT ?_;refine aZ ?_)))
 (refine aT (Le.refl _) (aQ (aO ab)) af ?_)
 rfl
end Go.Proofs.YtkbiagkbmodgdaaGreat
namespace Go.Proofs.YtkbiagkbmodgdaaGreat
open Go.Ab
open Go
set_option maxRecDepth 10000
attribute [local irreducible] PV eR ef AW bg dn ec Ab.Fin ft en gI RV jX Le eI fM mg gV kf dz dg
set_option maxHeartbeats 2000000
theorem EU {xs:List Int} {k:Nat} (h:k < xs.length):cY (xs.take (k+1))=cY (xs.take k)+2 ^ xs[k].toNat:=by
 rw [List.take_succ_eq_append_getElem h,rz];simp [cY]
theorem yv {xs:List Int}:∀ (k:Nat),cY (xs.take k)≤cY xs:=fun k=>by
 have h:=rz (xs.take k) (xs.drop k)
 rw [List.take_append_drop] at h
 omega
abbrev Oe (l:List (List Int)):AV:=.cr 1 24 (l.map fun x=>ints x)
@[go_sem] theorem B6 (id:Nat) (l:List (List Int)):AV.ct id (l.map fun x=>ints x)=l.map fun x=>ints x:=pS id _ _ fun _=>rfl
@[go_sem] theorem K4 (id:Nat) (l:List (List Int)) (x:List Int):AV.ct id ((l.map fun x=>ints x)++[ints x])=(l.map fun x=>ints x)++[ints x]:=by
 rw [pA,B6];rfl
end Go.Proofs.YtkbiagkbmodgdaaGreat
namespace Go.Proofs.YtkbiagkbmodgdaaGreat
open Go.Ab
open Go
def ju (plan:List Int):List Nat:=plan.map Int.toNat
def kY (t:Task) (s:List Int) (plan:List Nat):Bool:=match ix t s plan with
 |some e=>iG t.goal e
 |none=>false
theorem vG {t:Task} {s:List Int} {plan:List Nat}:kY t s plan=true↔ql t s plan:=by
 unfold kY ql
 cases ix t s plan with
 |none=>simp
 |some e=>simp
theorem vH {t:Task} (hw:xY t):∀ (plan:List Nat),0≤fA t plan∧fA t plan≤100 * plan.length
 |[]=>by simp [fA]
 |j::r=>by
  have ih:=vH hw r
  rw [fA,List.length_cons]
  cases hj:t.ops[j]? with
  |none=>simp only;omega
  |some o=>
   have:=(hw.ops o (List.mem_of_getElem? hj)).2
   simp only;omega
theorem EV {plan:List Int} {k:Nat} (h:k < plan.length):ju (plan.take (k+1))=ju (plan.take k)++[plan[k].toNat]:=by
 unfold ju;rw [List.take_succ_eq_append_getElem h,List.map_append];rfl
theorem EW {t:Task} {plan:List Int} {k:Nat} (h:k < plan.length) (hx:0≤plan[k]∧plan[k] < t.ops.length):fA t (ju (plan.take (k+1)))=fA t (ju (plan.take k))+(t.ops[plan[k].toNat]' aj).cost:=by
 have hl:plan[k].toNat < t.ops.length:=by omega
 rw [EV h,zP,fA,fA,List.getElem?_eq_getElem hl]
 simp
end Go.Proofs.YtkbiagkbmodgdaaGreat
namespace Go.Proofs.YtkbiagkbmodgdaaGreat
open Go.Ab
open Go
set_option maxRecDepth 10000
attribute [local irreducible] PV eR ef AW bg dn ec dP Ab.Fin ft en gI RV jX Le eI fM mg gV kf dz dg
set_option maxHeartbeats 4000000
def kZ (t:Task):List Int→List Int→List (List Int)
 |s,[]=>[s]
 |s,x::r=>if iG (t.ops[x.toNat]!).pre s then s::kZ t (bC t.facts s t.ops[x.toNat]!) r else [s]
theorem xk {t:Task} {s:List Int} {x:Int} {r:List Int} (h:iG (t.ops[x.toNat]!).pre s=false):kZ t s (x::r)=[s]:=by rw [kZ,h];rfl
theorem C9 {t:Task} {s:List Int} {x:Int} {r:List Int} (h:iG (t.ops[x.toNat]!).pre s=true):kZ t s (x::r)=s::kZ t (bC t.facts s t.ops[x.toNat]!) r:=by rw [kZ,h];rfl
def Da (t:Task) (plan:List Int):Prop:=∀ x∈plan,0≤x∧x < t.ops.length
structure Pv (t:Task) (s plan:List Int) (k:Nat) (pre:List (List Int)) (u:List Int):Prop where
 le:k≤plan.length
 len:pre.length=k
 set:isSet u t.facts=true
 eq:kZ t s plan=pre++kZ t u (plan.drop k)
theorem Mz (t:Task) (s plan:List Int) (hw:xY t) (hs:isSet s t.facts=true) (hp:Da t plan) (h60:plan.length≤1000):bg Tryz.prog 126 [t.av,ints s,ints plan] (fun r=>r=Oe (kZ t s plan)):=by
 have h0:=hw.f0
 (refine bh Tryz.func126 Tryz.ntmps126 ?_)
 (repeat' (first|(refine hK _ ?_;clear hK K)|(refine aM (fun K hK=>?_))|(refine fH 1 ab ?_;refine aP ?_)|fail))
 refine dG ?_
 refine cp rfl (fun K1 hK1=>?_)
 refine bK cR ?_
 simp only [go_sem,seval];refine hK1 _ ?_;clear hK1 K1
 refine cp rfl (fun K1 hK1=>?_)
 refine cH (cP _) ab (fun x hx=>?_)
 obtain rfl:=hx
 simp only [go_sem,seval];refine hK1 _ ?_;clear hK1 K1
 refine cp rfl (fun K1 hK1=>?_)
 refine mj (sr (d:=12) ⟨by decide,by decide,by decide⟩ ab ab ab ab ab ?_)
 simp only [go_sem,seval];refine hK1 _ ?_;clear hK1 K1
 refine Cj ?_
 (repeat' (first|(refine hK _ ?_;clear hK K)|(refine aM (fun K hK=>?_))|(refine gR ?_;refine aP ?_)|(refine aN ?_)))
 refine bO (1::12::[1,7,9,15,16,17,18,19,20,21,22,23,24,25,26,27,28,29,30,31,32]) (fun q:Nat×Bool×List (List Int)×List Int=>Pv t s plan q.1 q.2.2.1 q.2.2.2) (fun q=>plan.length - q.1) (fun q=>[(15,.int q.1),(1,ints q.2.2.2),(7,.sl 1 24 12 0 (q.2.2.1++[q.2.2.2]).length)])
  (fun q=>[(3,⟨38,t.cs,true⟩),(12,⟨35,(q.2.2.1++[q.2.2.2]).map (fun x=>ints x),q.2.1⟩)]) (0,true,[],s) ⟨by simp,rfl,hs,by simp⟩ ?_ ?_
 ·(refine cm ?_)
  (exact bd)
 ·rintro ⟨k,fl,pre,u⟩ ⟨hk,hpl,hu,he⟩ K hK
  simp only at hk hpl hu he
  (refine cm ?_)
  by_cases hlt:k < plan.length
  ·have hx:=hp _ (List.getElem_mem hlt)
   have hst:=o5 h0 u t.ops[plan[k].toNat]!
   have hd:plan.drop k=plan[k]::plan.drop (k+1):=List.drop_eq_getElem_cons hlt
   rw [hd] at he
   (repeat' (first|(refine hK _ ?_;clear hK K)|(refine aM (fun K hK=>?_))|(refine gR ?_;refine aP ?_)|(refine gC 177 ?_;refine bp (My _ _ _ hw hu hx) ?_)|(refine gC 178 ?_;refine bp (Kl _ _ _ hw hu hx) ?_)|(refine bn (fun K hK=>?_);refine cF ?_)|(refine gE ?_;(first|(refine cc ?_)|(refine dL (fun _=>?_))))|(refine gQ ?_;refine aS (fun hc=>?_) (fun hc=>?_)<;>(try (first|contradiction|omega)))|(refine aN ?_)|(refine gX ?_;refine bV ?_)|(refine gT ?_;refine aZ ?_)|(refine gS ?_;refine aX ?_)|(apply_assumption (exfalso:=false) (symm:=false))))
   ·have hf:kZ t s plan=pre++[u]:=by rw [he,xk az]
    refine oT (f:=fun x=>ints x) (pre++[u]) rfl ab (by simp only [List.map_append,List.map_cons,List.map_nil];rfl) ax (fun _=>rfl) (fun _=>rfl) (by rw [hf])
   ·refine ⟨(k+1,false,pre++[u],bC t.facts u t.ops[plan[k].toNat]!),⟨by simp only;omega,by simp;omega,hst,by simp only;rw [he,C9 az,List.append_assoc];rfl⟩,by simp only;omega,?_⟩
    (refine cm ?_)
    (exact bd)
  ·obtain rfl:k=plan.length:=by omega
   (repeat' (first|(refine hK _ ?_;clear hK K)|(refine aM (fun K hK=>?_))|(refine gR ?_;refine aP ?_)|(refine gQ ?_;refine aS (fun hc=>?_) (fun hc=>?_)<;>(try (first|contradiction|omega)))|(refine gX ?_;refine bV ?_)|(refine gT ?_;refine aZ ?_)|(apply_assumption (exfalso:=false) (symm:=false))))
   have hf:kZ t s plan=pre++[u]:=by rw [he,List.drop_length];rfl
   refine oT (f:=fun x=>ints x) (pre++[u]) rfl ab (by simp only [List.map_append,List.map_cons,List.map_nil];rfl) ax (fun _=>rfl) (fun _=>rfl) (by rw [hf])
theorem xl {t:Task}:∀ (plan:List Int) (s:List Int),Da t plan→
  (∃ e,ix t s (ju plan)=some e∧(kZ t s plan).length=plan.length+1∧(kZ t s plan)[plan.length]?=some e)∨(ix t s (ju plan)=none∧(kZ t s plan).length≤plan.length)
 |[],s,_=>.inl ⟨s,rfl,rfl,rfl⟩
 |x::r,s,hp=>by
  have hx:=hp x ax
  have hlt:x.toNat < t.ops.length:=by omega
  have hg:t.ops[x.toNat]! =t.ops[x.toNat]:=bY hlt
  have e:ix t s (ju (x::r))=if iG t.ops[x.toNat].pre s then ix t (bC t.facts s t.ops[x.toNat]) (ju r) else none:=by
   show ix t s (x.toNat::ju r)=_
   rw [ix,List.getElem?_eq_getElem hlt]
  cases hs:iG (t.ops[x.toNat]!).pre s with
  |false=>
   rw [xk hs]
   rw [hg] at hs
   rw [e,hs]
   exact .inr ⟨rfl,by simp⟩
  |true=>
   rw [C9 hs]
   rw [hg] at hs ⊢
   rw [e,hs]
   simp only [if_true,List.length_cons,List.getElem?_cons_succ]
   rcases xl r (bC t.facts s t.ops[x.toNat]) (fun y hy=>hp y (by simp [hy])) with ⟨d,h1,h2,h3⟩|⟨h1,h2⟩
   ·exact .inl ⟨d,h1,by omega,h3⟩
   ·exact .inr ⟨h1,by omega⟩
theorem Au {t:Task} (h0:0≤t.facts):∀ (plan:List Int) (s:List Int),isSet s t.facts=true→∀ u∈kZ t s plan,isSet u t.facts=true
 |[],s,hs,u,hu=>by rw [kZ,List.mem_singleton] at hu;rw [hu];exact hs
 |x::r,s,hs,u,hu=>by
  rw [kZ] at hu
  split at hu
  ·rcases List.mem_cons.1 hu with rfl|hu
   ·exact hs
   ·exact Au h0 r _ (o5 h0 _ _) u hu
  ·rw [List.mem_singleton] at hu;rw [hu];exact hs
theorem HV (t:Task) (s plan:List Int) (hw:xY t) (hs:isSet s t.facts=true) (hp:Da t plan) (h60:plan.length≤1000):bg Tryz.prog 60 [t.av,ints s,ints plan] (fun r=>r= .bool (kY t s (ju plan))):=by
 have hgs:=hw.goal
 have hall:=Au hw.f0 plan s hs
 have hrun:=Mz t s plan hw hs hp h60
 rcases xl plan s hp with ⟨e,h1,h2,h3⟩|⟨h1,h2⟩
 ·have hlt:plan.length < (kZ t s plan).length:=by omega
  have he:(kZ t s plan)[plan.length]=e:=by rw [List.getElem?_eq_getElem hlt,Option.some.injEq] at h3;exact h3
  have hes:isSet (kZ t s plan)[plan.length] t.facts=true:=hall _ (List.getElem_mem hlt)
  have hw2:kY t s (ju plan)=iG t.goal (kZ t s plan)[plan.length]:=by rw [kY,h1,he]
  rw [hw2]
  clear h3 he hw2
  generalize kZ t s plan=l at *
  (refine bh Tryz.func60 Tryz.ntmps60 ?_)
  (repeat' (first|(refine hK _ ?_;clear hK K)|(refine aM (fun K hK=>?_))|(refine gR ?_;refine aP ?_)|(refine gD 2 ?_;refine fg (.it 0 0 (.it 1 0 (.it 2 0 (.it 3 0 (.it 4 0 (.it 5 0 (.it 6 0 (.it 7 0 (.it 8 0 (.it 9 0 (.it 10 0 (.it 11 0 (.it 12 0 (.it 13 0 (.it 14 2 (.it 15 0 (.it 16 0 .nil))))))))))))))))) [0,1,2,3,4,5,6,7,8,9,10,11,12,13,14,15,16] ?_)|(refine gC 126 ?_;refine bp (hrun) ?_)|(refine kK 127 ?_;refine dw (rU _ _ _ _ hes hgs) ?_)|(refine gE ?_;(first|(refine cc ?_)|(refine dL (fun _=>?_))))|(refine Lo ?_;refine pQ (fun hc=>?_) (fun hc=>?_)<;>(try (first|contradiction|omega)))|(refine gT ?_;refine aZ ?_)))
  all_goals (refine aT (Le.refl _) (aQ (aO ab)) af ?_)
  all_goals rfl
 ·have hw2:kY t s (ju plan)=false:=by rw [kY,h1]
  rw [hw2]
  generalize kZ t s plan=l at *
  (refine bh Tryz.func60 Tryz.ntmps60 ?_)
  (repeat' (first|(refine hK _ ?_;clear hK K)|(refine aM (fun K hK=>?_))|(refine gR ?_;refine aP ?_)|(refine gD 2 ?_;refine fg (.it 0 0 (.it 1 0 (.it 2 0 (.it 3 0 (.it 4 0 (.it 5 0 (.it 6 0 (.it 7 0 (.it 8 0 (.it 9 0 (.it 10 0 (.it 11 0 (.it 12 0 (.it 13 0 (.it 14 2 (.it 15 0 (.it 16 0 .nil))))))))))))))))) [0,1,2,3,4,5,6,7,8,9,10,11,12,13,14,15,16] ?_)|(refine gC 126 ?_;refine bp (hrun) ?_)|(refine gE ?_;refine cc ?_)|(refine Lo ?_;refine pQ (fun hc=>?_) (fun hc=>?_)<;>(try (first|contradiction|omega)))|(refine gT ?_;refine aZ ?_)))
  all_goals (refine aT (Le.refl _) (aQ (aO ab)) af ?_)
  all_goals rfl
theorem HW {t:Task} {p:Int×Int} (e:cW t=p):bg Tryz.prog 128 [t.av] (fun r=>r=jL p):=by
 have:=oI t
 rw [e] at this
 exact this
end Go.Proofs.YtkbiagkbmodgdaaGreat
namespace Go.Proofs.YtkbiagkbmodgdaaGreat
open Go.Ab
open Go
set_option maxRecDepth 10000
set_option maxHeartbeats 4000000
structure rr where
 st:List Int
 val:Int
def lr:List rr→List (Int×Int)→List (Int×Int)
 |[],kv=>kv
 |e::r,kv=>lr r (jt kv ((cY e.st:Nat):Int) e.val)
def HX (kv:List (Int×Int)) (s:List Int):Int:=(lk kv ((cY s:Nat):Int)).getD 0
def HY (t:Task) (kv:List (Int×Int)) (s:List Int):Nat→Int
 |0=>1000000000
 |k+1=>if iG (t.ops[k]!).pre s=true then min (HY t kv s k) ((t.ops[k]!).cost+HX kv (bC t.facts s t.ops[k]!)) else HY t kv s k
def nP (t:Task) (kv:List (Int×Int)) (s:List Int):Int:=if iG t.goal s=true then 0 else HY t kv s t.ops.length
def oM (t:Task) (kv:List (Int×Int)) (tb:List rr):Bool:=tb.all fun e=>!decide (nP t kv e.st < e.val)
theorem HZ {t:Task} {kv:List (Int×Int)} {s:List Int} {i:Nat} (hp:iG (t.ops[i]!).pre s=true):∀ k,i < k→HY t kv s k≤(t.ops[i]!).cost+HX kv (bC t.facts s t.ops[i]!)
 |0,h=>by omega
 |k+1,h=>by
  unfold HY
  by_cases e:i=k
  ·subst e;rw [if_pos hp];omega
  ·have:=HZ (kv:=kv) hp k aj
   split<;>omega
theorem Db:∀ (tb:List rr) (kv:List (Int×Int)) (w v:Int),lk (lr tb kv) w=some v→lk kv w=some v∨∃ e∈tb,((cY e.st:Nat):Int)=w∧e.val=v
 |[],kv,w,v,h=>.inl h
 |e::r,kv,w,v,h=>by
  rcases Db r _ w v h with h1|⟨x,hx,h2⟩
  ·rw [lK] at h1
   split at h1
   ·rename_i e1
    injection h1 with h1
    exact .inr ⟨e,by simp,e1.symm,h1⟩
   ·exact .inl h1
  ·exact .inr ⟨x,by simp [hx],h2⟩
theorem vJ {t:Task} (hw:xY t) {tb:List rr} (hs:∀ e∈tb,isSet e.st t.facts=true) (hh:oM t (lr tb []) tb=true):∀ (plan:List Nat) (s:List Int),isSet s t.facts=true→ql t s plan→HX (lr tb []) s≤fA t plan
 |plan,s,cK,hwk=>by
  have hc:=vH hw plan
  unfold HX
  cases hl:lk (lr tb []) ((cY s:Nat):Int) with
  |none=>simp only [Option.getD_none];omega
  |some v=>
   simp only [Option.getD_some]
   rcases Db tb [] _ v hl with h1|⟨e,he,e1,e2⟩
   ·simp [lk] at h1
   ·have es:e.st=s:=Jv (hs e he) cK aj
    have h2:=List.all_eq_true.1 hh e he
    simp only [Bool.not_eq_true',decide_eq_false_iff_not] at h2
    rw [es,e2] at h2
    unfold nP at h2
    split at h2
    ·omega
    ·rename_i hg
     cases plan with
     |nil=>
      obtain ⟨x,hx,hy⟩:=hwk
      simp only [ix,Option.some.injEq] at hx
      subst hx
      exact absurd hy hg
     |cons i r=>
      obtain ⟨o,ho,hp,hr⟩:=u6.1 hwk
      obtain ⟨hi,eo⟩:=List.getElem?_eq_some_iff.1 ho
      have e0:t.ops[i]! =o:=by rw [getElem!_pos t.ops i hi,eo]
      have hk:=HZ (kv:=lr tb []) (i:=i) (s:=s) (t:=t) (by rw [e0];exact hp) t.ops.length hi
      rw [e0] at hk
      have ih:=vJ hw hs hh r (bC t.facts s o) (o5 hw.f0 s o) hr
      rw [fA,ho]
      simp only
      omega
theorem Av:∀ {s:List Int},s.Pairwise (· < ·)→(∀ x∈s,0≤x)→∀ i:Nat,(cY s).testBit i=hasB s (i:Int)
 |[],_,_,i=>by simp [cY,hasB]
 |x::r,hp,h0,i=>by
  have hpr:=List.pairwise_cons.1 hp
  have ih:=Av hpr.2 (fun y hy=>h0 y (by simp [hy])) i
  have hx:=h0 x ax
  obtain ⟨q,hq⟩:=ry (m:=x.toNat+1) (l:=r) fun y hy=>by have:=hpr.1 y hy;omega
  have hlt:2 ^ x.toNat < 2 ^ (x.toNat+1):=Nat.pow_lt_pow_right aj aj
  have e:cY (x::r)=2 ^ (x.toNat+1) * q||| 2 ^ x.toNat:=by
   rw [← Nat.two_pow_add_eq_or_of_lt hlt,cY,hq,Nat.add_comm]
  rw [e,Nat.testBit_or,← hq,ih,Nat.testBit_two_pow]
  have hc:hasB (x::r) (i:Int)=(decide (x.toNat=i)|| hasB r (i:Int)):=by
   rw [Bool.eq_iff_iff,Bool.or_eq_true,hZ,hZ,decide_eq_true_iff,List.mem_cons]
   exact or_congr_left aj
  rw [hc,Bool.or_comm]
theorem kx {s:List Int} {n:Int} (h:isSet s n=true) (i:Nat):(cY s).testBit i=hasB s (i:Int):=Av (cG.1 h).2 (fun x hx=>((cG.1 h).1 x hx).1) i
theorem jP {s:List Int} {n:Int} (h:isSet s n=true) (hn:n≤24):cY s < 2 ^ 24:=by
 refine CR (n:=24) (cG.1 h).2 fun x hx=>?_
 have:=(cG.1 h).1 x hx
 omega
theorem Dc {s p:List Int} {n:Int} (hs:isSet s n=true) (hp:isSet p n=true):cY s&&&cY p=cY p↔iG p s=true:=by
 rw [u9]
 constructor
 ·intro h x hx
  have h0:=(cG.1 hp).1 x hx
  have h1:=congrArg (fun z=>z.testBit x.toNat) h
  simp only [Nat.testBit_and,kx hs,kx hp,Int.toNat_of_nonneg h0.1] at h1
  rw [(hZ p x).mpr hx,Bool.and_true] at h1
  exact (hZ s x).mp h1
 ·intro h
  apply Nat.eq_of_testBit_eq
  intro i
  rw [Nat.testBit_and,kx hs,kx hp]
  cases hq:hasB p (i:Int) with
  |false=>simp
  |true=>rw [(hZ s _).mpr (h _ ((hZ p _).mp hq))];rfl
theorem EY {n:Int} {s:List Int} {o:Op} (h0:0≤n) (hn:n≤24) (hs:isSet s n=true) (ho:l9 o n=true):cY s&&&(4294967295 - cY o.del)||| cY o.add=cY (bC n s o):=by
 unfold l9 at ho
 simp only [Bool.and_eq_true] at ho
 obtain ⟨⟨⟨o1,o2⟩,o3⟩,o4⟩:=ho
 have hd:=jP o3 hn
 apply Nat.eq_of_testBit_eq
 intro i
 have e:4294967295 - cY o.del=2 ^ 32 - (cY o.del+1):=by omega
 rw [Nat.testBit_or,Nat.testBit_and,kx hs,kx o2,kx (o5 h0 s o),e,Nat.testBit_two_pow_sub_succ aj,kx o3]
 have hlt:∀ {l:List Int},isSet l n=true→hasB l (i:Int)=true→i < 24∧(i:Int) < n:=fun hl hi=>by
  have:=(cG.1 hl).1 _ ((hZ _ _).mp hi)
  omega
 rw [Bool.eq_iff_iff,hZ,tW]
 simp only [Bool.or_eq_true,Bool.and_eq_true,decide_eq_true_iff,Bool.not_eq_true',hZ,nK]
 constructor
 ·rintro (⟨h1,h2,h3⟩|h1)
  ·have:=hlt hs ((hZ _ _).mpr h1);exact ⟨by omega,.inr ⟨h1,h3⟩⟩
  ·have:=hlt o2 ((hZ _ _).mpr h1);exact ⟨by omega,.inl h1⟩
 ·rintro ⟨h1,h2|⟨h2,h3⟩⟩
  ·exact .inr h2
  ·have:=hlt hs ((hZ _ _).mpr h2);exact .inl ⟨h2,by omega,h3⟩
theorem K5 {a b:Nat} (ha:a < 2 ^ 24) (hb:b < 2 ^ 24):bits .and .u32 (a:Int) (b:Int)=((a&&&b:Nat):Int):=(bits_nat .u32 32 aw oW a b aj aj).1
theorem MA {n:Int} {s:List Int} {o:Op} (h0:0≤n) (hn:n≤24) (hs:isSet s n=true) (ho:l9 o n=true) :
  bits .or .u32 (bits .andNot .u32 ((cY s:Nat):Int) ((cY o.del:Nat):Int)) ((cY o.add:Nat):Int)=((cY (bC n s o):Nat):Int):=by
 have h1:=jP hs hn
 have ho':=ho
 unfold l9 at ho'
 simp only [Bool.and_eq_true] at ho'
 have h2:=jP ho'.1.2 hn
 have h3:=jP ho'.1.1.2 hn
 have h4:cY s&&&(4294967295 - cY o.del) < 2 ^ 24:=Nat.lt_of_le_of_lt Nat.and_le_left h1
 rw [u32_andNot_nat _ _ aj aj]
 rw [(bits_nat .u32 32 aw oW _ (cY o.add) aj aj).2,EY h0 hn hs ho]
end Go.Proofs.YtkbiagkbmodgdaaGreat
namespace Go.Proofs.YtkbiagkbmodgdaaGreat
open Go.Ab
open Go
set_option maxRecDepth 10000
attribute [local irreducible] dE fh mC lW db PV eR ef AW bg dn ec dP cO Ab.Fin ft en gI iO RV jX Le eI fM mg gV kf dz dg
set_option maxHeartbeats 8000000
abbrev Aw (l:List SSet):AV:=.cr 2 48 (l.map SSet.av)
instance:Inhabited SSet:=⟨⟨[],[]⟩⟩
def MB (L:Int) (c:SSet):Bool:=isSet c.ia L&&isSet c.no L&&qk c.ia c.no
def pI (L:Int) (l:List SSet) (i:Nat):Option (Int×Int):=if MB L l[i]! =true then none else some (5,(i:Int))
def jq (t:Task) (l:List SSet):Int×Int:=if cW t≠(0,0) then cW t else if 2000 < l.length then (2,-8) else (bD (pI t.facts l) l.length).getD (0,0)
theorem k8 {α:Type} {g:Nat→Option α}:∀ {n k:Nat},bD g n=none→k < n→g k=none
 |0,k,_,h=>by omega
 |n+1,k,hn,h=>by
  rw [bD,Option.or_eq_none_iff] at hn
  by_cases e:k=n
  ·subst e;exact hn.2
  ·exact k8 hn.1 aj
theorem Dd {t:Task} {l:List SSet} (h:jq t l=(0,0)):xY t∧l.length≤2000∧∀ c∈l,GD t.facts c:=by
 unfold jq at h
 split at h
 ·rename_i h1;exact absurd h h1
 ·rename_i h1
  split at h
  ·simp at h
  ·rename_i h2
   refine ⟨ru.1 (Decidable.not_not.1 h1),by omega,fun c hc=>?_⟩
   cases hf:bD (pI t.facts l) l.length with
   |some q=>
    rw [hf] at h
    simp only [Option.getD_some] at h
    subst h
    obtain ⟨i,_,hg⟩:=dN hf
    unfold pI at hg
    split at hg<;>simp at hg
   |none=>
    obtain ⟨i,hi,rfl⟩:=List.getElem_of_mem hc
    have h3:=k8 hf hi
    unfold pI at h3
    rw [bY hi] at h3
    split at h3
    ·rename_i h4
     unfold MB at h4
     simp only [Bool.and_eq_true] at h4
     exact ⟨h4.1.1,h4.1.2⟩
    ·cases h3
theorem xm {t:Task} {l:List SSet} (h:jq t l≠(0,0)):(jq t l).1≠0:=by
 unfold jq at h ⊢
 split
 ·rename_i h1;exact tV h1
 ·rename_i h1
  rw [if_neg h1] at h
  split
  ·simp
  ·rename_i h2
   rw [if_neg h2] at h
   cases hf:bD (pI t.facts l) l.length with
   |none=>rw [hf] at h;exact absurd rfl h
   |some q=>
    obtain ⟨i,_,hg⟩:=dN hf
    unfold pI at hg
    split at hg
    ·cases hg
    ·injection hg with hg;subst hg;simp
theorem De (t:Task) (l:List SSet):bg Tryz.prog 61 [t.av,Aw l] (fun r=>r=jL (jq t l)):=by
 by_cases hf:cW t=(0,0)
 ·have hv:=HW hf
  by_cases h2:2000 < l.length
  ·have e:jq t l=(2,-8):=by unfold jq;rw [if_neg (by simp [hf]),if_pos h2]
   rw [e]
   (refine bh Tryz.func61 Tryz.ntmps61 ?_)
   (refine cL (i:=1) rfl (fun hb=>?_);(try simp only [List.length_map] at hb))
   (repeat' (first|(refine hK _ ?_;clear hK K)|(refine aM (fun K hK=>?_))|(refine gR ?_;refine aP ?_)|(refine gC 128 ?_;refine bp (hv) ?_)|(refine gE ?_;refine cc ?_)|(refine gQ ?_;(first|(refine bT ?_)|(refine aS (fun hc=>?_) (fun hc=>?_)<;>(try (first|contradiction|omega)))))|(refine gT ?_;refine aZ ?_)|(refine gS ?_;refine aX ?_)))
   all_goals (refine aT (Le.refl _) (aQ (bt (by first|exact bF ab ab ab ab|exact br ab ab ab aq))) af ?_)
   all_goals rfl
  ·have e:jq t l=(bD (pI t.facts l) l.length).getD (0,0):=by unfold jq;rw [if_neg (by simp [hf]),if_neg h2]
   rw [e]
   (refine bh Tryz.func61 Tryz.ntmps61 ?_)
   (refine cL (i:=1) rfl (fun hb=>?_);(try simp only [List.length_map] at hb))
   (repeat' (first|(refine hK _ ?_;clear hK K)|(refine aM (fun K hK=>?_))|(refine gR ?_;refine aP ?_)|(refine gC 128 ?_;refine bp (hv) ?_)|(refine gE ?_;refine cc ?_)|(refine gQ ?_;(first|(refine bT ?_)|(refine aS (fun hc=>?_) (fun hc=>?_)<;>(try (first|contradiction|omega)))))|(refine aN ?_)|(refine gS ?_;refine aX ?_)))
   refine bO [6,7,20,21,22,23,24,25,26,27,28,29,30,31,32,33,34,35,36,37,38,39,40,41,42,43,44,45,46,47,48] (fun k:Nat=>k≤l.length∧bD (pI t.facts l) k=none) (fun k=>l.length - k) (fun k=>[(20,.int k)]) (fun _=>[(2,⟨38,t.cs,true⟩),(4,⟨42,[.int 0,.int 0],true⟩)]) 0 ⟨by omega,rfl⟩ ?_ ?_
   ·(refine cm ?_)
    (exact bd)
   ·rintro k ⟨hk,hn⟩ K hK
    (refine cm ?_)
    by_cases hlt:k < l.length
    ·have e1:=kU l[k].ia t.facts
     have e2:=kU l[k].no t.facts
     have hg:pI t.facts l k=if MB t.facts l[k]=true then none else some (5,(k:Int)):=by unfold pI;rw [bY hlt]
     cases h1:isSet l[k].ia t.facts with
     |false=>
      rw [h1] at e1
      rw [MB,h1,if_neg ax] at hg
      (repeat' (first|(refine hK _ ?_;clear hK K)|(refine aM (fun K hK=>?_))|(refine gR ?_;refine aP ?_)|(refine gC 129 ?_;refine bp (e1) ?_)|(refine gE ?_;(first|(refine cc ?_)|(refine dL (fun _=>?_))))|(refine gQ ?_;(first|(refine cf ?_)|(refine aS (fun hc=>?_) (fun hc=>?_)<;>(try (first|contradiction|omega)))))|(refine aN ?_)|(refine gT ?_;refine aZ ?_)|(refine gS ?_;refine aX ?_)))
      (refine aT (Le.refl _) (aQ (bt (by first|exact bF ab ab ab ab|exact br ab ab ab aq))) af ?_)
      rw [cQ hn hg hlt]
      rfl
     |true=>
      rw [h1] at e1
      cases h2:isSet l[k].no t.facts with
      |false=>
       rw [h2] at e2
       rw [MB,h2,if_neg ax] at hg
       (repeat' (first|(refine hK _ ?_;clear hK K)|(refine aM (fun K hK=>?_))|(refine gR ?_;refine aP ?_)|(refine gC 129 ?_;refine bp (e1) ?_)|(refine gC 129 ?_;refine bp (e2) ?_)|(refine gE ?_;(first|(refine cc ?_)|(refine dL (fun _=>?_))))|(refine gQ ?_;(first|(refine cf ?_)|(refine aS (fun hc=>?_) (fun hc=>?_)<;>(try (first|contradiction|omega)))))|(refine aN ?_)|(refine gT ?_;refine aZ ?_)|(refine gS ?_;refine aX ?_)))
       (refine aT (Le.refl _) (aQ (bt (by first|exact bF ab ab ab ab|exact br ab ab ab aq))) af ?_)
       rw [cQ hn hg hlt]
       rfl
      |true=>
       rw [h2] at e2
       have e3:=pc l[k].ia l[k].no t.facts h2
       cases h3:qk l[k].ia l[k].no with
       |false=>
        rw [h3] at e3
        rw [MB,h3,if_neg ax] at hg
        (repeat' (first|(refine hK _ ?_;clear hK K)|(refine aM (fun K hK=>?_))|(refine gR ?_;refine aP ?_)|(refine gC 129 ?_;refine bp (e1) ?_)|(refine gC 129 ?_;refine bp (e2) ?_)|(refine gC 66 ?_;refine bp (e3) ?_)|(refine gE ?_;(first|(refine cc ?_)|(refine dL (fun _=>?_))))|(refine gQ ?_;(first|(refine cf ?_)|(refine aS (fun hc=>?_) (fun hc=>?_)<;>(try (first|contradiction|omega)))))|(refine aN ?_)|(refine gT ?_;refine aZ ?_)|(refine gS ?_;refine aX ?_)))
        (refine aT (Le.refl _) (aQ (bt (by first|exact bF ab ab ab ab|exact br ab ab ab aq))) af ?_)
        rw [cQ hn hg hlt]
        rfl
       |true=>
        rw [h3] at e3
        rw [MB,h1,h2,h3,if_pos ab] at hg
        (repeat' (first|(refine hK _ ?_;clear hK K)|(refine aM (fun K hK=>?_))|(refine gR ?_;refine aP ?_)|(refine gC 129 ?_;refine bp (e1) ?_)|(refine gC 129 ?_;refine bp (e2) ?_)|(refine gC 66 ?_;refine bp (e3) ?_)|(refine gE ?_;(first|(refine cc ?_)|(refine dL (fun _=>?_))))|(refine gQ ?_;(first|(refine bT ?_)|(refine aS (fun hc=>?_) (fun hc=>?_)<;>(try (first|contradiction|omega)))))|(refine aN ?_)|(refine gS ?_;refine aX ?_)))
        (refine ⟨k+1,⟨by omega,dy hn hg⟩,by omega,?_⟩;(refine cm ?_);(exact bd))
    ·obtain rfl:k=l.length:=by omega
     (repeat' (first|(refine hK _ ?_;clear hK K)|(refine aM (fun K hK=>?_))|(refine gR ?_;refine aP ?_)|(refine gE ?_;refine cc ?_)|(refine gQ ?_;refine aS (fun hc=>?_) (fun hc=>?_)<;>(try (first|contradiction|omega)))|(refine gX ?_;refine bV ?_)|(refine gT ?_;refine aZ ?_)|(apply_assumption (exfalso:=false) (symm:=false))))
     (refine aT (Le.refl _) (aQ (bt (by first|exact bF ab ab ab ab|exact br ab ab ab aq))) af ?_)
     rw [hn]
     rfl
 ·have hac:=tV hf
  have e:jq t l=cW t:=by unfold jq;rw [if_pos hf]
  rw [e]
  (refine bh Tryz.func61 Tryz.ntmps61 ?_)
  (repeat' (first|(refine hK _ ?_;clear hK K)|(refine aM (fun K hK=>?_))|(refine gR ?_;refine aP ?_)|(refine gC 128 ?_;refine bp (oI _) ?_)|(refine gE ?_;refine cc ?_)|(refine gQ ?_;refine aS (fun hc=>?_) (fun hc=>?_)<;>(try (first|contradiction|omega)))|(refine gT ?_;refine aZ ?_)))
  all_goals (refine aT (Le.refl _) (aQ (bt (by first|exact bF ab ab ab ab|exact br ab ab ab aq))) af ?_)
  all_goals rfl
theorem EZ (a b:List Int) (ha:a.length≤1000) (hb:b.length≤1000):bg Tryz.prog 138 [ints a,ints b] (fun r=>r=ints (nX a b [])):=by
 have hu:=mI (args':=[ints a,ints b,.fS]) (pj a b [] ha hb List.Pairwise.nil) ⟨iP.iB _,iP.iB _,iP.nil 1 8,trivial⟩
 (refine bh Tryz.func138 Tryz.ntmps138 ?_)
 (repeat' (first|(refine hK _ ?_;clear hK K)|(refine aM (fun K hK=>?_))|(refine gR ?_;refine aP ?_)|(refine gC 137 ?_;refine bp (hu) ?_)|(refine gT ?_;refine aZ ?_)))
 (refine aT (Le.refl _) (aQ (aO ab)) af ?_)
 rfl
def MC:Option SSet→List AV
 |some nx=>[nx.av,.bool true]
 |none=>[.agg [.v (.slice none 0 0),.v (.slice none 0 0)],.bool false]
theorem H2 (L:Int) (h0L:0≤L) (hL:L≤24) (c:SSet) (o:Op) (hc:GD L c) (ho:l9 o L=true):bg Tryz.prog 67 [c.av,o.av] (fun r=>r= .dr (MC (jJ c o))):=by
 obtain ⟨n,rfl⟩:∃ n:Nat,L=n:=⟨L.toNat,by omega⟩
 have ho':=ho
 unfold l9 at ho'
 simp only [Bool.and_eq_true] at ho'
 obtain ⟨⟨⟨o1,o2⟩,o3⟩,o4⟩:=ho'
 have q1:=lN hc.n
 have q2:=lN hc.o
 have q3:=lN o1
 have q4:=lN o2
 have q5:=lN o3
 have e3:=pc o.pre c.no n hc.o
 cases hd:qk o.pre c.no with
 |false=>
  rw [hd] at e3
  have e:jJ c o=none:=by unfold jJ;rw [if_pos hd]
  rw [e]
  (refine bh Tryz.func67 Tryz.ntmps67 ?_)
  (repeat' (first|(refine hK _ ?_;clear hK K)|(refine aM (fun K hK=>?_))|(refine gR ?_;refine aP ?_)|(refine gC 66 ?_;refine bp (e3) ?_)|(refine gE ?_;refine cc ?_)|(refine gQ ?_;refine cf ?_)|(refine gT ?_;refine aZ ?_)))
  (refine aT (Le.refl _) (dx (bt (by first|exact bF ab ab ab ab|exact br ab ab ab aq)) (aO ab)) af ?_)
  rfl
 |true=>
  rw [hd] at e3
  have e:jJ c o=some ⟨nX (nX c.ia o.pre []) o.add o.del,nX c.no o.del o.add⟩:=by unfold jJ;rw [if_neg (by simp [hd])]
  have hu:=oE hc.n o1 (del:=[])
  have q6:=lN hu
  have c1:=EZ c.ia o.pre aj aj
  have c2:=pj (nX c.ia o.pre []) o.add o.del aj aj (cG.1 o3).2
  have c3:=pj c.no o.del o.add aj aj (cG.1 o2).2
  rw [e]
  generalize nX c.ia o.pre []=u at *
  generalize nX u o.add o.del=v at *
  generalize nX c.no o.del o.add=w at *
  (refine bh Tryz.func67 Tryz.ntmps67 ?_)
  (repeat' (first|(refine hK _ ?_;clear hK K)|(refine aM (fun K hK=>?_))|(refine gR ?_;refine aP ?_)|(refine gD 3 ?_;refine fg (.it 0 0 (.it 1 0 (.it 2 0 (.it 3 0 (.it 5 0 (.it 6 0 (.it 7 0 (.it 8 0 (.it 4 1 (.it 9 1 (.it 10 0 .nil))))))))))) [0,1,2,3,5,6,7,8,10] ?_)|(refine gC 66 ?_;refine bp (e3) ?_)|(refine kK 138 ?_;refine dw (c1) ?_)|(refine kK 137 ?_;refine dw (c2) ?_)|(refine gC 137 ?_;refine bp (c3) ?_)|(refine gE ?_;refine cc ?_)|(refine gQ ?_;refine bT ?_)|(refine gT ?_;refine aZ ?_)|(refine gS ?_;refine aX ?_)))
  (refine aT (Le.refl _) (dx (bt (by first|exact bF ab ab ab ab|exact br ab ab ab aq)) (aO ab)) af ?_)
  rfl
theorem jW (xs:List Int) (n:Int) (hs:isSet xs n=true) (hn:n≤24):bg Tryz.prog 65 [ints xs] (fun r=>r= .v (.int .u32 (cY xs:Nat))):=by
 have hb:=jP hs hn
 have hm:=(cG.1 hs).1
 (refine bh Tryz.func65 Tryz.ntmps65 ?_)
 (refine cL (i:=0) rfl (fun hb0=>?_);(try simp only [List.length_map] at hb0))
 (repeat' (first|(refine hK _ ?_;clear hK K)|(refine aM (fun K hK=>?_))|(refine gR ?_;refine aP ?_)|(refine aN ?_)))
 refine bO [3,5,8,9,10,11,12,13,14,15,16] (fun k:Nat=>k≤xs.length) (fun k=>xs.length - k) (fun k=>[(3,.v (.int .u32 (cY (xs.take k):Nat))),(8,.int k)]) (fun _=>[]) 0 aj ?_ ?_
 ·(refine cm ?_)
  (exact bd)
 ·rintro k hk K hK
  (refine cm ?_)
  by_cases hlt:k < xs.length
  ·have h1:=hm xs[k] (List.getElem_mem hlt)
   have h2:=EU hlt
   have h3:=yv (xs:=xs) (k+1)
   have h4:cY (xs.take k) < 2 ^ xs[k].toNat:=CR ((cG.1 hs).2.sublist (List.take_sublist ..)) fun x hx=>by
    have h5:=hm x (List.mem_of_mem_take hx)
    obtain ⟨i,hi,rfl⟩:=List.getElem_of_mem hx
    rw [List.length_take] at hi
    have:=List.pairwise_iff_getElem.1 (cG.1 hs).2 i k aj hlt aj
    rw [List.getElem_take] at h5 ⊢
    omega
   have h5:=wa h1.1 aj h4
   rw [← h2] at h5
   have e2:(1 * 2 ^ xs[k].toNat:Int)=((2 ^ xs[k].toNat:Nat):Int):=by rw [Int.one_mul,Int.natCast_pow];rfl
   have h6:(2 ^ xs[k].toNat:Nat) < 2 ^ 24:=Nat.pow_lt_pow_right aw aj
   obtain ⟨g,hg⟩:∃ g:Nat,2 ^ xs[k].toNat=g:=⟨_,rfl⟩
   rw [hg] at e2 h6
   (repeat' (first|(refine hK _ ?_;clear hK K)|(refine aM (fun K hK=>?_))|(refine gR ?_;refine aP ?_)|(refine gE ?_;(first|(refine cc ?_)|(refine dL (fun _=>?_))))|(refine gQ ?_;refine aS (fun hc=>?_) (fun hc=>?_)<;>(try (first|contradiction|omega)))|(refine aN ?_)|(refine gS ?_;refine aX ?_)))
   refine ⟨k+1,by omega,by omega,?_⟩
   rw [← h5]
   (refine cm ?_)
   (exact bd)
  ·obtain rfl:k=xs.length:=by omega
   (repeat' (first|(refine hK _ ?_;clear hK K)|(refine aM (fun K hK=>?_))|(refine gR ?_;refine aP ?_)|(refine gQ ?_;refine aS (fun hc=>?_) (fun hc=>?_)<;>(try (first|contradiction|omega)))|(refine gX ?_;refine bV ?_)|(refine gT ?_;refine aZ ?_)|(apply_assumption (exfalso:=false) (symm:=false))))
   (refine aT (Le.refl _) (aQ (aO ab)) af ?_)
   rw [List.take_length]
end Go.Proofs.YtkbiagkbmodgdaaGreat
namespace Go.Proofs.YtkbiagkbmodgdaaGreat
open Go.Ab
open Go
set_option maxRecDepth 10000
attribute [local irreducible] dE fh mC lW db PV eR ef AW bg dn ec dP cO Ab.Fin ft en gI iO RV jX Le eI fM mg gV kf dz dg
set_option maxHeartbeats 16000000
theorem Km {t:Task} {l:List SSet} {p:Int×Int} (e:jq t l=p):bg Tryz.prog 61 [t.av,Aw l] (fun r=>r=jL p):=by
 have:=De t l
 rw [e] at this
 exact this
theorem H3 (L:Int) (h0L:0≤L) (hL:L≤24) (w:Nat) (S:eB) (h:ma L S) (hw:w < 2 ^ 24) (hb:S.ns.length+24≤DB) :
  cO Tryz.prog 64 [.ptr 700 0,.v (.int .u32 w)] (jr L S) [] [700] (fun x hp=>x= .int (jU (fun i=>w.testBit i) L.toNat S 1).2∧hp=jr L (jU (fun i=>w.testBit i) L.toNat S 1).1):=by
 obtain ⟨n,rfl⟩:∃ n:Nat,L=n:=⟨L.toNat,by omega⟩
 exact JJ n aj w S h hw hb
theorem B7 (t:Task) (l:List SSet) (hf:jq t l≠(0,0)):bg Tryz.prog 24 [t.av,Aw l] (fun r=>r= .dr [.bool false,jL (jq t l)]):=by
 have hac:=xm hf
 have hv:=De t l
 (refine bh Tryz.func24 Tryz.ntmps24 ?_)
 (repeat' (first|(refine hK _ ?_;clear hK K)|(refine aM (fun K hK=>?_))|(refine gR ?_;refine aP ?_)|(refine gD 3 ?_;refine fg (.it 0 0 (.it 1 0 (.it 2 3 .nil))) [0,1] ?_)|(refine gC 61 ?_;refine bp (hv) ?_)|(refine gO ?_;refine jZ ?_)|(refine gE ?_;refine cc ?_)|(refine gQ ?_;refine aS (fun hc=>?_) (fun hc=>?_)<;>(try (first|contradiction|omega)))|(refine gT ?_;refine aZ ?_)))
 all_goals (refine aT (Le.refl _) (dx (aO ab) (bt (by first|exact bF ab ab ab ab|exact br ab ab ab aq))) af ?_)
 all_goals rfl
theorem Kn (t:Task) (l:List SSet) (hf:jq t l=(0,0)):bg Tryz.prog 24 [t.av,Aw l] (fun r=>r= .dr [.bool (td t l),fault 0 0]):=by
 have hv:=Km hf
 obtain ⟨hw,hl2,hs⟩:=Dd hf
 have h0L:=hw.f0
 have hL:=hw.f1
 (refine bh Tryz.func24 Tryz.ntmps24 ?_)
 (repeat' (first|(refine hK _ ?_;clear hK K)|(refine aM (fun K hK=>?_))|(refine fH 4 ab ?_;refine aP ?_)|(refine gC 61 ?_;refine bp (hv) ?_)|(refine gE ?_;refine cc ?_)|(refine gQ ?_;refine bT ?_)|(refine gS ?_;refine aX ?_)))
 (refine cT (bQ 2 rfl rfl rfl) ?_;simp only [go_sem,seval])
 refine gR ?_;refine aP ?_
 refine bn (fun KN hKN=>?_)
 (refine nA 1000000001 Tryz.func62 Tryz.ntmps62 aw aw ae ae ae ?_)
 (repeat' (first|(refine hK _ ?_;clear hK K)|(refine aM (fun K hK=>?_))|(refine fH 1 ab ?_;refine aP ?_)|fail))
 refine dG ?_
 refine cp rfl (fun K0 hK0=>?_)
 refine bK cR ?_
 simp only [go_sem,seval];refine hK0 _ ?_;clear hK0 K0
 refine cp rfl (fun K0 hK0=>?_)
 (refine nA 1000000002 Tryz.func130 Tryz.ntmps130 aw aw ae ae ae ?_)
 (repeat' (first|(refine hK _ ?_;clear hK K)|(refine aM (fun K hK=>?_))|(refine fH 1 ab ?_;refine aP ?_)|fail))
 refine dG ?_
 refine cp rfl (fun K1 hK1=>?_)
 refine bK cR ?_
 simp only [go_sem,seval];refine hK1 _ ?_;clear hK1 K1
 refine cp rfl (fun K1 hK1=>?_)
 refine jR (d:=4) 2000000001 aw ae aI ?_
 simp only [go_sem,seval];refine hK1 _ ?_;clear hK1 K1
 refine cp rfl (fun K1 hK1=>?_)
 refine jR (d:=5) 2000000002 aw ae aI ?_
 simp only [go_sem,seval];refine hK1 _ ?_;clear hK1 K1
 refine cp rfl (fun K1 hK1=>?_)
 refine bK (qL ab) ?_
 simp only [go_sem,seval];refine hK1 _ ?_;clear hK1 K1
 refine cp rfl (fun K1 hK1=>?_)
 refine ke (d:=7) 700 ae (.inr ⟨_,rfl⟩) ae ?_
 simp only [go_sem,seval];refine hK1 _ ?_;clear hK1 K1
 refine Cj ?_
 (repeat' (first|(refine hK _ ?_;clear hK K)|(refine gW ?_;refine bN ?_)|(refine gT ?_;refine aZ ?_)))
 (refine ⟨_,_,_,Le.refl _,(aQ (aO ab)),by rfl,?_⟩;simp only [go_sem,seval])
 refine hK0 _ ?_
 clear hK0 K0
 refine cp rfl (fun K1 hK1=>?_)
 refine bK (qL ab) ?_
 simp only [go_sem,seval];refine hK1 _ ?_;clear hK1 K1
 refine cp rfl (fun K1 hK1=>?_)
 refine ke (d:=11) 702 ae (.inr ⟨_,rfl⟩) ae ?_
 simp only [go_sem,seval];refine hK1 _ ?_;clear hK1 K1
 refine Cj ?_
 (repeat' (first|(refine hK _ ?_;clear hK K)|(refine aM (fun K hK=>?_))|(refine gW ?_;refine bN ?_)))
 (refine cT (iD 700 1 701 3 24 270 ab ab al) ?_;simp only [go_sem,seval])
 refine gR ?_;refine aP ?_
 (repeat' (first|(refine hK _ ?_;clear hK K)|(refine aN ?_)))
 have hG:zS=16777216:=rfl
 have hDB:DB=5000000000000:=rfl
 obtain ⟨RR,hRR⟩:∃ r,r=ve t.facts l S0 0:=⟨_,rfl⟩
 refine bU [7,14,15,16,17,18,19,20,21,22,23,24,25,26,27,28,29,30,31,32,33] (fun q:Nat×eB×Int=>q.1≤l.length∧ma t.facts q.2.1∧Vd q.2.1.ns q.2.2∧ve t.facts (l.drop q.1) q.2.1 q.2.2=RR∧q.2.1.ns.length≤q.1 * 16778416) (fun q=>l.length - q.1) (fun q=>[(14,.int q.1)]) (fun q=>JM t.facts q.2.1 q.2.2) (0,S0,0) ⟨Nat.zero_le _,KV _,v0 _,by rw [hRR];rfl,by simp [S0]⟩ ?_ ?_
 ·(refine cm ?_)
  (exact bd)
 ·rintro ⟨k,T,a⟩ ⟨hk,hT,ha,he,hn⟩ K hK
  simp only at hk hT ha he hn ⊢
  (refine cm ?_)
  by_cases hlt:k < l.length
  ·have hcok:=(hs l[k] (List.getElem_mem hlt)).OF h0L hL
   rw [List.drop_eq_getElem_cons hlt] at he
   unfold ve at he
   simp only at he
   have r1:=rG h0L hL hcok hT
   have c1:=Ac t.facts h0L hL T a l[k] hcok hT aj
   generalize mU t.facts l[k] T=x at he r1 c1
   have g1:=r1.gr.len
   have va:=r1.gr.vd ha
   have c2:=NY t.facts h0L hL x.1 a x.2 r1.ok va r1.vd aj
   have r2:=fe h0L (.inr rfl) t.facts.toNat x.1 a x.2 r1.ok va r1.vd (mb h0L r1.ok va r1.vd)
   have ez:di t.facts 1 t.facts.toNat x.1 a x.2=fC t.facts 1 x.1 a x.2:=rfl
   rw [ez] at r2
   generalize fC t.facts 1 x.1 a x.2=z at he r2 c2
   have g2:=r2.gr.len
   have hp:=qn hL
   (repeat' (first|(refine hK _ ?_;clear hK K)|(refine aM (fun K hK=>?_))|(refine fH 5 ab ?_;refine aP ?_)|(refine gE ?_;(first|(refine cc ?_)|(refine dL (fun _=>?_))))|(refine gQ ?_;refine aS (fun hc=>?_) (fun hc=>?_)<;>(try (first|contradiction|omega)))|(refine aN ?_)|(refine gS ?_;refine aX ?_)))
   (refine cT (bQ 7 rfl rfl rfl) ?_;simp only [go_sem,seval])
   refine nJ [.ptr 702 0,.ptr 702 0,.ptr 702 0,.ptr 702 0,.ptr 700 0,.ptr 702 0,.ptr 702 0,.ptr 702 1,.int a,.ptr 702 0,l[k].av,.int x.2,.int z.2,.ptr 702 0,.ptr 702 1,.any] [[5],[5],[19],[20],[21],[5],[23],[24],[25],[5],[7],[27,28],[22,26,29],[18],[31],[30,32]] [11,12,15] [(0,0),(0,1),(0,2),(1,0),(1,1),(2,0),(2,1),(3,0),(3,1),(4,0),(4,1),(5,0),(5,1),(6,0),(6,1),(7,0),(7,1),(8,0),(8,1),(9,0),(10,0),(13,2),(14,2)] [fun h=>JM t.facts x.1 a++eZ (aV (JM t.facts T a)++[]) [702,700] h,fun h=>jr t.facts z.1++eZ (aV (jr t.facts x.1)++[]) [700] h,fun h=>cK h 702 ⟨129,[.ptr 700 0,.int z.2],true⟩] ab ah au (all_cons ⟨_,rfl,rfl,(by first|exact ba (cR) ab)⟩ (all_cons ⟨_,rfl,rfl,(by first|exact ba (cR) ab)⟩ (all_cons ⟨_,rfl,rfl,(by first|exact ba (cR) ab)⟩ (all_cons ⟨_,rfl,rfl,(by first|exact ba (cR) ab)⟩ (all_cons ⟨_,rfl,rfl,(by first|exact ba (cR) ab)⟩ (all_cons ⟨_,rfl,rfl,(by first|exact ba (cu ab) ab|exact ba (b8 ab) ab|exact ba (b9 ab) ab)⟩ (all_cons ⟨_,rfl,rfl,(by first|exact ba (cu ab) ab|exact ba (b8 ab) ab|exact ba (b9 ab) ab)⟩ (all_cons ⟨_,rfl,rfl,(by first|exact ba (bl ab ab ak) ab|exact ba (bm ab ab ak) ab)⟩ (all_cons ⟨_,rfl,rfl,(by first|exact ba (bl ab ab ak) ab|exact ba (bm ab ab ak) ab)⟩ (all_cons ⟨_,rfl,rfl,aR⟩ (all_cons ⟨_,rfl,rfl,aR⟩ (all_cons ⟨_,rfl,rfl,(by first|exact ba (cR) ab)⟩ (all_cons ⟨_,rfl,rfl,(by first|exact ba (cR) ab)⟩ (all_cons ⟨_,rfl,rfl,(by first|exact ba (cu ab) ab|exact ba (b8 ab) ab|exact ba (b9 ab) ab)⟩ (all_cons ⟨_,rfl,rfl,(by first|exact ba (cu ab) ab|exact ba (b8 ab) ab|exact ba (b9 ab) ab)⟩ (all_cons ⟨_,rfl,rfl,(by first|exact ba (bl ab ab ak) ab|exact ba (bm ab ab ak) ab)⟩ (all_cons ⟨_,rfl,rfl,(by first|exact ba (bl ab ab ak) ab|exact ba (bm ab ab ak) ab)⟩ (all_cons ⟨_,rfl,rfl,aR⟩ (all_cons ⟨_,rfl,rfl,aR⟩ (all_cons ⟨_,rfl,rfl,(by first|exact ba (cR) ab)⟩ (all_cons ⟨_,rfl,rfl,aR⟩ (all_cons ⟨_,rfl,rfl,(by first|exact ba (cu ab) ab|exact ba (b8 ab) ab|exact ba (b9 ab) ab)⟩ (all_cons ⟨_,rfl,rfl,(by first|exact ba (bl ab ab ak) ab|exact ba (bm ab ab ak) ab)⟩ all_nil))))))))))))))))))))))) (dS (fun f hfl hU hfm K1 hK1=>⟨_,rfl,rfl,(by (refine bI (by rw [eM hU ab];exact c1) (by (repeat (first|exact bP|refine bA ab ?_))) (fun _ h=>by cases h) ab (fun x hp' hx=>?_);obtain ⟨rfl,rfl⟩:=hx;rw [fb hfm (by repeat (first|exact all_nil|refine all_cons ab ?_)) (by repeat (first|exact all_nil|refine all_cons ab ?_))];exact hK1))⟩) (dS (fun f hfl hU hfm K1 hK1=>⟨_,rfl,rfl,(by (refine bI (by rw [eM hU ab];exact c2) (by (repeat (first|exact bP|refine bA ab ?_))) (fun _ h=>by cases h) ab (fun x hp' hx=>?_);obtain ⟨rfl,rfl⟩:=hx;rw [fb hfm (by repeat (first|exact all_nil|refine all_cons ab ?_)) (by repeat (first|exact all_nil|refine all_cons ab ?_))];exact hK1))⟩) (dS (fun f hfl hU hfm K1 hK1=>⟨_,rfl,rfl,(by (refine qi (by rw [nI hU ab];exact rfl) (by first|exact nI hU ab|rfl) ab ab (by first|exact .inl rfl|exact .inr ⟨_,rfl⟩) ab (by exact of_decide_eq_true ab) ?_;exact hK1))⟩) nH))) ?_
   simp only [go_sem,seval,dj,aV,CJ,List.length_cons,List.length_nil]
   (repeat' (first|(refine hK _ ?_;clear hK K)|(refine gR ?_;refine aP ?_)|(refine gE ?_;refine cc ?_)))
   refine ⟨(k+1,z.1,z.2),⟨by simp only;omega,r2.ok,r2.vd,he,by simp only;omega⟩,by simp only;omega,?_⟩
   (refine cm ?_)
   (exact bd)
  ·obtain rfl:k=l.length:=by omega
   rw [List.drop_length,ve] at he
   (repeat' (first|(refine hK _ ?_;clear hK K)|(refine aM (fun K hK=>?_))|(refine gR ?_;refine aP ?_)|(refine gQ ?_;refine aS (fun hc=>?_) (fun hc=>?_)<;>(try (first|contradiction|omega)))|(refine gX ?_;refine bV ?_)|(refine gT ?_;refine aZ ?_)|(apply_assumption (exfalso:=false) (symm:=false))))
   (refine ⟨_,_,_,Le.refl _,(aQ (aO ab)),by rfl,?_⟩;simp only [go_sem,seval])
   refine hKN _ ?_
   clear hKN
   have hbit:(fun i:Nat=>(cY t.init).testBit i)=fun i:Nat=>hasB t.init (i:Int):=funext fun i=>kx hw.init i
   have hwb:=jP hw.init hL
   have hlen:T.ns.length≤33556832000:=by omega
   have cw:=jW t.init t.facts hw.init hL
   have c1:=H3 t.facts h0L hL (cY t.init) T hT hwb aj
   have r1:=vf (fun i=>hasB t.init i) t.facts.toNat T 1 aj hT (v1 _) (by rw [ir _ _ aj];omega)
   rw [hbit] at c1
   have hdead:td t l=if (x8 t T a).2=0 then false else (pE t.facts a t.goal t.ops l (x8 t T a).1).2:=by
    unfold td;simp only;rw [← hRR,← he]
   have hini:x8 t T a=fC t.facts 0 (jU (fun i=>hasB t.init i) t.facts.toNat T 1).1 (jU (fun i=>hasB t.init i) t.facts.toNat T 1).2 a:=rfl
   rw [hini] at hdead
   clear hini hbit
   generalize jU (fun i=>hasB t.init i) t.facts.toNat T 1=c at *
   have g1:=r1.gr.len
   have va:=r1.gr.vd ha
   have c2:=yj t.facts h0L hL c.1 c.2 a r1.ok r1.vd va aj
   have r2:=fe h0L (.inl rfl) t.facts.toNat c.1 c.2 a r1.ok r1.vd va (mb h0L r1.ok r1.vd va)
   have ez:di t.facts 0 t.facts.toNat c.1 c.2 a=fC t.facts 0 c.1 c.2 a:=rfl
   rw [ez] at r2
   generalize fC t.facts 0 c.1 c.2 a=z at *
   have g2:=r2.gr.len
   have hp:=qn hL
   have vz:=r2.gr.vd va
   (repeat' (first|(refine aM (fun K hK=>?_))|(refine gW ?_;refine bN ?_)|(apply_assumption (exfalso:=false) (symm:=false))))
   refine nJ [.ptr 702 0,.ptr 702 0,.ptr 702 0,.ptr 700 0,.ptr 702 0,.ptr 702 0,.ptr 702 0,.ptr 700 0,.bx [ints t.init,ints t.goal,JK t.ops],ints t.init,.v (.int .u32 (cY t.init:Nat)),.int c.2,.ptr 702 0,.ptr 702 0,.ptr 702 1,.int a,.int z.2,.bool (decide (z.2=0))] [[7],[25],[26],[27],[7],[29],[30],[31],[2],[33],[34],[32,35],[7],[37],[38],[39],[28,36,40],[41]] [10,11,16] [(0,0),(0,1),(0,2),(1,0),(1,1),(1,2),(2,0),(2,1),(2,2),(3,0),(3,1),(3,2),(4,0),(4,1),(5,0),(5,1),(6,0),(6,1),(7,0),(7,1),(8,0),(9,0),(12,0),(12,1),(12,2),(13,0),(13,1),(13,2),(14,0),(14,1),(14,2),(15,0),(15,1),(15,2),(17,3)] [fun h=>h,fun h=>jr t.facts c.1++eZ (aV (jr t.facts T)++[]) [700] h,fun h=>jr t.facts z.1++eZ (aV (jr t.facts c.1)++[]) [700] h] ab ah au (all_cons ⟨_,rfl,rfl,(by first|exact ba (cR) ab)⟩ (all_cons ⟨_,rfl,rfl,(by first|exact ba (cR) ab)⟩ (all_cons ⟨_,rfl,rfl,(by first|exact ba (cR) ab)⟩ (all_cons ⟨_,rfl,rfl,(by first|exact ba (cu ab) ab|exact ba (b8 ab) ab|exact ba (b9 ab) ab)⟩ (all_cons ⟨_,rfl,rfl,(by first|exact ba (cu ab) ab|exact ba (b8 ab) ab|exact ba (b9 ab) ab)⟩ (all_cons ⟨_,rfl,rfl,(by first|exact ba (cu ab) ab|exact ba (b8 ab) ab|exact ba (b9 ab) ab)⟩ (all_cons ⟨_,rfl,rfl,(by first|exact ba (bl ab ab ak) ab|exact ba (bm ab ab ak) ab)⟩ (all_cons ⟨_,rfl,rfl,(by first|exact ba (bl ab ab ak) ab|exact ba (bm ab ab ak) ab)⟩ (all_cons ⟨_,rfl,rfl,(by first|exact ba (bl ab ab ak) ab|exact ba (bm ab ab ak) ab)⟩ (all_cons ⟨_,rfl,rfl,aR⟩ (all_cons ⟨_,rfl,rfl,aR⟩ (all_cons ⟨_,rfl,rfl,aR⟩ (all_cons ⟨_,rfl,rfl,(by first|exact ba (cR) ab)⟩ (all_cons ⟨_,rfl,rfl,(by first|exact ba (cR) ab)⟩ (all_cons ⟨_,rfl,rfl,(by first|exact ba (cu ab) ab|exact ba (b8 ab) ab|exact ba (b9 ab) ab)⟩ (all_cons ⟨_,rfl,rfl,(by first|exact ba (cu ab) ab|exact ba (b8 ab) ab|exact ba (b9 ab) ab)⟩ (all_cons ⟨_,rfl,rfl,(by first|exact ba (bl ab ab ak) ab|exact ba (bm ab ab ak) ab)⟩ (all_cons ⟨_,rfl,rfl,(by first|exact ba (bl ab ab ak) ab|exact ba (bm ab ab ak) ab)⟩ (all_cons ⟨_,rfl,rfl,aR⟩ (all_cons ⟨_,rfl,rfl,aR⟩ (all_cons ⟨_,rfl,rfl,(by first|exact ba (bl ab ab ak) ab|exact ba (bm ab ab ak) ab)⟩ (all_cons ⟨_,rfl,rfl,aR⟩ (all_cons ⟨_,rfl,rfl,(by first|exact ba (cR) ab)⟩ (all_cons ⟨_,rfl,rfl,(by first|exact ba (cR) ab)⟩ (all_cons ⟨_,rfl,rfl,(by first|exact ba (cR) ab)⟩ (all_cons ⟨_,rfl,rfl,(by first|exact ba (cu ab) ab|exact ba (b8 ab) ab|exact ba (b9 ab) ab)⟩ (all_cons ⟨_,rfl,rfl,(by first|exact ba (cu ab) ab|exact ba (b8 ab) ab|exact ba (b9 ab) ab)⟩ (all_cons ⟨_,rfl,rfl,(by first|exact ba (cu ab) ab|exact ba (b8 ab) ab|exact ba (b9 ab) ab)⟩ (all_cons ⟨_,rfl,rfl,(by first|exact ba (bl ab ab ak) ab|exact ba (bm ab ab ak) ab)⟩ (all_cons ⟨_,rfl,rfl,(by first|exact ba (bl ab ab ak) ab|exact ba (bm ab ab ak) ab)⟩ (all_cons ⟨_,rfl,rfl,(by first|exact ba (bl ab ab ak) ab|exact ba (bm ab ab ak) ab)⟩ (all_cons ⟨_,rfl,rfl,aR⟩ (all_cons ⟨_,rfl,rfl,aR⟩ (all_cons ⟨_,rfl,rfl,aR⟩ (all_cons ⟨_,rfl,rfl,(by first|exact ba (A8 ab ab) ab|exact ba (tH ab ab) ab|exact ba (tJ ab ab ah) ab)⟩ all_nil))))))))))))))))))))))))))))))))))) (dS (fun f hfl hU hfm K1 hK1=>⟨_,rfl,rfl,(by (refine cH (by rw [eM hU ab];exact cw) (by rw [eM hU ab];rfl) (fun x hx=>?_);obtain rfl:=hx;exact hK1))⟩) (dS (fun f hfl hU hfm K1 hK1=>⟨_,rfl,rfl,(by (refine bI (by rw [eM hU ab];exact c1) (by (repeat (first|exact bP|refine bA ab ?_))) (fun _ h=>by cases h) ab (fun x hp' hx=>?_);obtain ⟨rfl,rfl⟩:=hx;rw [fb hfm (by repeat (first|exact all_nil|refine all_cons ab ?_)) (by repeat (first|exact all_nil|refine all_cons ab ?_))];exact hK1))⟩) (dS (fun f hfl hU hfm K1 hK1=>⟨_,rfl,rfl,(by (refine bI (by rw [eM hU ab];exact c2) (by (repeat (first|exact bP|refine bA ab ?_))) (fun _ h=>by cases h) ab (fun x hp' hx=>?_);obtain ⟨rfl,rfl⟩:=hx;rw [fb hfm (by repeat (first|exact all_nil|refine all_cons ab ?_)) (by repeat (first|exact all_nil|refine all_cons ab ?_))];exact hK1))⟩) nH))) ?_
   simp only [go_sem,seval,dj,aV,CJ,List.length_cons,List.length_nil]
   (repeat' (first|(refine hK _ ?_;clear hK K)|(refine aM (fun K hK=>?_))|(refine gR ?_;refine aP ?_)|(refine gE ?_;refine cc ?_)|(refine gQ ?_;refine aS (fun hc=>?_) (fun hc=>?_)<;>(try (first|contradiction|omega)))|(refine aN ?_)|(refine gT ?_;refine aZ ?_)|(refine gS ?_;refine aX ?_)))
   ·(refine aT (Le.refl _) (dx (aO ab) (bt (by first|exact bF ab ab ab ab|exact br ab ab ab aq))) af ?_)
    rw [hdead,if_pos hc]
    rfl
   rw [if_neg hc] at hdead
   obtain ⟨RS,hRS⟩:∃ r,r=pE t.facts a t.goal t.ops l z.1:=⟨_,rfl⟩
   rw [← hRS] at hdead
   refine bU [4,9,11,12,13,46,47,48,49,50,51,52,53,54,55,56,57,58,59,60,61,62,63,64,65,66,67,68,69,70,71,72,73,74,75,76,77,78,79] (fun q:Nat×eB=>q.1≤l.length∧ma t.facts q.2∧Vd q.2.ns a∧pE t.facts a t.goal t.ops (l.drop q.1) q.2=RS∧q.2.ns.length≤33600000000+q.1 * 1342225280) (fun q=>l.length - q.1) (fun q=>[(46,.int q.1)]) (fun q=>jr t.facts q.2) (0,z.1) ⟨Nat.zero_le _,r2.ok,vz,by rw [hRS];rfl,by simp only;omega⟩ ?_ ?_
   ·(refine cm ?_)
    (exact bd)
   ·clear he
    rintro ⟨k,T⟩ ⟨hk,hT,ha,he,hn⟩ K hK
    simp only at hk hT ha he hn ⊢
    (refine cm ?_)
    by_cases hlt:k < l.length
    ·have hsk:=hs l[k] (List.getElem_mem hlt)
     rw [List.drop_eq_getElem_cons hlt] at he
     unfold pE at he
     have e3:=pc t.goal l[k].no t.facts hsk.o
     cases hd:qk t.goal l[k].no with
     |true=>
      rw [hd] at e3
      rw [if_pos hd] at he
      (repeat' (first|(refine hK _ ?_;clear hK K)|(refine aM (fun K hK=>?_))|(refine gR ?_;refine aP ?_)|(refine gC 66 ?_;refine bp (e3) ?_)|(refine gE ?_;(first|(refine cc ?_)|(refine dL (fun _=>?_))))|(refine gQ ?_;(first|(refine cf ?_)|(refine aS (fun hc=>?_) (fun hc=>?_)<;>(try (first|contradiction|omega)))))|(refine aN ?_)|(refine gT ?_;refine aZ ?_)|(refine gS ?_;refine aX ?_)))
      (refine aT (Le.refl _) (dx (aO ab) (bt (by first|exact bF ab ab ab ab|exact br ab ab ab aq))) af ?_)
      rw [hdead,← he]
      rfl
     |false=>
      rw [hd] at e3
      rw [if_neg (by simp [hd])] at he
      (repeat' (first|(refine hK _ ?_;clear hK K)|(refine aM (fun K hK=>?_))|(refine gR ?_;refine aP ?_)|(refine gC 66 ?_;refine bp (e3) ?_)|(refine gE ?_;(first|(refine cc ?_)|(refine dL (fun _=>?_))))|(refine gQ ?_;(first|(refine bT ?_)|(refine aS (fun hc=>?_) (fun hc=>?_)<;>(try (first|contradiction|omega)))))|(refine aN ?_)|(refine gS ?_;refine aX ?_)))
      obtain ⟨RO,hRO⟩:∃ r,r=sF t.facts a l[k] t.ops T:=⟨_,rfl⟩
      rw [← hRO] at he
      refine bU [4,11,12,13,60,61,62,63,64,65,66,67,68,69,70,71,72,73,74,75,76,77,78] (fun q:Nat×eB=>q.1≤t.ops.length∧ma t.facts q.2∧Vd q.2.ns a∧sF t.facts a l[k] (t.ops.drop q.1) q.2=RO∧q.2.ns.length≤T.ns.length+q.1 * 33555632) (fun q=>t.ops.length - q.1) (fun q=>[(60,.int q.1)]) (fun q=>jr t.facts q.2) (0,T) ⟨Nat.zero_le _,hT,ha,by rw [hRO];rfl,by simp only;omega⟩ ?_ ?_
      ·(refine cm ?_)
       (exact bd)
      ·rintro ⟨j,T2⟩ ⟨hj,hT2,ha2,he2,hn2⟩ K hK
       simp only at hj hT2 ha2 he2 hn2 ⊢
       have h40:=hw.n40
       (refine cm ?_)
       by_cases hlt2:j < t.ops.length
       ·have hop:=(hw.ops t.ops[j] (List.getElem_mem hlt2)).1
        rw [List.drop_eq_getElem_cons hlt2] at he2
        unfold sF at he2
        have ci:=H2 t.facts h0L hL l[k] t.ops[j] hsk hop
        cases hi:jJ l[k] t.ops[j] with
        |none=>
         rw [hi] at ci he2
         unfold MC at ci
         simp only at he2
         have hfin:T2.ns.length≤T.ns.length+(j+1) * 33555632:=Nat.le_trans hn2 (Nat.add_le_add_left (Nat.mul_le_mul_right _ (Nat.le_succ j)) _)
         (repeat' (first|(refine hK _ ?_;clear hK K)|(refine aM (fun K hK=>?_))|(refine gR ?_;refine aP ?_)|(refine gC 67 ?_;refine bp (ci) ?_)|(refine gE ?_;(first|(refine cc ?_)|(refine dL (fun _=>?_))))|(refine gQ ?_;(first|(refine bT ?_)|(refine aS (fun hc=>?_) (fun hc=>?_)<;>(try (first|contradiction|omega)))))|(refine aN ?_)|(refine gS ?_;refine aX ?_)))
         refine ⟨(j+1,T2),⟨hlt2,hT2,ha2,he2,hfin⟩,by simp only;omega,?_⟩
         (refine cm ?_)
         (exact bd)
        |some nx=>
         rw [hi] at ci he2
         unfold MC at ci
         simp only at he2
         have hnx:=(zR hsk hop hi).OF h0L hL
         have r3:=CS h0L hL hnx hT2 ha2
         have c3:=Mx t.facts h0L hL T2 a nx hnx hT2 ha2 aj
         generalize vc t.facts a nx T2=y at *
         obtain ⟨Y,b⟩:=y
         have g3:=r3.gr.len
         simp only at he2 c3 g3
         cases b with
         |true=>
          rw [if_pos rfl] at he2
          have hfin:Y.ns.length≤T.ns.length+(j+1) * 33555632:=Nat.le_trans g3.2 (by have e:2 * zS+1200=33555632:=rfl;rw [e,Nat.succ_mul j,← Nat.add_assoc];exact Nat.add_le_add_right hn2 _)
          (repeat' (first|(refine hK _ ?_;clear hK K)|(refine aM (fun K hK=>?_))|(refine gR ?_;refine aP ?_)|(refine gC 67 ?_;refine bp (ci) ?_)|(refine bn (fun K hK=>?_);(refine bI (c3) (by (repeat (first|exact bP|refine bA ab ?_))) (fun _ h=>by cases h) ab (fun x hp' hx=>?_);obtain ⟨rfl,rfl⟩:=hx<;>simp only [go_sem,seval,dj,aV]))|(refine gE ?_;(first|(refine cc ?_)|(refine dL (fun _=>?_))))|(refine gQ ?_;(first|(refine bT ?_)|(refine aS (fun hc=>?_) (fun hc=>?_)<;>(try (first|contradiction|omega)))))|(refine gW ?_;refine bN ?_)|(refine aN ?_)|(refine gS ?_;refine aX ?_)))
          refine ⟨(j+1,Y),⟨hlt2,r3.ok,r3.gr.vd ha2,he2,hfin⟩,by simp only;omega,?_⟩
          (refine cm ?_)
          (exact bd)
         |false=>
          rw [if_neg ax] at he2
          rw [← he2,if_neg ax] at he
          (repeat' (first|(refine hK _ ?_;clear hK K)|(refine aM (fun K hK=>?_))|(refine gR ?_;refine aP ?_)|(refine gC 67 ?_;refine bp (ci) ?_)|(refine bn (fun K hK=>?_);(refine bI (c3) (by (repeat (first|exact bP|refine bA ab ?_))) (fun _ h=>by cases h) ab (fun x hp' hx=>?_);obtain ⟨rfl,rfl⟩:=hx<;>simp only [go_sem,seval,dj,aV]))|(refine gE ?_;(first|(refine cc ?_)|(refine dL (fun _=>?_))))|(refine gQ ?_;(first|(refine cf ?_)|(refine aS (fun hc=>?_) (fun hc=>?_)<;>(try (first|contradiction|omega)))))|(refine gW ?_;refine bN ?_)|(refine aN ?_)|(refine gT ?_;refine aZ ?_)|(refine gS ?_;refine aX ?_)))
          (refine aT (Le.refl _) (dx (aO ab) (bt (by first|exact bF ab ab ab ab|exact br ab ab ab aq))) af ?_)
          rw [hdead,← he]
          rfl
       ·obtain rfl:j=t.ops.length:=by omega
        rw [List.drop_length,sF] at he2
        rw [← he2,if_pos rfl] at he
        simp only at he
        have hfin:T2.ns.length≤33600000000+(k+1) * 1342225280:=by omega
        (repeat' (first|(refine hK _ ?_;clear hK K)|(refine aM (fun K hK=>?_))|(refine gR ?_;refine aP ?_)|(refine gE ?_;refine cc ?_)|(refine gQ ?_;refine aS (fun hc=>?_) (fun hc=>?_)<;>(try (first|contradiction|omega)))|(refine gX ?_;refine bV ?_)|(apply_assumption (exfalso:=false) (symm:=false))))
        refine ⟨(k+1,T2),⟨by simp only;omega,hT2,ha2,he,hfin⟩,by simp only;omega,?_⟩
        (refine cm ?_)
        (exact bd)
    ·obtain rfl:k=l.length:=by omega
     rw [List.drop_length,pE] at he
     (repeat' (first|(refine hK _ ?_;clear hK K)|(refine aM (fun K hK=>?_))|(refine gR ?_;refine aP ?_)|(refine gE ?_;refine cc ?_)|(refine gQ ?_;refine aS (fun hc=>?_) (fun hc=>?_)<;>(try (first|contradiction|omega)))|(refine gX ?_;refine bV ?_)|(refine gT ?_;refine aZ ?_)|(apply_assumption (exfalso:=false) (symm:=false))))
     (refine aT (Le.refl _) (dx (aO ab) (bt (by first|exact bF ab ab ab ab|exact br ab ab ab aq))) af ?_)
     rw [hdead,← he]
     rfl
end Go.Proofs.YtkbiagkbmodgdaaGreat
namespace Go.Proofs.YtkbiagkbmodgdaaGreat
open Go.Ab
open Go
set_option maxRecDepth 10000
attribute [local irreducible] dE fh mC lW db PV eR ef AW bg dn ec dP cO Ab.Fin ft en gI iO RV jX Le eI fM mg gV kf dz dg
set_option maxHeartbeats 8000000
abbrev u32 (n:Nat):AV:=.v (.int .u32 (n:Int))
abbrev xn (o:Op):List AV:=[u32 (cY o.pre),u32 (cY o.add),u32 (cY o.del),.int o.cost]
abbrev K6 (o:Op):AV:=.agg (xn o)
abbrev Qa (t:Task):List AV:=[u32 (cY t.init),u32 (cY t.goal),.cr 4 24 (t.ops.map K6)]
abbrev Ni (t:Task):AV:=.bx (Qa t)
abbrev Fc (l:List Op):List AV:=l.flatMap xn
@[go_sem] theorem OX (id:Nat) (l:List Op):AV.bz id (Fc l)=false:=eU id xn l fun _=>rfl
@[go_sem] theorem Of (id:Nat) (l:List Op):AV.ct id (Fc l)=Fc l:=gY id xn l fun _=>rfl
theorem MD (l:List Op):AV.cj (Fc l)=true:=fK xn l fun _=>rfl
@[go_sem] theorem Og (id sz bw n:Nat) (es:List AV) (l:List Op):AV.du id sz bw n es (Fc l)=Fc l:=ew (MD l)
@[go_sem] theorem Pw (l:List Op):(Fc l).length=l.length * 4:=by
 unfold Fc
 induction l with
 |nil=>rfl
 |cons w l ih=>rw [List.flatMap_cons,List.length_append,ih,List.length_cons];simp;omega
theorem Ko {l:List Op} {k:Nat} (h:k < l.length):Fc (l.take (k+1))=Fc (l.take k)++xn l[k]:=by
 rw [List.take_succ_eq_append_getElem h,Fc,List.flatMap_append];simp
theorem Kp (t:Task) (hw:xY t) (s:List Int) (hs:isSet s t.facts=true):bg Tryz.prog 143 [Ni t,u32 (cY s)] (fun r=>r= .bool (iG t.goal s)):=by
 have h1:=K5 (jP hs hw.f1) (jP hw.goal hw.f1)
 have h2:=Dc hs hw.goal
 have e:(bits .and .u32 ((cY s:Nat):Int) ((cY t.goal:Nat):Int) == ((cY t.goal:Nat):Int))=iG t.goal s:=by
  rw [h1,Bool.eq_iff_iff,beq_iff_eq,← h2];omega
 (refine bh Tryz.func143 Tryz.ntmps143 ?_)
 (repeat' (first|(refine hK _ ?_;clear hK K)|(refine aM (fun K hK=>?_))|(refine gR ?_;refine aP ?_)|(refine gD 1 ?_;refine fg (.it 0 0 (.it 1 0 (.it 2 0 (.it 3 0 (.it 4 0 (.it 5 0 (.it 6 0 (.it 7 0 (.it 8 0 (.it 9 0 (.it 10 0 (.it 11 0 .nil)))))))))))) [0,1,2,3,4,5,6,7,8,9,10,11] ?_)|(refine gT ?_;refine aZ ?_)))
 (refine aT (Le.refl _) (aQ (aO ab)) af ?_)
 rw [← e]
theorem E0 (t:Task):bg Tryz.prog 125 [Ni t] (fun r=>r=u32 (cY t.init)):=by
 (refine bh Tryz.func125 Tryz.ntmps125 ?_)
 (repeat' (first|(refine hK _ ?_;clear hK K)|(refine aM (fun K hK=>?_))|(refine gR ?_;refine aP ?_)|(refine gT ?_;refine aZ ?_)))
 (refine aT (Le.refl _) (aQ (aO ab)) af ?_)
 rfl
theorem H4 (t:Task) (s:List Int):bg Tryz.prog 194 [Ni t,u32 (cY s)] (fun r=>r= .fn 222 [.bx [Ni t],.bx [u32 (cY s)]]):=by
 (refine bh Tryz.func194 Tryz.ntmps194 ?_)
 (repeat' (first|(refine hK _ ?_;clear hK K)|(refine aM (fun K hK=>?_))|(refine gR ?_;refine aP ?_)|(refine bn (fun K hK=>?_);refine fD (.trans (bQ 2 rfl rfl rfl) (bQ 3 rfl rfl rfl)) ?_;simp only [go_sem,seval];refine bK cD ?_)|(refine gE ?_;refine cc ?_)|(refine gW ?_;refine bN ?_)|(refine gT ?_;refine aZ ?_)))
 (refine aT (Le.refl _) (aQ (aO ab)) af ?_)
 rfl
theorem H5 (t:Task) (hw:xY t):bg Tryz.prog 173 [t.av] (fun r=>r=Ni t):=by
 have hL:=hw.f1
 have h40:=hw.n40
 have c1:=jW t.init t.facts hw.init hL
 have c2:=jW t.goal t.facts hw.goal hL
 (refine bh Tryz.func173 Tryz.ntmps173 ?_)
 (repeat' (first|(refine hK _ ?_;clear hK K)|(refine aM (fun K hK=>?_))|(refine gR ?_;refine aP ?_)|(refine gD 1 ?_;refine fg (.it 0 0 (.it 1 0 (.it 3 0 (.it 4 0 (.it 2 1 (.it 5 1 (.it 6 0 (.it 7 1 (.it 8 0 .nil))))))))) [0,1,3,4,6,8] ?_)|(refine kK 65 ?_;refine dw (c1) ?_)|(refine kK 65 ?_;refine dw (c2) ?_)|(refine dk (fun K hK=>?_);refine y6 (d:=13) 13 al (by exact .inr ⟨_,rfl⟩) al ?_)|(refine gE ?_;refine cc ?_)|(refine kj ?_;refine eK ?_)|(refine aN ?_)))
 (refine cT (iD 13 2 300 4 24 312 ab ab al) ?_;simp only [go_sem,seval])
 refine bU [5,17,18,19,20,21,22,23,24,25,26,27,28,29,30,31,32,33,34,35,36,37,38,39,40,41,42] (fun k:Nat=>k≤t.ops.length) (fun k=>t.ops.length - k) (fun k=>[(17,.int k)]) (fun k=>[(13,⟨260,[u32 (cY t.init),u32 (cY t.goal),.sl 4 24 300 0 k],true⟩),(300,⟨312,Fc (t.ops.take k),false⟩)]) 0 (Nat.zero_le _) ?_ ?_
 ·(refine cm ?_)
  (exact bd)
 ·rintro k hk K hK
  (refine cm ?_)
  by_cases hlt:k < t.ops.length
  ·have ho:=(hw.ops t.ops[k] (List.getElem_mem hlt)).1
   unfold l9 at ho
   simp only [Bool.and_eq_true] at ho
   have w1:=jW t.ops[k].pre t.facts ho.1.1.1 hL
   have w2:=jW t.ops[k].add t.facts ho.1.1.2 hL
   have w3:=jW t.ops[k].del t.facts ho.1.2 hL
   have hlen:(t.ops.take k).length=k:=by rw [List.length_take];omega
   have hs:=Ko hlt
   generalize t.ops.take k=l at *
   (repeat' (first|(refine hK _ ?_;clear hK K)|(refine aM (fun K hK=>?_))|(refine gR ?_;refine aP ?_)|(refine gD 5 ?_;refine wx (s1:=?_) (.it 1 0 (.it 2 0 (.it 3 0 (.it 4 0 (.it 5 0 (.it 6 0 (.it 8 0 (.it 9 0 (.it 11 0 (.it 12 0 (.it 14 0 (.it 15 0 (.fk 0 7 (.it 7 1 (.it 10 1 (.it 13 1 (.it 16 0 (.it 17 1 (.it 18 3 (.it 19 1 (.it 20 1 (.it 21 3 .nil))))))))) (.fk 0 10 (.it 10 1 (.it 13 1 (.it 16 0 (.it 17 1 (.it 18 3 (.it 19 1 (.it 20 1 (.it 21 3 .nil)))))))) (.fk 0 13 (.it 13 1 (.it 16 0 (.it 17 1 (.it 18 3 (.it 19 1 (.it 20 1 (.it 21 3 .nil))))))) (.it 16 0 (.fk 0 17 (.it 17 1 (.it 18 3 (.it 19 1 (.it 20 1 (.it 21 3 .nil))))) (.oh 0 1 18 3 (.it 18 3 (.it 19 1 (.it 20 1 (.it 21 3 .nil)))) (.it 0 1 (.it 19 1 (.it 20 1 (.it 21 3 .nil)))))))))))))))))))))) [1,2,3,4,5,6,8,9,11,12,14,15,16] ?_ ?_;rotate_left)|(refine kK 65 ?_;refine dw (w1) ?_)|(refine kK 65 ?_;refine dw (w2) ?_)|(refine kK 65 ?_;refine dw (w3) ?_)|(refine dk (fun K hK=>?_);(first|(refine eu (bl ab ab ak) ?_)|(refine dq (d:=38) aC ab ab ab ab ?_)))|(refine And.intro ?_ ?_)|(refine tO ?_;refine ko ?_)|(refine gH (fun K hK=>?_);refine cF ?_)|(refine gO ?_;refine jZ ?_)|(refine gL ?_;(first|exact Le.refl _|exact bd))|(refine gE ?_;(first|(refine cc ?_)|(refine dL (fun _=>?_))))|(refine gQ ?_;refine aS (fun hc=>?_) (fun hc=>?_)<;>(try (first|contradiction|omega)))|(refine kj ?_;refine eK ?_)|(refine aN ?_)|(refine gS ?_;refine aX ?_)))
   refine ⟨k+1,by omega,by omega,?_⟩
   rw [hs]
   (refine cm ?_)
   (exact bd)
  ·obtain rfl:k=t.ops.length:=by omega
   rw [List.take_length]
   (refine cT (eg (f:=K6) 300 4 24 t.ops.length t.ops ab (by rw [List.flatMap_map];rfl) ab (fun _=>rfl) (fun _=>rfl) aj) ?_;try simp only [go_sem,seval])
   (refine cT (bQ 13 rfl rfl rfl) ?_;simp only [go_sem,seval])
   (repeat' (first|(refine hK _ ?_;clear hK K)|(refine aM (fun K hK=>?_))|(refine gR ?_;refine aP ?_)|(refine gQ ?_;refine aS (fun hc=>?_) (fun hc=>?_)<;>(try (first|contradiction|omega)))|(refine gX ?_;refine bV ?_)|(refine gT ?_;refine aZ ?_)|(apply_assumption (exfalso:=false) (symm:=false))))
   (refine aT (Le.refl _) (aQ (aO ab)) af ?_)
   rfl
end Go.Proofs.YtkbiagkbmodgdaaGreat
