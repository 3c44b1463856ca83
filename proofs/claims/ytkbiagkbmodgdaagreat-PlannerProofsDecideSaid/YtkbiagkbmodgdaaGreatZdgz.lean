/- Part of a proof: of two right answers both have a plan, at one cost, or none. No condition. -/
import Derived.Test.YtkbiagkbmodgdaaGreatZabr
import Derived.Test.YtkbiagkbmodgdaaGreatZdgw
import Derived.Test.YtkbiagkbmodgdaaGreatZdtd
set_option linter.unusedSimpArgs false
set_option linter.unusedVariables false
namespace Go.Proofs.YtkbiagkbmodgdaaGreat
open Go.Ab
open Go
set_option maxRecDepth 10000
attribute [local irreducible] dE fh mC lW db PV eR ef AW bg dn ec dP cO Ab.Fin ft en gI iO RV jX Le eI fM mg gV kf dz dg
set_option maxHeartbeats 8000000
theorem G0 (L:Int) (h0L:0≤L):∀ (n:Nat) (S:eB) (a b:Int),ma L S→Vd S.ns a→Vd S.ns b→L - min (lvl L S.ns a) (lvl L S.ns b)≤(n:Int)→S.ns.length+2 ^ n≤DB→
  cO Tryz.prog 133 [.ptr 700 0,.int 0,.int a,.int b] (jr L S) [] [700] (fun x hp=>x= .int (di L 0 n S a b).2∧hp=jr L (di L 0 n S a b).1):=by
 intro n
 induction n with
 |zero=>
  intro S a b h va vb hn hb
  have hlow:a < 2∨b < 2:=by
   by_cases ha:a < 2
   ·exact .inl ha
   ·have:=iC h.no (k:=a) aj va.2
    omega
  have a0:=va.1
  have b0:=vb.1
  unfold di
  by_cases h1:a=b
  ·rw [if_pos h1]
   (refine ck Tryz.func133 Tryz.ntmps133 ?_)
   (repeat' (first|(refine hK _ ?_;clear hK K)|(refine aM (fun K hK=>?_))|(refine gR ?_;refine aP ?_)|(refine gQ ?_;refine aS (fun hc=>?_) (fun hc=>?_)<;>(try (first|contradiction|omega)))|(refine aN ?_)|(refine gT ?_;refine aZ ?_)))
   (refine bH (Le.refl _) (aQ (aO ab)) (by (repeat refine bq ab ?_);exact aY _) ab ae ⟨rfl,rfl⟩)
  ·rw [if_neg h1]
   by_cases h2:a < 2∧(a=1↔(0:Int)=0)
   ·rw [if_pos h2]
    (refine ck Tryz.func133 Tryz.ntmps133 ?_)
    (repeat' (first|(refine hK _ ?_;clear hK K)|(refine aM (fun K hK=>?_))|(refine gR ?_;refine aP ?_)|(refine gG ?_;refine cB (fun hc=>?_) (fun hc=>?_)<;>(try (first|contradiction|omega)))|(refine gQ ?_;refine aS (fun hc=>?_) (fun hc=>?_)<;>(try (first|contradiction|omega)))|(refine aN ?_)|(refine gT ?_;refine aZ ?_)))
    all_goals (refine bH (Le.refl _) (aQ (aO ab)) (by (repeat refine bq ab ?_);exact aY _) ab ae ⟨rfl,rfl⟩)
   ·rw [if_neg h2]
    by_cases h3:b < 2∧(b=1↔(0:Int)=0)
    ·rw [if_pos h3]
     (refine ck Tryz.func133 Tryz.ntmps133 ?_)
     (repeat' (first|(refine hK _ ?_;clear hK K)|(refine aM (fun K hK=>?_))|(refine gR ?_;refine aP ?_)|(refine gG ?_;refine cB (fun hc=>?_) (fun hc=>?_)<;>(try (first|contradiction|omega)))|(refine gQ ?_;(first|(refine bT ?_)|(refine aS (fun hc=>?_) (fun hc=>?_)<;>(try (first|contradiction|omega)))))|(refine aN ?_)|(refine gT ?_;refine aZ ?_)))
     all_goals (refine bH (Le.refl _) (aQ (aO ab)) (by (repeat refine bq ab ?_);exact aY _) ab ae ⟨rfl,rfl⟩)
    ·rw [if_neg h3]
     (refine ck Tryz.func133 Tryz.ntmps133 ?_)
     (repeat' (first|(refine hK _ ?_;clear hK K)|(refine aM (fun K hK=>?_))|(refine gR ?_;refine aP ?_)|(refine gG ?_;refine cB (fun hc=>?_) (fun hc=>?_)<;>(try (first|contradiction|omega)))|(refine gQ ?_;(first|(refine cf ?_)|(refine bT ?_)|(refine aS (fun hc=>?_) (fun hc=>?_)<;>(try (first|contradiction|omega)))))|(refine aN ?_)|(refine gT ?_;refine aZ ?_)))
     all_goals (refine bH (Le.refl _) (aQ (aO ab)) (by (repeat refine bq ab ?_);exact aY _) ab ae ⟨rfl,rfl⟩)
 |succ n ih=>
  intro S a b h va vb hn hb
  have hp2:=rF n
  have a0:=va.1
  have b0:=vb.1
  by_cases h1:a=b
  ·unfold di
   rw [if_pos h1]
   (refine ck Tryz.func133 Tryz.ntmps133 ?_)
   (repeat' (first|(refine hK _ ?_;clear hK K)|(refine aM (fun K hK=>?_))|(refine gR ?_;refine aP ?_)|(refine gQ ?_;refine aS (fun hc=>?_) (fun hc=>?_)<;>(try (first|contradiction|omega)))|(refine aN ?_)|(refine gT ?_;refine aZ ?_)))
   (refine bH (Le.refl _) (aQ (aO ab)) (by (repeat refine bq ab ?_);exact aY _) ab ae ⟨rfl,rfl⟩)
  ·by_cases h2:a < 2∧(a=1↔(0:Int)=0)
   ·unfold di
    rw [if_neg h1,if_pos h2]
    (refine ck Tryz.func133 Tryz.ntmps133 ?_)
    (repeat' (first|(refine hK _ ?_;clear hK K)|(refine aM (fun K hK=>?_))|(refine gR ?_;refine aP ?_)|(refine gG ?_;refine cB (fun hc=>?_) (fun hc=>?_)<;>(try (first|contradiction|omega)))|(refine gQ ?_;refine aS (fun hc=>?_) (fun hc=>?_)<;>(try (first|contradiction|omega)))|(refine aN ?_)|(refine gT ?_;refine aZ ?_)))
    all_goals (refine bH (Le.refl _) (aQ (aO ab)) (by (repeat refine bq ab ?_);exact aY _) ab ae ⟨rfl,rfl⟩)
   ·by_cases h3:b < 2∧(b=1↔(0:Int)=0)
    ·unfold di
     rw [if_neg h1,if_neg h2,if_pos h3]
     (refine ck Tryz.func133 Tryz.ntmps133 ?_)
     (repeat' (first|(refine hK _ ?_;clear hK K)|(refine aM (fun K hK=>?_))|(refine gR ?_;refine aP ?_)|(refine gG ?_;refine cB (fun hc=>?_) (fun hc=>?_)<;>(try (first|contradiction|omega)))|(refine gQ ?_;(first|(refine bT ?_)|(refine aS (fun hc=>?_) (fun hc=>?_)<;>(try (first|contradiction|omega)))))|(refine aN ?_)|(refine gT ?_;refine aZ ?_)))
     all_goals (refine bH (Le.refl _) (aQ (aO ab)) (by (repeat refine bq ab ?_);exact aY _) ab ae ⟨rfl,rfl⟩)
    ·by_cases h4:a < 2∨b < 2
     ·unfold di
      rw [if_neg h1,if_neg h2,if_neg h3,if_pos h4]
      (refine ck Tryz.func133 Tryz.ntmps133 ?_)
      (repeat' (first|(refine hK _ ?_;clear hK K)|(refine aM (fun K hK=>?_))|(refine gR ?_;refine aP ?_)|(refine gG ?_;refine cB (fun hc=>?_) (fun hc=>?_)<;>(try (first|contradiction|omega)))|(refine gQ ?_;(first|(refine cf ?_)|(refine bT ?_)|(refine aS (fun hc=>?_) (fun hc=>?_)<;>(try (first|contradiction|omega)))))|(refine aN ?_)|(refine gT ?_;refine aZ ?_)))
      all_goals (refine bH (Le.refl _) (aQ (aO ab)) (by (repeat refine bq ab ?_);exact aY _) ab ae ⟨rfl,rfl⟩)
     ·have a2:2≤a:=by omega
      have b2:2≤b:=by omega
      have e:di L 0 (n+1) S a b=if a > b then j8 L (di L 0 n) 0 S b a else j8 L (di L 0 n) 0 S a b:=by rw [di,if_neg h1,if_neg h2,if_neg h3,if_neg h4]
      by_cases h5:a > b
      ·rw [if_pos h5] at e
       cases hk:lk S.pr (0,b,a) with
       |some k=>
        have e2:di L 0 (n+1) S a b=(S,k):=by rw [e];unfold j8;rw [hk]
        rw [e2]
        (refine ck Tryz.func133 Tryz.ntmps133 ?_)
        (repeat' (first|(refine hK _ ?_;clear hK K)|(refine aM (fun K hK=>?_))|(refine gR ?_;refine aP ?_)|(refine gD 12 ?_;refine fg (.it 0 0 (.it 1 0 (.it 2 0 (.it 3 0 (.it 4 0 (.it 5 1 (.it 6 0 (.it 7 0 (.it 8 0 (.it 9 0 (.it 10 0 .nil))))))))))) [0,1,2,3,4,6,7,8,9,10] ?_)|(refine dk (fun K hK=>?_);(refine eu (kr (kt:=266) hk ab ab ab).2 ?_))|(refine gE ?_;refine cc ?_)|(refine gG ?_;refine cB (fun hc=>?_) (fun hc=>?_)<;>(try (first|contradiction|omega)))|(refine gQ ?_;(first|(refine cf ?_)|(refine bT ?_)|(refine aS (fun hc=>?_) (fun hc=>?_)<;>(try (first|contradiction|omega)))))|(refine kj ?_;refine eK ?_)|(refine aN ?_)|(refine gT ?_;refine aZ ?_)|(refine gS ?_;refine aX ?_)))
        (refine bH (Le.refl _) (aQ (aO ab)) (by (repeat refine bq ab ?_);exact aY _) ab ae ⟨rfl,rfl⟩)
       |none=>
        unfold j8 at e
        rw [hk] at e
        simp only at e
        have la:=iC h.no b2 vb.2
        have lb:=iC h.no a2 va.2
        have hla:=jo L S b vb aj
        have hlb:=jo L S a va aj
        generalize hlv:min (lvl L S.ns b) (lvl L S.ns a)=lv at e
        have sa:=jN h.no vb (lv:=lv) aj aj
        have sb:=jN h.no va (lv:=lv) aj aj
        have hsa:=jV L S b lv vb aj aj
        have hsb:=jV L S a lv va aj aj
        generalize hp:iX L S.ns b lv=p at e sa hsa
        generalize hq:iX L S.ns a lv=q at e sb hsb
        have l1:=sa.l1
        have l2:=sa.l2
        have l3:=sb.l1
        have l4:=sb.l2
        have r1:=fe h0L (.inl rfl) n S p.1 q.1 h sa.v1 sb.v1 aj
        have c1:=ih S p.1 q.1 h sa.v1 sb.v1 aj aj
        generalize hx:di L 0 n S p.1 q.1=x at e r1 c1
        have g1:=r1.gr.len
        have vp2:=r1.gr.vd sa.v2
        have vq2:=r1.gr.vd sb.v2
        have hl2:L - min (lvl L x.1.ns p.2) (lvl L x.1.ns q.2)≤(n:Int):=by rw [r1.gr.lvl L sa.v2,r1.gr.lvl L sb.v2];omega
        have r2:=fe h0L (.inl rfl) n x.1 p.2 q.2 r1.ok vp2 vq2 hl2
        have c2:=ih x.1 p.2 q.2 r1.ok vp2 vq2 hl2 aj
        generalize hy:di L 0 n x.1 p.2 q.2=y at e r2 c2
        have g2:=r2.gr.len
        have c3:=lS L y.1 lv x.2 y.2 aj
        generalize hz:ed y.1 lv x.2 y.2=z at e c3
        rw [← hlv] at hsa hsb c3
        rw [e]
        (refine ck Tryz.func133 Tryz.ntmps133 ?_)
        (repeat' (first|(refine hK _ ?_;clear hK K)|(refine aM (fun K hK=>?_))|(refine gR ?_;refine aP ?_)|(refine gD 12 ?_;refine fg (.it 0 0 (.it 1 0 (.it 2 0 (.it 3 0 (.it 4 0 (.it 5 1 (.it 6 0 (.it 7 0 (.it 8 0 (.it 9 0 (.it 10 0 .nil))))))))))) [0,1,2,3,4,6,7,8,9,10] ?_)|(refine gD 19 ?_;refine fg (.it 0 0 (.it 1 0 (.it 2 0 (.it 3 0 (.it 4 0 (.it 5 0 (.it 6 3 .nil))))))) [0,1,2,3,4,5] ?_)|(refine bn (fun K hK=>?_);(first|((refine bI (hla) (by (repeat (first|exact bP|refine bA ab ?_))) (fun _ h=>by cases h) ab (fun x hp' hx=>?_);obtain ⟨rfl,rfl⟩:=hx<;>simp only [go_sem,seval,dj,aV]))|((refine bI (hlb) (by (repeat (first|exact bP|refine bA ab ?_))) (fun _ h=>by cases h) ab (fun x hp' hx=>?_);obtain ⟨rfl,rfl⟩:=hx<;>simp only [go_sem,seval,dj,aV]))|((refine bI (hsa) (by (repeat (first|exact bP|refine bA ab ?_))) (fun _ h=>by cases h) ab (fun x hp' hx=>?_);obtain ⟨rfl,rfl⟩:=hx<;>simp only [go_sem,seval,dj,aV]))|((refine bI (hsb) (by (repeat (first|exact bP|refine bA ab ?_))) (fun _ h=>by cases h) ab (fun x hp' hx=>?_);obtain ⟨rfl,rfl⟩:=hx<;>simp only [go_sem,seval,dj,aV]))|((refine bI (c1) (by (repeat (first|exact bP|refine bA ab ?_))) (fun _ h=>by cases h) ab (fun x hp' hx=>?_);obtain ⟨rfl,rfl⟩:=hx<;>simp only [go_sem,seval,dj,aV]))|((refine bI (c2) (by (repeat (first|exact bP|refine bA ab ?_))) (fun _ h=>by cases h) ab (fun x hp' hx=>?_);obtain ⟨rfl,rfl⟩:=hx<;>simp only [go_sem,seval,dj,aV]))|((refine bI (c3) (by (repeat (first|exact bP|refine bA ab ?_))) (fun _ h=>by cases h) ab (fun x hp' hx=>?_);obtain ⟨rfl,rfl⟩:=hx<;>simp only [go_sem,seval,dj,aV]))))|(refine dk (fun K hK=>?_);(refine eu (oz (kt:=266) hk ab ab ab).2 ?_))|(refine gH (fun K hK=>?_);(refine (iE (kt:=266) (kv:=z.1.pr) (k:=(0,b,a)) ab ab ab ab ?_).1))|(refine gE ?_;refine cc ?_)|(refine gG ?_;refine cB (fun hc=>?_) (fun hc=>?_)<;>(try (first|contradiction|omega)))|(refine gQ ?_;(first|(refine bT ?_)|(refine aS (fun hc=>?_) (fun hc=>?_)<;>(try (first|contradiction|omega)))))|(refine kj ?_;refine eK ?_)|(refine gW ?_;refine bN ?_)|(refine aN ?_)|(refine gT ?_;refine aZ ?_)|(refine gS ?_;refine aX ?_)))
        (refine bH (Le.refl _) (aQ (aO ab)) (by (repeat refine bq ab ?_);exact aY _) ab ae ⟨rfl,rfl⟩)
      ·rw [if_neg h5] at e
       cases hk:lk S.pr (0,a,b) with
       |some k=>
        have e2:di L 0 (n+1) S a b=(S,k):=by rw [e];unfold j8;rw [hk]
        rw [e2]
        (refine ck Tryz.func133 Tryz.ntmps133 ?_)
        (repeat' (first|(refine hK _ ?_;clear hK K)|(refine aM (fun K hK=>?_))|(refine gR ?_;refine aP ?_)|(refine gD 12 ?_;refine fg (.it 0 0 (.it 1 0 (.it 2 0 (.it 3 0 (.it 4 0 (.it 5 1 (.it 6 0 (.it 7 0 (.it 8 0 (.it 9 0 (.it 10 0 .nil))))))))))) [0,1,2,3,4,6,7,8,9,10] ?_)|(refine dk (fun K hK=>?_);(refine eu (kr (kt:=266) hk ab ab ab).2 ?_))|(refine gE ?_;refine cc ?_)|(refine gG ?_;refine cB (fun hc=>?_) (fun hc=>?_)<;>(try (first|contradiction|omega)))|(refine gQ ?_;(first|(refine cf ?_)|(refine bT ?_)|(refine aS (fun hc=>?_) (fun hc=>?_)<;>(try (first|contradiction|omega)))))|(refine kj ?_;refine eK ?_)|(refine aN ?_)|(refine gT ?_;refine aZ ?_)|(refine gS ?_;refine aX ?_)))
        (refine bH (Le.refl _) (aQ (aO ab)) (by (repeat refine bq ab ?_);exact aY _) ab ae ⟨rfl,rfl⟩)
       |none=>
        unfold j8 at e
        rw [hk] at e
        simp only at e
        have la:=iC h.no a2 va.2
        have lb:=iC h.no b2 vb.2
        have hla:=jo L S a va aj
        have hlb:=jo L S b vb aj
        generalize hlv:min (lvl L S.ns a) (lvl L S.ns b)=lv at e
        have sa:=jN h.no va (lv:=lv) aj aj
        have sb:=jN h.no vb (lv:=lv) aj aj
        have hsa:=jV L S a lv va aj aj
        have hsb:=jV L S b lv vb aj aj
        generalize hp:iX L S.ns a lv=p at e sa hsa
        generalize hq:iX L S.ns b lv=q at e sb hsb
        have l1:=sa.l1
        have l2:=sa.l2
        have l3:=sb.l1
        have l4:=sb.l2
        have r1:=fe h0L (.inl rfl) n S p.1 q.1 h sa.v1 sb.v1 aj
        have c1:=ih S p.1 q.1 h sa.v1 sb.v1 aj aj
        generalize hx:di L 0 n S p.1 q.1=x at e r1 c1
        have g1:=r1.gr.len
        have vp2:=r1.gr.vd sa.v2
        have vq2:=r1.gr.vd sb.v2
        have hl2:L - min (lvl L x.1.ns p.2) (lvl L x.1.ns q.2)≤(n:Int):=by rw [r1.gr.lvl L sa.v2,r1.gr.lvl L sb.v2];omega
        have r2:=fe h0L (.inl rfl) n x.1 p.2 q.2 r1.ok vp2 vq2 hl2
        have c2:=ih x.1 p.2 q.2 r1.ok vp2 vq2 hl2 aj
        generalize hy:di L 0 n x.1 p.2 q.2=y at e r2 c2
        have g2:=r2.gr.len
        have c3:=lS L y.1 lv x.2 y.2 aj
        generalize hz:ed y.1 lv x.2 y.2=z at e c3
        rw [← hlv] at hsa hsb c3
        rw [e]
        (refine ck Tryz.func133 Tryz.ntmps133 ?_)
        (repeat' (first|(refine hK _ ?_;clear hK K)|(refine aM (fun K hK=>?_))|(refine gR ?_;refine aP ?_)|(refine gD 12 ?_;refine fg (.it 0 0 (.it 1 0 (.it 2 0 (.it 3 0 (.it 4 0 (.it 5 1 (.it 6 0 (.it 7 0 (.it 8 0 (.it 9 0 (.it 10 0 .nil))))))))))) [0,1,2,3,4,6,7,8,9,10] ?_)|(refine gD 19 ?_;refine fg (.it 0 0 (.it 1 0 (.it 2 0 (.it 3 0 (.it 4 0 (.it 5 0 (.it 6 3 .nil))))))) [0,1,2,3,4,5] ?_)|(refine bn (fun K hK=>?_);(first|((refine bI (hla) (by (repeat (first|exact bP|refine bA ab ?_))) (fun _ h=>by cases h) ab (fun x hp' hx=>?_);obtain ⟨rfl,rfl⟩:=hx<;>simp only [go_sem,seval,dj,aV]))|((refine bI (hlb) (by (repeat (first|exact bP|refine bA ab ?_))) (fun _ h=>by cases h) ab (fun x hp' hx=>?_);obtain ⟨rfl,rfl⟩:=hx<;>simp only [go_sem,seval,dj,aV]))|((refine bI (hsa) (by (repeat (first|exact bP|refine bA ab ?_))) (fun _ h=>by cases h) ab (fun x hp' hx=>?_);obtain ⟨rfl,rfl⟩:=hx<;>simp only [go_sem,seval,dj,aV]))|((refine bI (hsb) (by (repeat (first|exact bP|refine bA ab ?_))) (fun _ h=>by cases h) ab (fun x hp' hx=>?_);obtain ⟨rfl,rfl⟩:=hx<;>simp only [go_sem,seval,dj,aV]))|((refine bI (c1) (by (repeat (first|exact bP|refine bA ab ?_))) (fun _ h=>by cases h) ab (fun x hp' hx=>?_);obtain ⟨rfl,rfl⟩:=hx<;>simp only [go_sem,seval,dj,aV]))|((refine bI (c2) (by (repeat (first|exact bP|refine bA ab ?_))) (fun _ h=>by cases h) ab (fun x hp' hx=>?_);obtain ⟨rfl,rfl⟩:=hx<;>simp only [go_sem,seval,dj,aV]))|((refine bI (c3) (by (repeat (first|exact bP|refine bA ab ?_))) (fun _ h=>by cases h) ab (fun x hp' hx=>?_);obtain ⟨rfl,rfl⟩:=hx<;>simp only [go_sem,seval,dj,aV]))))|(refine dk (fun K hK=>?_);(refine eu (oz (kt:=266) hk ab ab ab).2 ?_))|(refine gH (fun K hK=>?_);(refine (iE (kt:=266) (kv:=z.1.pr) (k:=(0,a,b)) ab ab ab ab ?_).1))|(refine gE ?_;refine cc ?_)|(refine gG ?_;refine cB (fun hc=>?_) (fun hc=>?_)<;>(try (first|contradiction|omega)))|(refine gQ ?_;(first|(refine bT ?_)|(refine aS (fun hc=>?_) (fun hc=>?_)<;>(try (first|contradiction|omega)))))|(refine kj ?_;refine eK ?_)|(refine gW ?_;refine bN ?_)|(refine aN ?_)|(refine gT ?_;refine aZ ?_)|(refine gS ?_;refine aX ?_)))
        (refine bH (Le.refl _) (aQ (aO ab)) (by (repeat refine bq ab ?_);exact aY _) ab ae ⟨rfl,rfl⟩)
theorem G8 (L:Int) (h0L:0≤L):∀ (n:Nat) (S:eB) (a b:Int),ma L S→Vd S.ns a→Vd S.ns b→L - min (lvl L S.ns a) (lvl L S.ns b)≤(n:Int)→S.ns.length+2 ^ n≤DB→
  cO Tryz.prog 133 [.ptr 700 0,.int 1,.int a,.int b] (jr L S) [] [700] (fun x hp=>x= .int (di L 1 n S a b).2∧hp=jr L (di L 1 n S a b).1):=by
 intro n
 induction n with
 |zero=>
  intro S a b h va vb hn hb
  have hlow:a < 2∨b < 2:=by
   by_cases ha:a < 2
   ·exact .inl ha
   ·have:=iC h.no (k:=a) aj va.2
    omega
  have a0:=va.1
  have b0:=vb.1
  unfold di
  by_cases h1:a=b
  ·rw [if_pos h1]
   (refine ck Tryz.func133 Tryz.ntmps133 ?_)
   (repeat' (first|(refine hK _ ?_;clear hK K)|(refine aM (fun K hK=>?_))|(refine gR ?_;refine aP ?_)|(refine gQ ?_;refine aS (fun hc=>?_) (fun hc=>?_)<;>(try (first|contradiction|omega)))|(refine aN ?_)|(refine gT ?_;refine aZ ?_)))
   (refine bH (Le.refl _) (aQ (aO ab)) (by (repeat refine bq ab ?_);exact aY _) ab ae ⟨rfl,rfl⟩)
  ·rw [if_neg h1]
   by_cases h2:a < 2∧(a=1↔(1:Int)=0)
   ·rw [if_pos h2]
    (refine ck Tryz.func133 Tryz.ntmps133 ?_)
    (repeat' (first|(refine hK _ ?_;clear hK K)|(refine aM (fun K hK=>?_))|(refine gR ?_;refine aP ?_)|(refine gG ?_;refine cB (fun hc=>?_) (fun hc=>?_)<;>(try (first|contradiction|omega)))|(refine gQ ?_;refine aS (fun hc=>?_) (fun hc=>?_)<;>(try (first|contradiction|omega)))|(refine aN ?_)|(refine gT ?_;refine aZ ?_)))
    all_goals (refine bH (Le.refl _) (aQ (aO ab)) (by (repeat refine bq ab ?_);exact aY _) ab ae ⟨rfl,rfl⟩)
   ·rw [if_neg h2]
    by_cases h3:b < 2∧(b=1↔(1:Int)=0)
    ·rw [if_pos h3]
     (refine ck Tryz.func133 Tryz.ntmps133 ?_)
     (repeat' (first|(refine hK _ ?_;clear hK K)|(refine aM (fun K hK=>?_))|(refine gR ?_;refine aP ?_)|(refine gG ?_;refine cB (fun hc=>?_) (fun hc=>?_)<;>(try (first|contradiction|omega)))|(refine gQ ?_;(first|(refine bT ?_)|(refine aS (fun hc=>?_) (fun hc=>?_)<;>(try (first|contradiction|omega)))))|(refine aN ?_)|(refine gT ?_;refine aZ ?_)))
     all_goals (refine bH (Le.refl _) (aQ (aO ab)) (by (repeat refine bq ab ?_);exact aY _) ab ae ⟨rfl,rfl⟩)
    ·rw [if_neg h3]
     (refine ck Tryz.func133 Tryz.ntmps133 ?_)
     (repeat' (first|(refine hK _ ?_;clear hK K)|(refine aM (fun K hK=>?_))|(refine gR ?_;refine aP ?_)|(refine gG ?_;refine cB (fun hc=>?_) (fun hc=>?_)<;>(try (first|contradiction|omega)))|(refine gQ ?_;(first|(refine cf ?_)|(refine bT ?_)|(refine aS (fun hc=>?_) (fun hc=>?_)<;>(try (first|contradiction|omega)))))|(refine aN ?_)|(refine gT ?_;refine aZ ?_)))
     all_goals (refine bH (Le.refl _) (aQ (aO ab)) (by (repeat refine bq ab ?_);exact aY _) ab ae ⟨rfl,rfl⟩)
 |succ n ih=>
  intro S a b h va vb hn hb
  have hp2:=rF n
  have a0:=va.1
  have b0:=vb.1
  by_cases h1:a=b
  ·unfold di
   rw [if_pos h1]
   (refine ck Tryz.func133 Tryz.ntmps133 ?_)
   (repeat' (first|(refine hK _ ?_;clear hK K)|(refine aM (fun K hK=>?_))|(refine gR ?_;refine aP ?_)|(refine gQ ?_;refine aS (fun hc=>?_) (fun hc=>?_)<;>(try (first|contradiction|omega)))|(refine aN ?_)|(refine gT ?_;refine aZ ?_)))
   (refine bH (Le.refl _) (aQ (aO ab)) (by (repeat refine bq ab ?_);exact aY _) ab ae ⟨rfl,rfl⟩)
  ·by_cases h2:a < 2∧(a=1↔(1:Int)=0)
   ·unfold di
    rw [if_neg h1,if_pos h2]
    (refine ck Tryz.func133 Tryz.ntmps133 ?_)
    (repeat' (first|(refine hK _ ?_;clear hK K)|(refine aM (fun K hK=>?_))|(refine gR ?_;refine aP ?_)|(refine gG ?_;refine cB (fun hc=>?_) (fun hc=>?_)<;>(try (first|contradiction|omega)))|(refine gQ ?_;refine aS (fun hc=>?_) (fun hc=>?_)<;>(try (first|contradiction|omega)))|(refine aN ?_)|(refine gT ?_;refine aZ ?_)))
    all_goals (refine bH (Le.refl _) (aQ (aO ab)) (by (repeat refine bq ab ?_);exact aY _) ab ae ⟨rfl,rfl⟩)
   ·by_cases h3:b < 2∧(b=1↔(1:Int)=0)
    ·unfold di
     rw [if_neg h1,if_neg h2,if_pos h3]
     (refine ck Tryz.func133 Tryz.ntmps133 ?_)
     (repeat' (first|(refine hK _ ?_;clear hK K)|(refine aM (fun K hK=>?_))|(refine gR ?_;refine aP ?_)|(refine gG ?_;refine cB (fun hc=>?_) (fun hc=>?_)<;>(try (first|contradiction|omega)))|(refine gQ ?_;(first|(refine bT ?_)|(refine aS (fun hc=>?_) (fun hc=>?_)<;>(try (first|contradiction|omega)))))|(refine aN ?_)|(refine gT ?_;refine aZ ?_)))
     all_goals (refine bH (Le.refl _) (aQ (aO ab)) (by (repeat refine bq ab ?_);exact aY _) ab ae ⟨rfl,rfl⟩)
    ·by_cases h4:a < 2∨b < 2
     ·unfold di
      rw [if_neg h1,if_neg h2,if_neg h3,if_pos h4]
      (refine ck Tryz.func133 Tryz.ntmps133 ?_)
      (repeat' (first|(refine hK _ ?_;clear hK K)|(refine aM (fun K hK=>?_))|(refine gR ?_;refine aP ?_)|(refine gG ?_;refine cB (fun hc=>?_) (fun hc=>?_)<;>(try (first|contradiction|omega)))|(refine gQ ?_;(first|(refine cf ?_)|(refine bT ?_)|(refine aS (fun hc=>?_) (fun hc=>?_)<;>(try (first|contradiction|omega)))))|(refine aN ?_)|(refine gT ?_;refine aZ ?_)))
      all_goals (refine bH (Le.refl _) (aQ (aO ab)) (by (repeat refine bq ab ?_);exact aY _) ab ae ⟨rfl,rfl⟩)
     ·have a2:2≤a:=by omega
      have b2:2≤b:=by omega
      have e:di L 1 (n+1) S a b=if a > b then j8 L (di L 1 n) 1 S b a else j8 L (di L 1 n) 1 S a b:=by rw [di,if_neg h1,if_neg h2,if_neg h3,if_neg h4]
      by_cases h5:a > b
      ·rw [if_pos h5] at e
       cases hk:lk S.pr (1,b,a) with
       |some k=>
        have e2:di L 1 (n+1) S a b=(S,k):=by rw [e];unfold j8;rw [hk]
        rw [e2]
        (refine ck Tryz.func133 Tryz.ntmps133 ?_)
        (repeat' (first|(refine hK _ ?_;clear hK K)|(refine aM (fun K hK=>?_))|(refine gR ?_;refine aP ?_)|(refine gD 12 ?_;refine fg (.it 0 0 (.it 1 0 (.it 2 0 (.it 3 0 (.it 4 0 (.it 5 1 (.it 6 0 (.it 7 0 (.it 8 0 (.it 9 0 (.it 10 0 .nil))))))))))) [0,1,2,3,4,6,7,8,9,10] ?_)|(refine dk (fun K hK=>?_);(refine eu (kr (kt:=266) hk ab ab ab).2 ?_))|(refine gE ?_;refine cc ?_)|(refine gG ?_;refine cB (fun hc=>?_) (fun hc=>?_)<;>(try (first|contradiction|omega)))|(refine gQ ?_;(first|(refine cf ?_)|(refine bT ?_)|(refine aS (fun hc=>?_) (fun hc=>?_)<;>(try (first|contradiction|omega)))))|(refine kj ?_;refine eK ?_)|(refine aN ?_)|(refine gT ?_;refine aZ ?_)|(refine gS ?_;refine aX ?_)))
        (refine bH (Le.refl _) (aQ (aO ab)) (by (repeat refine bq ab ?_);exact aY _) ab ae ⟨rfl,rfl⟩)
       |none=>
        unfold j8 at e
        rw [hk] at e
        simp only at e
        have la:=iC h.no b2 vb.2
        have lb:=iC h.no a2 va.2
        have hla:=jo L S b vb aj
        have hlb:=jo L S a va aj
        generalize hlv:min (lvl L S.ns b) (lvl L S.ns a)=lv at e
        have sa:=jN h.no vb (lv:=lv) aj aj
        have sb:=jN h.no va (lv:=lv) aj aj
        have hsa:=jV L S b lv vb aj aj
        have hsb:=jV L S a lv va aj aj
        generalize hp:iX L S.ns b lv=p at e sa hsa
        generalize hq:iX L S.ns a lv=q at e sb hsb
        have l1:=sa.l1
        have l2:=sa.l2
        have l3:=sb.l1
        have l4:=sb.l2
        have r1:=fe h0L (.inr rfl) n S p.1 q.1 h sa.v1 sb.v1 aj
        have c1:=ih S p.1 q.1 h sa.v1 sb.v1 aj aj
        generalize hx:di L 1 n S p.1 q.1=x at e r1 c1
        have g1:=r1.gr.len
        have vp2:=r1.gr.vd sa.v2
        have vq2:=r1.gr.vd sb.v2
        have hl2:L - min (lvl L x.1.ns p.2) (lvl L x.1.ns q.2)≤(n:Int):=by rw [r1.gr.lvl L sa.v2,r1.gr.lvl L sb.v2];omega
        have r2:=fe h0L (.inr rfl) n x.1 p.2 q.2 r1.ok vp2 vq2 hl2
        have c2:=ih x.1 p.2 q.2 r1.ok vp2 vq2 hl2 aj
        generalize hy:di L 1 n x.1 p.2 q.2=y at e r2 c2
        have g2:=r2.gr.len
        have c3:=lS L y.1 lv x.2 y.2 aj
        generalize hz:ed y.1 lv x.2 y.2=z at e c3
        rw [← hlv] at hsa hsb c3
        rw [e]
        (refine ck Tryz.func133 Tryz.ntmps133 ?_)
        (repeat' (first|(refine hK _ ?_;clear hK K)|(refine aM (fun K hK=>?_))|(refine gR ?_;refine aP ?_)|(refine gD 12 ?_;refine fg (.it 0 0 (.it 1 0 (.it 2 0 (.it 3 0 (.it 4 0 (.it 5 1 (.it 6 0 (.it 7 0 (.it 8 0 (.it 9 0 (.it 10 0 .nil))))))))))) [0,1,2,3,4,6,7,8,9,10] ?_)|(refine gD 19 ?_;refine fg (.it 0 0 (.it 1 0 (.it 2 0 (.it 3 0 (.it 4 0 (.it 5 0 (.it 6 3 .nil))))))) [0,1,2,3,4,5] ?_)|(refine bn (fun K hK=>?_);(first|((refine bI (hla) (by (repeat (first|exact bP|refine bA ab ?_))) (fun _ h=>by cases h) ab (fun x hp' hx=>?_);obtain ⟨rfl,rfl⟩:=hx<;>simp only [go_sem,seval,dj,aV]))|((refine bI (hlb) (by (repeat (first|exact bP|refine bA ab ?_))) (fun _ h=>by cases h) ab (fun x hp' hx=>?_);obtain ⟨rfl,rfl⟩:=hx<;>simp only [go_sem,seval,dj,aV]))|((refine bI (hsa) (by (repeat (first|exact bP|refine bA ab ?_))) (fun _ h=>by cases h) ab (fun x hp' hx=>?_);obtain ⟨rfl,rfl⟩:=hx<;>simp only [go_sem,seval,dj,aV]))|((refine bI (hsb) (by (repeat (first|exact bP|refine bA ab ?_))) (fun _ h=>by cases h) ab (fun x hp' hx=>?_);obtain ⟨rfl,rfl⟩:=hx<;>simp only [go_sem,seval,dj,aV]))|((refine bI (c1) (by (repeat (first|exact bP|refine bA ab ?_))) (fun _ h=>by cases h) ab (fun x hp' hx=>?_);obtain ⟨rfl,rfl⟩:=hx<;>simp only [go_sem,seval,dj,aV]))|((refine bI (c2) (by (repeat (first|exact bP|refine bA ab ?_))) (fun _ h=>by cases h) ab (fun x hp' hx=>?_);obtain ⟨rfl,rfl⟩:=hx<;>simp only [go_sem,seval,dj,aV]))|((refine bI (c3) (by (repeat (first|exact bP|refine bA ab ?_))) (fun _ h=>by cases h) ab (fun x hp' hx=>?_);obtain ⟨rfl,rfl⟩:=hx<;>simp only [go_sem,seval,dj,aV]))))|(refine dk (fun K hK=>?_);(refine eu (oz (kt:=266) hk ab ab ab).2 ?_))|(refine gH (fun K hK=>?_);(refine (iE (kt:=266) (kv:=z.1.pr) (k:=(1,b,a)) ab ab ab ab ?_).1))|(refine gE ?_;refine cc ?_)|(refine gG ?_;refine cB (fun hc=>?_) (fun hc=>?_)<;>(try (first|contradiction|omega)))|(refine gQ ?_;(first|(refine bT ?_)|(refine aS (fun hc=>?_) (fun hc=>?_)<;>(try (first|contradiction|omega)))))|(refine kj ?_;refine eK ?_)|(refine gW ?_;refine bN ?_)|(refine aN ?_)|(refine gT ?_;refine aZ ?_)|(refine gS ?_;refine aX ?_)))
        (refine bH (Le.refl _) (aQ (aO ab)) (by (repeat refine bq ab ?_);exact aY _) ab ae ⟨rfl,rfl⟩)
      ·rw [if_neg h5] at e
       cases hk:lk S.pr (1,a,b) with
       |some k=>
        have e2:di L 1 (n+1) S a b=(S,k):=by rw [e];unfold j8;rw [hk]
        rw [e2]
        (refine ck Tryz.func133 Tryz.ntmps133 ?_)
        (repeat' (first|(refine hK _ ?_;clear hK K)|(refine aM (fun K hK=>?_))|(refine gR ?_;refine aP ?_)|(refine gD 12 ?_;refine fg (.it 0 0 (.it 1 0 (.it 2 0 (.it 3 0 (.it 4 0 (.it 5 1 (.it 6 0 (.it 7 0 (.it 8 0 (.it 9 0 (.it 10 0 .nil))))))))))) [0,1,2,3,4,6,7,8,9,10] ?_)|(refine dk (fun K hK=>?_);(refine eu (kr (kt:=266) hk ab ab ab).2 ?_))|(refine gE ?_;refine cc ?_)|(refine gG ?_;refine cB (fun hc=>?_) (fun hc=>?_)<;>(try (first|contradiction|omega)))|(refine gQ ?_;(first|(refine cf ?_)|(refine bT ?_)|(refine aS (fun hc=>?_) (fun hc=>?_)<;>(try (first|contradiction|omega)))))|(refine kj ?_;refine eK ?_)|(refine aN ?_)|(refine gT ?_;refine aZ ?_)|(refine gS ?_;refine aX ?_)))
        (refine bH (Le.refl _) (aQ (aO ab)) (by (repeat refine bq ab ?_);exact aY _) ab ae ⟨rfl,rfl⟩)
       |none=>
        unfold j8 at e
        rw [hk] at e
        simp only at e
        have la:=iC h.no a2 va.2
        have lb:=iC h.no b2 vb.2
        have hla:=jo L S a va aj
        have hlb:=jo L S b vb aj
        generalize hlv:min (lvl L S.ns a) (lvl L S.ns b)=lv at e
        have sa:=jN h.no va (lv:=lv) aj aj
        have sb:=jN h.no vb (lv:=lv) aj aj
        have hsa:=jV L S a lv va aj aj
        have hsb:=jV L S b lv vb aj aj
        generalize hp:iX L S.ns a lv=p at e sa hsa
        generalize hq:iX L S.ns b lv=q at e sb hsb
        have l1:=sa.l1
        have l2:=sa.l2
        have l3:=sb.l1
        have l4:=sb.l2
        have r1:=fe h0L (.inr rfl) n S p.1 q.1 h sa.v1 sb.v1 aj
        have c1:=ih S p.1 q.1 h sa.v1 sb.v1 aj aj
        generalize hx:di L 1 n S p.1 q.1=x at e r1 c1
        have g1:=r1.gr.len
        have vp2:=r1.gr.vd sa.v2
        have vq2:=r1.gr.vd sb.v2
        have hl2:L - min (lvl L x.1.ns p.2) (lvl L x.1.ns q.2)≤(n:Int):=by rw [r1.gr.lvl L sa.v2,r1.gr.lvl L sb.v2];omega
        have r2:=fe h0L (.inr rfl) n x.1 p.2 q.2 r1.ok vp2 vq2 hl2
        have c2:=ih x.1 p.2 q.2 r1.ok vp2 vq2 hl2 aj
        generalize hy:di L 1 n x.1 p.2 q.2=y at e r2 c2
        have g2:=r2.gr.len
        have c3:=lS L y.1 lv x.2 y.2 aj
        generalize hz:ed y.1 lv x.2 y.2=z at e c3
        rw [← hlv] at hsa hsb c3
        rw [e]
        (refine ck Tryz.func133 Tryz.ntmps133 ?_)
        (repeat' (first|(refine hK _ ?_;clear hK K)|(refine aM (fun K hK=>?_))|(refine gR ?_;refine aP ?_)|(refine gD 12 ?_;refine fg (.it 0 0 (.it 1 0 (.it 2 0 (.it 3 0 (.it 4 0 (.it 5 1 (.it 6 0 (.it 7 0 (.it 8 0 (.it 9 0 (.it 10 0 .nil))))))))))) [0,1,2,3,4,6,7,8,9,10] ?_)|(refine gD 19 ?_;refine fg (.it 0 0 (.it 1 0 (.it 2 0 (.it 3 0 (.it 4 0 (.it 5 0 (.it 6 3 .nil))))))) [0,1,2,3,4,5] ?_)|(refine bn (fun K hK=>?_);(first|((refine bI (hla) (by (repeat (first|exact bP|refine bA ab ?_))) (fun _ h=>by cases h) ab (fun x hp' hx=>?_);obtain ⟨rfl,rfl⟩:=hx<;>simp only [go_sem,seval,dj,aV]))|((refine bI (hlb) (by (repeat (first|exact bP|refine bA ab ?_))) (fun _ h=>by cases h) ab (fun x hp' hx=>?_);obtain ⟨rfl,rfl⟩:=hx<;>simp only [go_sem,seval,dj,aV]))|((refine bI (hsa) (by (repeat (first|exact bP|refine bA ab ?_))) (fun _ h=>by cases h) ab (fun x hp' hx=>?_);obtain ⟨rfl,rfl⟩:=hx<;>simp only [go_sem,seval,dj,aV]))|((refine bI (hsb) (by (repeat (first|exact bP|refine bA ab ?_))) (fun _ h=>by cases h) ab (fun x hp' hx=>?_);obtain ⟨rfl,rfl⟩:=hx<;>simp only [go_sem,seval,dj,aV]))|((refine bI (c1) (by (repeat (first|exact bP|refine bA ab ?_))) (fun _ h=>by cases h) ab (fun x hp' hx=>?_);obtain ⟨rfl,rfl⟩:=hx<;>simp only [go_sem,seval,dj,aV]))|((refine bI (c2) (by (repeat (first|exact bP|refine bA ab ?_))) (fun _ h=>by cases h) ab (fun x hp' hx=>?_);obtain ⟨rfl,rfl⟩:=hx<;>simp only [go_sem,seval,dj,aV]))|((refine bI (c3) (by (repeat (first|exact bP|refine bA ab ?_))) (fun _ h=>by cases h) ab (fun x hp' hx=>?_);obtain ⟨rfl,rfl⟩:=hx<;>simp only [go_sem,seval,dj,aV]))))|(refine dk (fun K hK=>?_);(refine eu (oz (kt:=266) hk ab ab ab).2 ?_))|(refine gH (fun K hK=>?_);(refine (iE (kt:=266) (kv:=z.1.pr) (k:=(1,a,b)) ab ab ab ab ?_).1))|(refine gE ?_;refine cc ?_)|(refine gG ?_;refine cB (fun hc=>?_) (fun hc=>?_)<;>(try (first|contradiction|omega)))|(refine gQ ?_;(first|(refine bT ?_)|(refine aS (fun hc=>?_) (fun hc=>?_)<;>(try (first|contradiction|omega)))))|(refine kj ?_;refine eK ?_)|(refine gW ?_;refine bN ?_)|(refine aN ?_)|(refine gT ?_;refine aZ ?_)|(refine gS ?_;refine aX ?_)))
        (refine bH (Le.refl _) (aQ (aO ab)) (by (repeat refine bq ab ?_);exact aY _) ab ae ⟨rfl,rfl⟩)
theorem G9 {L:Int} (hL:L≤24) {m:Nat} (h:m+zS≤DB):m+2 ^ L.toNat≤DB:=by have:=qn hL;omega
theorem yj (L:Int) (h0L:0≤L) (hL:L≤24) (S:eB) (a b:Int) (h:ma L S) (va:Vd S.ns a) (vb:Vd S.ns b) (hb:S.ns.length+zS≤DB) :
  cO Tryz.prog 63 [.ptr 700 0,.int a,.int b] (jr L S) [] [700] (fun x hp=>x= .int (fC L 0 S a b).2∧hp=jr L (fC L 0 S a b).1):=by
 have c:=G0 L h0L L.toNat S a b h va vb (mb h0L h va vb) (G9 hL hb)
 unfold fC
 generalize di L 0 L.toNat S a b=z at *
 (refine ck Tryz.func63 Tryz.ntmps63 ?_)
 (repeat' (first|(refine hK _ ?_;clear hK K)|(refine aM (fun K hK=>?_))|(refine gR ?_;refine aP ?_)|(refine bn (fun K hK=>?_);(refine bI (c) (by (repeat (first|exact bP|refine bA ab ?_))) (fun _ h=>by cases h) ab (fun x hp' hx=>?_);obtain ⟨rfl,rfl⟩:=hx<;>simp only [go_sem,seval,dj,aV]))|(refine gW ?_;refine bN ?_)|(refine gT ?_;refine aZ ?_)))
 (refine bH (Le.refl _) (aQ (aO ab)) (by (repeat refine bq ab ?_);exact aY _) ab ae ⟨rfl,rfl⟩)
theorem NY (L:Int) (h0L:0≤L) (hL:L≤24) (S:eB) (a b:Int) (h:ma L S) (va:Vd S.ns a) (vb:Vd S.ns b) (hb:S.ns.length+zS≤DB) :
  cO Tryz.prog 131 [.ptr 700 0,.int a,.int b] (jr L S) [] [700] (fun x hp=>x= .int (fC L 1 S a b).2∧hp=jr L (fC L 1 S a b).1):=by
 have c:=G8 L h0L L.toNat S a b h va vb (mb h0L h va vb) (G9 hL hb)
 unfold fC
 generalize di L 1 L.toNat S a b=z at *
 (refine ck Tryz.func131 Tryz.ntmps131 ?_)
 (repeat' (first|(refine hK _ ?_;clear hK K)|(refine aM (fun K hK=>?_))|(refine gR ?_;refine aP ?_)|(refine bn (fun K hK=>?_);(refine bI (c) (by (repeat (first|exact bP|refine bA ab ?_))) (fun _ h=>by cases h) ab (fun x hp' hx=>?_);obtain ⟨rfl,rfl⟩:=hx<;>simp only [go_sem,seval,dj,aV]))|(refine gW ?_;refine bN ?_)|(refine gT ?_;refine aZ ?_)))
 (refine bH (Le.refl _) (aQ (aO ab)) (by (repeat refine bq ab ?_);exact aY _) ab ae ⟨rfl,rfl⟩)
theorem Ha (L:Int) (S:eB) (p:Int) (pos:Bool) (hb:S.ns.length≤DB):cO Tryz.prog 181 [.ptr 700 0,.int p,.bool pos] (jr L S) [] [700] (fun x hp=>x= .int (oG S p pos).2∧hp=jr L (oG S p pos).1):=by
 cases pos with
 |true=>
  have c:=lS L S p 0 1 hb
  rw [oG,if_pos rfl]
  generalize ed S p 0 1=z at *
  (refine ck Tryz.func181 Tryz.ntmps181 ?_)
  (repeat' (first|(refine hK _ ?_;clear hK K)|(refine aM (fun K hK=>?_))|(refine gR ?_;refine aP ?_)|(refine bn (fun K hK=>?_);(refine bI (c) (by (repeat (first|exact bP|refine bA ab ?_))) (fun _ h=>by cases h) ab (fun x hp' hx=>?_);obtain ⟨rfl,rfl⟩:=hx<;>simp only [go_sem,seval,dj,aV]))|(refine gQ ?_;refine cf ?_)|(refine gW ?_;refine bN ?_)|(refine gT ?_;refine aZ ?_)))
  (refine bH (Le.refl _) (aQ (aO ab)) (by (repeat refine bq ab ?_);exact aY _) ab ae ⟨rfl,rfl⟩)
 |false=>
  have c:=lS L S p 1 0 hb
  rw [oG,if_neg ax]
  generalize ed S p 1 0=z at *
  (refine ck Tryz.func181 Tryz.ntmps181 ?_)
  (repeat' (first|(refine hK _ ?_;clear hK K)|(refine aM (fun K hK=>?_))|(refine gR ?_;refine aP ?_)|(refine bn (fun K hK=>?_);(refine bI (c) (by (repeat (first|exact bP|refine bA ab ?_))) (fun _ h=>by cases h) ab (fun x hp' hx=>?_);obtain ⟨rfl,rfl⟩:=hx<;>simp only [go_sem,seval,dj,aV]))|(refine gQ ?_;refine bT ?_)|(refine gW ?_;refine bN ?_)|(refine gT ?_;refine aZ ?_)|(refine gS ?_;refine aX ?_)))
  (refine bH (Le.refl _) (aQ (aO ab)) (by (repeat refine bq ab ?_);exact aY _) ab ae ⟨rfl,rfl⟩)
theorem JH (L:Int) (h0L:0≤L):∀ (n:Nat) (S:eB) (kn:List (Int×Int)) (k:Int),ma L S→Dt L S kn→Vd S.ns k→L - lvl L S.ns k≤(n:Int)→S.ns.length+2 ^ n≤DB→
  cO Tryz.prog 188 [.int k,.ptr 5 0,.ptr 2 0,.ptr 6 0] (jr L S++Ir kn) [] [700,2,5,6]
   (fun x hp=>x= .int (j2 n S kn k).2∧hp=jr L (j2 n S kn k).1.1++Ir (j2 n S kn k).1.2):=by
 intro n
 induction n with
 |zero=>
  intro S kn k h hk hv hn hb
  have r:=qu h0L 0 S kn k h hk hv hn
  have h2:k < 2:=by
   by_cases h2:k < 2
   ·exact h2
   ·have:=iC h.no aj hv.2;omega
  have h0:=hv.1
  obtain ⟨o,ho⟩:∃ o,lk kn k=some o:=by
   rcases (by omega:k=0∨k=1) with rfl|rfl
   ·exact ⟨_,hk.z⟩
   ·exact ⟨_,hk.o⟩
  unfold j2
  rw [ho]
  (refine ck Tryz.func188 Tryz.ntmps188 ?_)
  (repeat' (first|(refine hK _ ?_;clear hK K)|(refine aM (fun K hK=>?_))|(refine gR ?_;refine aP ?_)|(refine bn (fun K hK=>?_);(refine bK (kr (kt:=3) ho ab ab ab).2 ?_))|(refine gQ ?_;refine bT ?_)|(refine gW ?_;refine bN ?_)|(refine gT ?_;refine aZ ?_)|(refine gS ?_;refine aX ?_)))
  (refine bH (Le.refl _) (aQ (aO ab)) (by (repeat refine bq ab ?_);exact aY _) ab ae ⟨rfl,rfl⟩)
 |succ n ih=>
  intro S kn k h hk hv hn hb
  cases ho:lk kn k with
  |some o=>
   have e:j2 (n+1) S kn k=((S,kn),o):=by unfold j2;rw [ho]
   rw [e]
   (refine ck Tryz.func188 Tryz.ntmps188 ?_)
   (repeat' (first|(refine hK _ ?_;clear hK K)|(refine aM (fun K hK=>?_))|(refine gR ?_;refine aP ?_)|(refine bn (fun K hK=>?_);(refine bK (kr (kt:=3) ho ab ab ab).2 ?_))|(refine gQ ?_;refine bT ?_)|(refine gW ?_;refine bN ?_)|(refine gT ?_;refine aZ ?_)|(refine gS ?_;refine aX ?_)))
   (refine bH (Le.refl _) (aQ (aO ab)) (by (repeat refine bq ab ?_);exact aY _) ab ae ⟨rfl,rfl⟩)
  |none=>
   have h0:=hv.1
   have hk2:=hv.2
   have h2:2≤k:=by
    by_cases h2:2≤k
    ·exact h2
    ·rcases (by omega:k=0∨k=1) with rfl|rfl
     ·rw [hk.z] at ho;cases ho
     ·rw [hk.o] at ho;cases ho
   have hnd:=h.no k h2 hv.2
   have hl:lvl L S.ns k=(nd S.ns k).1:=by unfold lvl;rw [if_neg aj]
   have hL:NX (k - 2).toNat S.ns:=⟨by omega⟩
   have e:j2 (n+1) S kn k=(let m:=nd S.ns k;let x:=j2 n S kn m.2.1;let y:=j2 n x.1.1 x.1.2 m.2.2;let z:=ed y.1.1 m.1 x.2 y.2;((z.1,jt y.1.2 k z.2),z.2)):=by conv=>lhs;unfold j2;rw [ho]
   simp only at e
   have em:nd S.ns k=S.ns[(k - 2).toNat]!:=rfl
   obtain ⟨w0,wL,l0,l1,g0,g1,ne,ll,lh⟩:=hnd
   generalize nd S.ns k=m at *
   have hp2:=rF n
   have hb5:S.ns.length≤5000000000000:=by unfold DB at hb;omega
   have vl:Vd S.ns m.2.1:=⟨l0,by omega⟩
   have vh:Vd S.ns m.2.2:=⟨g0,by omega⟩
   have r1:=qu h0L n S kn m.2.1 h hk vl aj
   have c1:=ih S kn m.2.1 h hk vl aj aj
   generalize j2 n S kn m.2.1=x at e r1 c1
   have q1:=r1.gr.len
   have hl2:L - lvl L x.1.1.ns m.2.2≤(n:Int):=by rw [r1.gr.lvl L vh];omega
   have r2:=qu h0L n x.1.1 x.1.2 m.2.2 r1.ok r1.kn (r1.gr.vd vh) hl2
   have c2:=ih x.1.1 x.1.2 m.2.2 r1.ok r1.kn (r1.gr.vd vh) hl2 aj
   generalize j2 n x.1.1 x.1.2 m.2.2=y at e r2 c2
   have q2:=r2.gr.len
   have c3:=GZ L y.1.1 m.1 x.2 y.2 y.1.2 aj
   generalize ed y.1.1 m.1 x.2 y.2=z at e c3
   rw [e]
   (refine ck Tryz.func188 Tryz.ntmps188 ?_)
   (repeat' (first|(refine hK _ ?_;clear hK K)|(refine aM (fun K hK=>?_))|(refine fH 4 ab ?_;refine aP ?_)|(refine bn (fun K hK=>?_);(refine bK (oz (kt:=3) ho ab ab ab).2 ?_))|(refine gE ?_;refine cc ?_)|(refine gQ ?_;refine cf ?_)|(refine gW ?_;refine bN ?_)))
   rw [← em]
   refine mJ [10,20,23] ?_
   simp only [jw,List.set_cons_succ,List.set_cons_zero]
   refine nJ [.ptr 700 0,.ptr 8 0,.int m.1,.fn 188 [.ptr 5 0,.ptr 2 0,.ptr 6 0],.ptr 8 1,.int m.2.1,.int x.2,.fn 188 [.ptr 5 0,.ptr 2 0,.ptr 6 0],.ptr 8 2,.int m.2.2,.int y.2,.int z.2,.int z.2] [[2],[8],[26],[3],[8],[29],[28,30],[3],[8],[33],[32,34],[25,27,31,35],[36]] [6,10,11] [(0,0),(0,1),(0,2),(1,0),(1,1),(1,2),(2,0),(2,1),(2,2),(3,0),(4,0),(5,0),(7,0),(7,1),(8,0),(8,1),(9,0),(9,1),(12,3)] [fun h=>jr L x.1.1++Ir x.1.2++eZ (aV (jr L S++Ir kn)++[]) [700,2,5,6] h,fun h=>jr L y.1.1++Ir y.1.2++eZ (aV (jr L x.1.1++Ir x.1.2)++[]) [700,2,5,6] h,fun h=>jr L z.1++Ir y.1.2++eZ (aV (jr L y.1.1++Ir y.1.2)++[]) [700,2,5,6] h] ab ah au (all_cons ⟨_,rfl,rfl,aR⟩ (all_cons ⟨_,rfl,rfl,aR⟩ (all_cons ⟨_,rfl,rfl,aR⟩ (all_cons ⟨_,rfl,rfl,(by first|exact ba (bl ab ab ak) ab|exact ba (bm ab ab ak) ab)⟩ (all_cons ⟨_,rfl,rfl,(by first|exact ba (bl ab ab ak) ab|exact ba (bm ab ab ak) ab)⟩ (all_cons ⟨_,rfl,rfl,(by first|exact ba (bl ab ab ak) ab|exact ba (bm ab ab ak) ab)⟩ (all_cons ⟨_,rfl,rfl,aR⟩ (all_cons ⟨_,rfl,rfl,aR⟩ (all_cons ⟨_,rfl,rfl,aR⟩ (all_cons ⟨_,rfl,rfl,aR⟩ (all_cons ⟨_,rfl,rfl,(by first|exact ba (bl ab ab ak) ab|exact ba (bm ab ab ak) ab)⟩ (all_cons ⟨_,rfl,rfl,aR⟩ (all_cons ⟨_,rfl,rfl,aR⟩ (all_cons ⟨_,rfl,rfl,aR⟩ (all_cons ⟨_,rfl,rfl,(by first|exact ba (bl ab ab ak) ab|exact ba (bm ab ab ak) ab)⟩ (all_cons ⟨_,rfl,rfl,(by first|exact ba (bl ab ab ak) ab|exact ba (bm ab ab ak) ab)⟩ (all_cons ⟨_,rfl,rfl,aR⟩ (all_cons ⟨_,rfl,rfl,aR⟩ (all_cons ⟨_,rfl,rfl,(by first|exact ba (cU) ab)⟩ all_nil))))))))))))))))))) (dS (fun f hfl hU hfm K1 hK1=>⟨_,rfl,rfl,(by (refine dQ (by rw [nI hU ab];rfl) (by rw [eM hU ab];exact c1) (by (repeat (first|exact bP|refine bA ab ?_))) (fun _ h=>by cases h) ab (fun x hp' hx=>?_);obtain ⟨rfl,rfl⟩:=hx;rw [fb hfm (by repeat (first|exact all_nil|refine all_cons ab ?_)) (by repeat (first|exact all_nil|refine all_cons ab ?_))];exact hK1))⟩) (dS (fun f hfl hU hfm K1 hK1=>⟨_,rfl,rfl,(by (refine dQ (by rw [nI hU ab];rfl) (by rw [eM hU ab];exact c2) (by (repeat (first|exact bP|refine bA ab ?_))) (fun _ h=>by cases h) ab (fun x hp' hx=>?_);obtain ⟨rfl,rfl⟩:=hx;rw [fb hfm (by repeat (first|exact all_nil|refine all_cons ab ?_)) (by repeat (first|exact all_nil|refine all_cons ab ?_))];exact hK1))⟩) (dS (fun f hfl hU hfm K1 hK1=>⟨_,rfl,rfl,(by (refine bI (by rw [eM hU ab];exact c3) (by (repeat (first|exact bP|refine bA ab ?_))) (fun _ h=>by cases h) ab (fun x hp' hx=>?_);obtain ⟨rfl,rfl⟩:=hx;rw [fb hfm (by repeat (first|exact all_nil|refine all_cons ab ?_)) (by repeat (first|exact all_nil|refine all_cons ab ?_))];exact hK1))⟩) nH))) ?_
   simp only [go_sem,seval,dj,aV,CJ,List.length_cons,List.length_nil]
   (repeat' (first|(refine hK _ ?_;clear hK K)|(refine aM (fun K hK=>?_))|(refine gR ?_;refine aP ?_)|(refine bn (fun K hK=>?_);(refine (iE (kt:=3) (kv:=y.1.2) (k:=k) ab ab ab ab ?_).1))|(refine gW ?_;refine bN ?_)|(refine gT ?_;refine aZ ?_)))
   (refine bH (Le.refl _) (aQ (aO ab)) (by (repeat refine bq ab ?_);exact aY _) ab ae ⟨rfl,rfl⟩)
theorem Mf (L:Int) (h0L:0≤L) (hL:L≤24) (S:eB) (a:Int) (h:ma L S) (va:Vd S.ns a) (hb:S.ns.length+zS≤DB) :
  cO Tryz.prog 139 [.ptr 700 0,.int a] (jr L S) [] [700] (fun x hp=>x= .int (yh L S a).2∧hp=jr L (yh L S a).1):=by
 have la:=qt h.no h0L va
 have c:=JH L h0L L.toNat S GX a h (BQ h0L) va aj (G9 hL hb)
 unfold yh
 generalize j2 L.toNat S GX a=z at *
 (refine ck Tryz.func139 Tryz.ntmps139 ?_)
 (repeat' (first|(refine hK _ ?_;clear hK K)|(refine aM (fun K hK=>?_))|(refine fH 1 ab ?_;refine aP ?_)|(refine gE ?_;refine cc ?_)))
 refine dG ?_
 refine cp rfl (fun K1 hK1=>?_)
 refine jR (d:=7) 2000000003 aw ab aI ?_
 simp only [go_sem,seval];refine hK1 _ ?_;clear hK1 K1
 refine cp rfl (fun K1 hK1=>?_)
 refine (iE (kt:=3) (kA:=kI .i64) (kv:=[]) (k:=0) (v:=1) ab ab ab ab ?_).2
 simp only [go_sem,seval];refine hK1 _ ?_;clear hK1 K1
 refine cp rfl (fun K1 hK1=>?_)
 refine (iE (kt:=3) (kA:=kI .i64) (kv:=[(0,1)]) (k:=1) (v:=0) ab ab ab ab ?_).2
 simp only [go_sem,seval];refine hK1 _ ?_;clear hK1 K1
 refine Cj ?_
 (repeat' (first|(refine hK _ ?_;clear hK K)|(refine aM (fun K hK=>?_))|(refine fH 3 ab ?_;refine aP ?_)|(refine gE ?_;refine cc ?_)|(refine gW ?_;refine bN ?_)))
 refine dG ?_
 refine cp rfl (fun K1 hK1=>?_)
 refine bK cD ?_
 simp only [go_sem,seval];refine hK1 _ ?_;clear hK1 K1
 refine Cj ?_
 (repeat' (first|(refine hK _ ?_;clear hK K)|(refine aM (fun K hK=>?_))|(refine gR ?_;refine aP ?_)|(refine bn (fun K hK=>?_);(refine dQ ab (c) (by (repeat (first|exact bP|refine bA ab ?_))) (fun _ h=>by cases h) ab (fun x hp' hx=>?_);obtain ⟨rfl,rfl⟩:=hx<;>simp only [go_sem,seval,dj,aV]))|(refine gW ?_;refine bN ?_)|(refine gT ?_;refine aZ ?_)))
 (refine bH (Le.refl _) (aQ (aO ab)) (by (repeat refine bq ab ?_);exact aY _) ab ae ⟨rfl,rfl⟩)
theorem JI {w m:Nat} (hw:w < 2 ^ 24):bits .and .u32 ((w:Int) / 2 ^ m) 1=if w.testBit m=true then 1 else 0:=by
 have e:(w:Int) / 2 ^ m=((w / 2 ^ m:Nat):Int):=by rw [Int.natCast_ediv,Int.natCast_pow];rfl
 have h1:w / 2 ^ m < 2 ^ 32:=Nat.lt_of_le_of_lt (Nat.div_le_self _ _) aj
 have h2:=(bits_nat .u32 32 aw oW (w / 2 ^ m) 1 h1 aw).1
 rw [e]
 refine Eq.trans h2 ?_
 rw [Nat.and_one_is_mod,Nat.testBit_eq_decide_div_mod_eq]
 have:(w / 2 ^ m) % 2=0∨(w / 2 ^ m) % 2=1:=by omega
 rcases this with h|h<;>simp [h]
theorem JJ (L:Nat) (hL:L≤24) (w:Nat) (S:eB) (h:ma L S) (hw:w < 2 ^ 24) (hb:S.ns.length+24≤DB) :
  cO Tryz.prog 64 [.ptr 700 0,.v (.int .u32 w)] (jr L S) [] [700] (fun x hp=>x= .int (jU (fun i=>w.testBit i) L S 1).2∧hp=jr L (jU (fun i=>w.testBit i) L S 1).1):=by
 (refine ck Tryz.func64 Tryz.ntmps64 ?_)
 (repeat' (first|(refine hK _ ?_;clear hK K)|(refine aM (fun K hK=>?_))|(refine gR ?_;refine aP ?_)|(refine gE ?_;refine cc ?_)|(refine aN ?_)))
 refine bO [5,6,12,13,14,15,16,17,18,19,20,21,22,23,24,25,26,27,28] (fun q:Nat×eB×Int=>q.1≤L∧ma L q.2.1∧Vd q.2.1.ns q.2.2∧(q.1:Int)≤lvl L q.2.1.ns q.2.2∧jU (fun i=>w.testBit i) q.1 q.2.1 q.2.2=jU (fun i=>w.testBit i) L S 1∧q.2.1.ns.length+q.1≤DB) (fun q=>q.1) (fun q=>[(6,.int ((q.1:Int) - 1)),(5,.int q.2.2)]) (fun q=>jr L q.2.1++[(1000000000,⟨1000000000,[.ptr 700 0],false⟩)]) (L,S,1) ⟨Nat.le_refl _,h,v1 _,by rw [ir _ _ aH];exact Int.le_refl _,rfl,by simp only;omega⟩ ?_ ?_
 ·(refine cm ?_)
  (exact bd)
 ·rintro ⟨m,T,k⟩ ⟨hm,hT,hk,hl,he,hb2⟩ K hK
  simp only at hm hT hk hl he hb2
  (refine cm ?_)
  cases m with
  |zero=>
   (repeat' (first|(refine hK _ ?_;clear hK K)|(refine aM (fun K hK=>?_))|(refine gR ?_;refine aP ?_)|(refine gQ ?_;refine bT ?_)|(refine gX ?_;refine bV ?_)|(refine gT ?_;refine aZ ?_)|(apply_assumption (exfalso:=false) (symm:=false))))
   rw [← he]
   (refine bH (Le.refl _) (aQ (aO ab)) (by (repeat refine bq ab ?_);exact aY _) ab ae ⟨rfl,rfl⟩)
  |succ m=>
   rw [show ((m+1:Nat):Int) - 1=(m:Int) by omega]
   have hbit:=JI (m:=m) hw
   obtain ⟨Rr,hR⟩:∃ r,r=jU (fun i=>w.testBit i) L S 1:=⟨_,rfl⟩
   rw [← hR] at he
   unfold jU at he
   simp only at he
   cases hx:w.testBit m with
   |true=>
    rw [hx,if_pos rfl] at he
    rw [hx,if_pos rfl] at hbit
    have r:=lR hT (lv:=m) (lo:=0) (hi:=k) aj aj (v0 _) hk (by first|omega|(rw [ir _ _ aj];omega)) (by first|omega|(rw [ir _ _ aj];omega))
    have c:=lS L T m 0 k aj
    have g:=r.gr.len
    have lz:=r.le
    generalize ed T m 0 k=z at *
    (repeat' (first|(refine hK _ ?_;clear hK K)|(refine aM (fun K hK=>?_))|(refine gR ?_;refine aP ?_)|(refine bn (fun K hK=>?_);(refine bI (c) (by (repeat (first|exact bP|refine bA ab ?_))) (fun _ h=>by cases h) ab (fun x hp' hx=>?_);obtain ⟨rfl,rfl⟩:=hx<;>simp only [go_sem,seval,dj,aV]))|(refine gE ?_;refine cc ?_)|(refine gQ ?_;(first|(refine cf ?_)|(refine aS (fun hc=>?_) (fun hc=>?_)<;>(try (first|contradiction|omega)))))|(refine gW ?_;refine bN ?_)|(refine aN ?_)|(refine gS ?_;refine aX ?_)))
    refine ⟨(m,z.1,z.2),⟨by simp only;omega,r.ok,r.vd,by simp only;omega,by rw [← hR];exact he,by simp only;omega⟩,by simp only;omega,?_⟩
    (refine cm ?_)
    (exact bd)
   |false=>
    rw [hx,if_neg ax] at he
    rw [hx,if_neg ax] at hbit
    have r:=lR hT (lv:=m) (lo:=k) (hi:=0) aj aj hk (v0 _) (by first|omega|(rw [ir _ _ aj];omega)) (by first|omega|(rw [ir _ _ aj];omega))
    have c:=lS L T m k 0 aj
    have g:=r.gr.len
    have lz:=r.le
    generalize ed T m k 0=z at *
    (repeat' (first|(refine hK _ ?_;clear hK K)|(refine aM (fun K hK=>?_))|(refine gR ?_;refine aP ?_)|(refine bn (fun K hK=>?_);(refine bI (c) (by (repeat (first|exact bP|refine bA ab ?_))) (fun _ h=>by cases h) ab (fun x hp' hx=>?_);obtain ⟨rfl,rfl⟩:=hx<;>simp only [go_sem,seval,dj,aV]))|(refine gE ?_;refine cc ?_)|(refine gQ ?_;(first|(refine cf ?_)|(refine aS (fun hc=>?_) (fun hc=>?_)<;>(try (first|contradiction|omega)))))|(refine gW ?_;refine bN ?_)|(refine aN ?_)|(refine gS ?_;refine aX ?_)))
    refine ⟨(m,z.1,z.2),⟨by simp only;omega,r.ok,r.vd,by simp only;omega,by rw [← hR];exact he,by simp only;omega⟩,by simp only;omega,?_⟩
    (refine cm ?_)
    (exact bd)
end Go.Proofs.YtkbiagkbmodgdaaGreat
namespace Go.Proofs.YtkbiagkbmodgdaaGreat
open Go.Ab
open Go
set_option maxRecDepth 10000
attribute [local irreducible] PV eR ef AW bg dn ec Ab.Fin ft gI RV jX Le eI fM mg gV kf dz dg
set_option maxHeartbeats 2000000
structure Op where
 pre:List Int
 add:List Int
 del:List Int
 cost:Int
 deriving Inhabited,DecidableEq
structure Task where
 facts:Int
 init:List Int
 goal:List Int
 ops:List Op
 deriving Inhabited,DecidableEq
abbrev Op.av (o:Op):AV:=.agg [ints o.pre,ints o.add,ints o.del,.int o.cost]
abbrev tD (o:Op):List AV:=[ints o.pre,ints o.add,ints o.del,.int o.cost]
abbrev JK (l:List Op):AV:=.cr 4 80 (l.map Op.av)
abbrev Task.av (t:Task):AV:=.agg [.int t.facts,ints t.init,ints t.goal,JK t.ops]
abbrev Task.cs (t:Task):List AV:=[.int t.facts,ints t.init,ints t.goal,JK t.ops]
abbrev jL (p:Int×Int):AV:=fault p.1 p.2
@[go_sem] theorem Hb (l:List Op):(l.map Op.av).flatMap AV.cells=l.flatMap tD:=by rw [List.flatMap_map];rfl
@[go_sem] theorem OK (a b:List Op):(a++b).flatMap tD=a.flatMap tD++b.flatMap tD:=List.flatMap_append
@[go_sem] theorem OL (l:List Op):(l.flatMap tD).length=l.length * 4:=by
 induction l with
 |nil=>rfl
 |cons w l ih=>simp [List.flatMap_cons,ih];omega
@[go_sem] theorem M1 (id:Nat) (l:List Op):AV.ct id (l.flatMap tD)=l.flatMap tD:=gY id tD l fun _=>rfl
@[go_sem] theorem NZ (id:Nat) (l:List Op):AV.bz id (l.flatMap tD)=false:=eU id tD l fun _=>rfl
theorem JL (l:List Op):AV.cj (l.flatMap tD)=true:=fK tD l fun _=>rfl
@[go_sem] theorem M3 (id sz bw n:Nat) (es:List AV) (l:List Op):AV.du id sz bw n es (l.flatMap tD)=l.flatMap tD:=ew (JL l)
def l9 (o:Op) (n:Int):Bool:=isSet o.pre n&&isSet o.add n&&isSet o.del n&&qk o.add o.del
def BA (o:Op) (n:Int):Int:=if l9 o n=false then 5 else if o.cost < 0∨100 < o.cost then 3 else 0
theorem pc (a b:List Int) (n:Int) (hs:isSet b n=true):bg Tryz.prog 66 [ints a,ints b] (fun r=>r= .bool (!qk a b)):=Hc a b (cG.1 hs).2
theorem oH (o:Op) (n:Int):bg Tryz.prog 179 [o.av,.int n] (fun r=>r= .int (BA o n)):=by
 (refine bh Tryz.func179 Tryz.ntmps179 ?_)
 (repeat' (first|(refine hK _ ?_;clear hK K)|(refine aM (fun K hK=>?_))|(refine gR ?_;refine aP ?_)|(refine gC 129 ?_;refine bp (kU _ _) ?_)|(refine gC 66 ?_;refine bp (pc _ _ n az) ?_)|(refine bn (fun K hK=>?_);(first|(refine bK (bl ab ab ak) ?_)|(refine bK (bm ab ab ak) ?_)))|(refine gE ?_;(first|(refine cc ?_)|(refine dL (fun _=>?_))))|(refine gG ?_;refine cB (fun hc=>?_) (fun hc=>?_)<;>(try (first|contradiction|omega)))|(refine gQ ?_;(first|(refine cf ?_)|(refine bT ?_)|(refine aS (fun hc=>?_) (fun hc=>?_)<;>(try (first|contradiction|omega)))))|(refine gW ?_;refine bN ?_)|(refine aN ?_)|(refine gX ?_;refine bV ?_)|(refine gT ?_;refine aZ ?_)|(refine gS ?_;refine aX ?_)|(apply_assumption (exfalso:=false) (symm:=false))))
 all_goals (refine aT (Le.refl _) (aQ (aO ab)) af ?_)
 all_goals (simp_all [BA,l9];done)
def zM (n:Int) (l:List Op) (i:Nat):Option (Int×Int):=if BA l[i]! n=0 then none else some (BA l[i]! n,i)
def cW (t:Task):Int×Int:=
 if t.facts < 0∨24 < t.facts then (3,-1) else if isSet t.init t.facts=false then (5,-2) else if isSet t.goal t.facts=false then (5,-3) else if 40 < t.ops.length then (2,-1) else (bD (zM t.facts t.ops) t.ops.length).getD (0,0)
theorem N0 {t:Task} (h:t.facts < 0∨24 < t.facts):cW t=(3,-1):=by rw [cW,if_pos h]
theorem Pq {t:Task} (h:¬(t.facts < 0∨24 < t.facts)) (h2:isSet t.init t.facts=false):cW t=(5,-2):=by rw [cW,if_neg h,if_pos h2]
theorem Pr {t:Task} (h:¬(t.facts < 0∨24 < t.facts)) (h2:isSet t.init t.facts=true) (h3:isSet t.goal t.facts=false):cW t=(5,-3):=by rw [cW,if_neg h,if_neg (by simp [h2]),if_pos h3]
theorem Ps {t:Task} (h:¬(t.facts < 0∨24 < t.facts)) (h2:isSet t.init t.facts=true) (h3:isSet t.goal t.facts=true) (h4:40 < t.ops.length):cW t=(2,-1):=by rw [cW,if_neg h,if_neg (by simp [h2]),if_neg (by simp [h3]),if_pos h4]
theorem NQ {t:Task} (h:¬(t.facts < 0∨24 < t.facts)) (h2:isSet t.init t.facts=true) (h3:isSet t.goal t.facts=true) (h4:¬40 < t.ops.length):cW t=(bD (zM t.facts t.ops) t.ops.length).getD (0,0):=by
 rw [cW,if_neg h,if_neg (by simp [h2]),if_neg (by simp [h3]),if_neg h4]
theorem rv {n:Int} {l:List Op} {k:Nat} (h:k < l.length):zM n l k=if BA l[k] n=0 then none else some (BA l[k] n,(k:Int)):=by simp [zM,h]
theorem oI (t:Task):bg Tryz.prog 128 [t.av] (fun r=>r=jL (cW t)):=by
 (refine bh Tryz.func128 Tryz.ntmps128 ?_)
 (repeat' (first|(refine hK _ ?_;clear hK K)|(refine aM (fun K hK=>?_))|(refine gR ?_;refine aP ?_)|(refine gC 129 ?_;refine bp (kU _ _) ?_)|(refine gC 179 ?_;refine bp (oH _ _) ?_)|(refine bn (fun K hK=>?_);(first|(refine bK (bl ab ab ak) ?_)|(refine bK (bm ab ab ak) ?_)|(refine bK (pv_neq ab ab) ?_)|(refine bK (tI ab ab) ?_)|(refine bK (tK ab ab ah) ?_)))|(refine gE ?_;(first|(refine cc ?_)|(refine dL (fun _=>?_))))|(refine gG ?_;refine cB (fun hc=>?_) (fun hc=>?_)<;>(try (first|contradiction|omega)))|(refine gQ ?_;(first|(refine cf ?_)|(refine bT ?_)|(refine aS (fun hc=>?_) (fun hc=>?_)<;>(try (first|contradiction|omega)))))|(refine gW ?_;refine bN ?_)|(refine aN ?_)|(refine gX ?_;refine bV ?_)|(refine gT ?_;refine aZ ?_)|(refine gS ?_;refine aX ?_)|(apply_assumption (exfalso:=false) (symm:=false))))
 ·(refine aT (Le.refl _) (aQ (bt (by first|exact bF ab ab ab ab|exact br ab ab ab aq))) af ?_)
  rw [N0 aj]
  rfl
 ·(refine aT (Le.refl _) (aQ (bt (by first|exact bF ab ab ab ab|exact br ab ab ab aq))) af ?_)
  rw [N0 aj]
  rfl
 ·(refine aT (Le.refl _) (aQ (bt (by first|exact bF ab ab ab ab|exact br ab ab ab aq))) af ?_)
  rw [Pq aj az]
  rfl
 ·(refine aT (Le.refl _) (aQ (bt (by first|exact bF ab ab ab ab|exact br ab ab ab aq))) af ?_)
  rw [Pr aj az az]
  rfl
 ·(refine aT (Le.refl _) (aQ (bt (by first|exact bF ab ab ab ab|exact br ab ab ab aq))) af ?_)
  rw [Ps aj az az aj]
  rfl
 have e:=NQ (t:=t) aj az az aj
 refine bO [3,4,5,41,42,43,44,45,46,47,48,49,50,51,52,53,54,55] (fun k:Nat=>k≤t.ops.length∧bD (zM t.facts t.ops) k=none) (fun k=>t.ops.length - k) (fun k=>[(41,.int k)]) (fun _=>[(1,⟨38,t.cs,true⟩),(2,⟨42,[.int 0,.int 0],true⟩)]) 0 ⟨by omega,rfl⟩ ?_ ?_
 ·(refine cm ?_)
  (exact bd)
 ·rintro k ⟨hk,hn⟩ K hK
  (refine cm ?_)
  by_cases hlt:k < t.ops.length
  ·have hkk:=rv (n:=t.facts) hlt
   (repeat' (first|(refine hK _ ?_;clear hK K)|(refine aM (fun K hK=>?_))|(refine gR ?_;refine aP ?_)|(refine gC 129 ?_;refine bp (kU _ _) ?_)|(refine gC 179 ?_;refine bp (oH _ _) ?_)|(refine bn (fun K hK=>?_);(first|(refine bK (bl ab ab ak) ?_)|(refine bK (bm ab ab ak) ?_)|(refine bK (pv_neq ab ab) ?_)|(refine bK (tI ab ab) ?_)|(refine bK (tK ab ab ah) ?_)))|(refine gE ?_;(first|(refine cc ?_)|(refine dL (fun _=>?_))))|(refine gG ?_;refine cB (fun hc=>?_) (fun hc=>?_)<;>(try (first|contradiction|omega)))|(refine gQ ?_;(first|(refine cf ?_)|(refine bT ?_)|(refine aS (fun hc=>?_) (fun hc=>?_)<;>(try (first|contradiction|omega)))))|(refine gW ?_;refine bN ?_)|(refine aN ?_)|(refine gX ?_;refine bV ?_)|(refine gT ?_;refine aZ ?_)|(refine gS ?_;refine aX ?_)|(apply_assumption (exfalso:=false) (symm:=false))))
   ·(refine aT (Le.refl _) (aQ (bt (by first|exact bF ab ab ab ab|exact br ab ab ab aq))) af ?_)
    rw [e,cQ hn (by rw [hkk,if_neg hc]) hlt]
    rfl
   ·(refine ⟨k+1,⟨by omega,dy hn (by rw [hkk,if_pos hc])⟩,by omega,?_⟩;(refine cm ?_);(exact bd))
  ·obtain rfl:k=t.ops.length:=by omega
   (repeat' (first|(refine hK _ ?_;clear hK K)|(refine aM (fun K hK=>?_))|(refine gR ?_;refine aP ?_)|(refine gC 129 ?_;refine bp (kU _ _) ?_)|(refine gC 179 ?_;refine bp (oH _ _) ?_)|(refine bn (fun K hK=>?_);(first|(refine bK (bl ab ab ak) ?_)|(refine bK (bm ab ab ak) ?_)|(refine bK (pv_neq ab ab) ?_)|(refine bK (tI ab ab) ?_)|(refine bK (tK ab ab ah) ?_)))|(refine gE ?_;(first|(refine cc ?_)|(refine dL (fun _=>?_))))|(refine gG ?_;refine cB (fun hc=>?_) (fun hc=>?_)<;>(try (first|contradiction|omega)))|(refine gQ ?_;(first|(refine cf ?_)|(refine bT ?_)|(refine aS (fun hc=>?_) (fun hc=>?_)<;>(try (first|contradiction|omega)))))|(refine gW ?_;refine bN ?_)|(refine aN ?_)|(refine gX ?_;refine bV ?_)|(refine gT ?_;refine aZ ?_)|(refine gS ?_;refine aX ?_)|(apply_assumption (exfalso:=false) (symm:=false))))
   (refine aT (Le.refl _) (aQ (bt (by first|exact bF ab ab ab ab|exact br ab ab ab aq))) af ?_)
   rw [e,hn]
   rfl
end Go.Proofs.YtkbiagkbmodgdaaGreat
namespace Go.Proofs.YtkbiagkbmodgdaaGreat
open Go.Ab
open Go
set_option maxRecDepth 10000
attribute [local irreducible] dE fh mC lW db PV eR ef AW bg dn ec dP cO Ab.Fin ft en gI iO RV jX Le eI fM mg gV kf dz dg
set_option maxHeartbeats 8000000
@[local go_sem] theorem N1 (i g:Nat) (y:cq):AV.cv i (.yl g y)=(g == i):=rfl
@[local go_sem] theorem M4 (i g:Nat) (y:cq):AV.dJ i (.yl g y)=if (g == i)=true then .any else .yl g y:=rfl
mutual
theorem EJ {id:Nat} {cs:List AV}:∀ {x:AV},x.fm=true→AV.iv id cs x=x
 | .agg l,h=>by simp only [AV.iv];rw [gq (by simpa [AV.fm] using h)]
 | .dr l,h=>by simp only [AV.iv];rw [gq (by simpa [AV.fm] using h)]
 | .fn f l,h=>by simp only [AV.iv];rw [gq (by simpa [AV.fm] using h)]
 | .ptr i o,h=>by simp [AV.fm] at h
 | .yl i y,h=>by simp [AV.fm] at h
 | .sl a b i o k,h=>by simp [AV.fm] at h
 | .any,_=>rfl
 | .v x,_=>rfl
 | .cr a b l,_=>rfl
 | .bx l,_=>rfl
theorem gq {id:Nat} {cs:List AV}:∀ {l:List AV},AV.cj l=true→AV.eJ id cs l=l
 |[],_=>rfl
 |x::r,h=>by
  simp only [AV.cj,Bool.and_eq_true] at h
  simp only [AV.eJ]
  rw [EJ h.1,gq h.2]
end
def jS:Hp→Hp→Hp
 |[],h=>h
 |(i,b)::r,h=>jS r (cK h i b)
@[go_sem] theorem D9 (h:Hp):jS [] h=h:=rfl
@[go_sem] theorem Bj (i:Nat) (b:fZ) (r h:Hp):jS ((i,b)::r) h=jS r (cK h i b):=rfl
theorem bU {P:Program} {ι:Type} {c:Code} {fr:List AV} {hp:Hp} {Q:Exit→St→Prop} (ws:List Nat) (C:ι→Prop) (μ:ι→Nat) (sl:ι→List (Nat×AV)) (ms:ι→Hp) (i0:ι) (h0:C i0)
  (hs:Le ⟨fr,hp⟩ ⟨gk (sl i0) (jw ws fr),jS (ms i0) hp⟩)
  (hr:∀ i,C i→∀ K:St→Prop,(∀ s',(∃ j,C j∧μ j < μ i∧Le s' ⟨gk (sl j) (jw ws fr),jS (ms j) hp⟩)→K s')→AW P c ⟨gk (sl i) (jw ws fr),jS (ms i) hp⟩ (sO K Q)):AW P (.loop c) ⟨fr,hp⟩ Q:=
 bO ws C μ sl (fun i=>jS (ms i) hp) i0 h0 hs hr
abbrev SSet.av (c:SSet):AV:=.agg [ints c.ia,ints c.no]
@[go_sem] theorem N2 (id:Nat) (c:List AV) (l:List I3):AV.eJ id c (tF l)=tF l:=gq (BR l)
@[go_sem] theorem M5 {κ:Type} {kA:κ→AV} [hp:sW kA] (id:Nat) (c:List AV) (kv:List (κ×Int)):AV.eJ id c (wM kA kv)=wM kA kv:=gq (rb kv)
abbrev JM (L:Int) (S:eB) (all:Int):Hp:=(702,⟨129,[.ptr 700 0,.int all],true⟩)::jr L S
theorem th (xs:List Int):bg Tryz.prog 180 [ints xs] (fun r=>r= .fn 216 [.bx [ints xs]]):=by
 (refine bh Tryz.func180 Tryz.ntmps180 ?_)
 (repeat' (first|(refine hK _ ?_;clear hK K)|(refine aM (fun K hK=>?_))|(refine gR ?_;refine aP ?_)|(refine bn (fun K hK=>?_);refine fD (bQ 1 rfl rfl rfl) ?_;simp only [go_sem,seval];refine bK cD ?_)|(refine gW ?_;refine bN ?_)|(refine gT ?_;refine aZ ?_)))
 (refine aT (Le.refl _) (aQ (aO ab)) af ?_)
 rfl
theorem Ac (L:Int) (h0L:0≤L) (hL:L≤24) (S:eB) (all:Int) (c:SSet) (hc:MX L c) (h:ma L S) (hb:S.ns.length+1200+zS≤DB) :
  cO Tryz.prog 132 [.ptr 702 0,c.av] (JM L S all) [] [702,700] (fun x hp=>x= .int (mU L c S).2∧hp=JM L (mU L c S).1 all):=by
 have hcl1:=hc.l1
 have hcl2:=hc.l2
 (refine ck Tryz.func132 Tryz.ntmps132 ?_)
 (repeat' (first|(refine hK _ ?_;clear hK K)|(refine aM (fun K hK=>?_))|(refine gR ?_;refine aP ?_)|(refine gC 180 ?_;refine bp (th _) ?_)|(refine gE ?_;refine cc ?_)|(refine aN ?_)))
 (refine cT (bQ 3 rfl rfl rfl) ?_;simp only [go_sem,seval])
 have hK9:=hK
 refine jC 1000000001 ab aw ae ae ae Tryz.func216 Tryz.ntmps216 ab ab (fun y hyp hya hyb=>?_)
 simp only [go_sem,seval,dj,aV,List.length_cons,List.length_nil,List.replicate_succ,List.replicate_zero,Nat.reduceSub]
 (repeat' (first|(refine hK _ ?_;clear hK K)|(refine aM (fun K hK=>?_))|(refine gR ?_;refine aP ?_)|(refine gE ?_;refine cc ?_)|(refine aN ?_)))
 obtain ⟨Rr,hR⟩:∃ r,r=j9 L true c.ia.reverse S 1:=⟨_,rfl⟩
 refine bU [3,7,8,9,10,11,12,13,14,15,16,17,18] (fun q:Nat×eB×Int=>q.1≤c.ia.length∧ma L q.2.1∧Vd q.2.1.ns q.2.2∧dD q.2.1.ns q.2.2∧j9 L true (c.ia.take q.1).reverse q.2.1 q.2.2=Rr∧q.2.1.ns.length+q.1 * 25≤S.ns.length+c.ia.length * 25) (fun q=>q.1) (fun q=>[(3,.int ((q.1:Int) - 1))]) (fun q=>jr L q.2.1++[(5,⟨3,[.int q.2.2],true⟩)]) (c.ia.length,S,1) ⟨Nat.le_refl _,h,v1 _,.one,by rw [hR];simp only [List.take_length],by simp only;omega⟩ ?_ ?_
 ·(refine cm ?_)
  (exact bd)
 ·rintro ⟨j,T,k⟩ ⟨hj,hT,hk,hch,he,hl⟩ K hK
  simp only at hj hT hk hch he hl ⊢
  (refine cm ?_)
  cases j with
  |zero=>
   simp only [List.take_zero,List.reverse_nil,j9] at he
   simp only [show ((0:Nat):Int) - 1= -1 from rfl]
   (repeat' (first|(refine hK _ ?_;clear hK K)|(refine aM (fun K hK=>?_))|(refine gR ?_;refine aP ?_)|(refine gQ ?_;refine bT ?_)|(refine gX ?_;refine bV ?_)))
   refine ⟨_,_,.normal,1000000001,_,Le.refl _,gp,rfl,by rfl,?_⟩
   simp only [go_sem,seval,dj,aV]
   refine hK9 _ ?_
   clear hK9 hK
   (repeat' (first|(refine hK _ ?_;clear hK K)|(refine aM (fun K hK=>?_))|(refine gR ?_;refine aP ?_)|(refine gC 180 ?_;refine bp (th _) ?_)|(refine aN ?_)))
   have he1:=he.trans hR
   clear he hR
   have hK9:=hK
   refine jC 1000000001 ab aw ae ae ae Tryz.func216 Tryz.ntmps216 ab ab (fun y hyp hya hyb=>?_)
   simp only [go_sem,seval,dj,aV,List.length_cons,List.length_nil,List.replicate_succ,List.replicate_zero,Nat.reduceSub]
   (repeat' (first|(refine hK _ ?_;clear hK K)|(refine aM (fun K hK=>?_))|(refine gR ?_;refine aP ?_)|(refine gE ?_;refine cc ?_)|(refine aN ?_)))
   obtain ⟨Rr,hR⟩:∃ r,r=j9 L false c.no.reverse T k:=⟨_,rfl⟩
   refine bU [3,7,8,9,10,11,12,13,14,15,16,17,18] (fun q:Nat×eB×Int=>q.1≤c.no.length∧ma L q.2.1∧Vd q.2.1.ns q.2.2∧dD q.2.1.ns q.2.2∧j9 L false (c.no.take q.1).reverse q.2.1 q.2.2=Rr∧q.2.1.ns.length+q.1 * 25≤S.ns.length+(c.ia.length * 25+c.no.length * 25)) (fun q=>q.1) (fun q=>[(3,.int ((q.1:Int) - 1))]) (fun q=>jr L q.2.1++[(5,⟨3,[.int q.2.2],true⟩)]) (c.no.length,T,k) ⟨Nat.le_refl _,hT,hk,hch,by rw [hR];simp only [List.take_length],by simp only;omega⟩ ?_ ?_
   ·(refine cm ?_)
    (exact bd)
   ·rintro ⟨j,T,k⟩ ⟨hj,hT,hk,hch,he,hl⟩ K hK
    simp only at hj hT hk hch he hl ⊢
    (refine cm ?_)
    cases j with
    |zero=>
     simp only [List.take_zero,List.reverse_nil,j9] at he
     simp only [show ((0:Nat):Int) - 1= -1 from rfl]
     (repeat' (first|(refine hK _ ?_;clear hK K)|(refine aM (fun K hK=>?_))|(refine gR ?_;refine aP ?_)|(refine gQ ?_;refine bT ?_)|(refine gX ?_;refine bV ?_)))
     refine ⟨_,_,.normal,1000000001,_,Le.refl _,gp,rfl,by rfl,?_⟩
     simp only [go_sem,seval,dj,aV]
     refine hK9 _ ?_
     clear hK9 hK
     (repeat' (first|(refine hK _ ?_;clear hK K)|(refine aM (fun K hK=>?_))|(refine gR ?_;refine aP ?_)|(refine gT ?_;refine aZ ?_)))
     have e:mU L c S=(T,k):=by unfold mU;simp only;rw [← he1];exact (he.trans hR).symm
     rw [e]
     (refine bH (Le.refl _) (aQ (aO ab)) (by (repeat refine bq ab ?_);exact aY _) ab ae ⟨rfl,rfl⟩)
    |succ j=>
     simp only [show ((j+1:Nat):Int) - 1=(j:Int) by omega]
     have hjl:j < c.no.length:=by omega
     have hp:=hc.n2 c.no[j] (List.getElem_mem hjl)
     have hst:(c.no.take (j+1)).reverse=c.no[j]::(c.no.take j).reverse:=by rw [List.take_succ_eq_append_getElem hjl,List.reverse_append];rfl
     rw [hst] at he
     unfold j9 at he
     simp only at he
     (repeat' (first|(refine hK _ ?_;clear hK K)|(refine aM (fun K hK=>?_))|(refine fH 3 ab ?_;refine aP ?_)|(refine gQ ?_;refine cf ?_)|(refine aN ?_)|(refine gS ?_;refine aX ?_)))
     refine e8 ?_
     iterate 6 ((refine bu rfl rfl (fun K1 hK1=>?_));(first|refine bK cR ?_|refine bK (qI ab ab ab) ?_|refine bK (py ab ab aj aA) ?_);(try simp only [go_sem]);refine hK1 _ ?_;clear hK1 K1)
     refine bX 1000000002 hyp hya hyb ab ab ab ab ab aw aw aw ab ae ab ab ?_
     simp only [go_sem,seval]
     refine gR ?_;refine aP ?_
     refine ⟨_,_,Le.refl _,by rfl,by rfl,?_⟩
     simp only [go_sem,seval]
     (repeat' (refine aN ?_))
     have r1:=yi hT hp.1 hp.2 false
     have c1:=Ha L T c.no[j] false aj
     generalize oG T c.no[j] false=l at r1 c1 he
     obtain ⟨l1,l2,l3,l4,l5⟩:=r1
     have gl:=l2.len
     have c2:=yj L h0L hL l.1 l.2 k l1 l3 (l2.vd hk) aj
     have r2:=fe h0L (.inl rfl) L.toNat l.1 l.2 k l1 l3 (l2.vd hk) (mb h0L l1 l3 (l2.vd hk))
     have ez:di L 0 L.toNat l.1 l.2 k=fC L 0 l.1 l.2 k:=rfl
     rw [ez] at r2
     generalize fC L 0 l.1 l.2 k=z at r2 c2 he
     obtain ⟨k1,k2⟩:=r2.ch rfl l4 (l2.chain hch)
     have gz:=k2.len
     refine nJ [.ptr 702 0,.ptr 702 0,.ptr 702 0,.ptr 700 0,.ptr 702 0,.ptr 702 0,.ptr 702 0,.ptr 700 0,.int c.no[j],.int l.2,.int k,.int z.2,.any] [[2],[32],[33],[34],[2],[36],[37],[38],[9],[39,40],[5],[35,41,42],[5,43]] [9,11,12] [(0,0),(0,1),(1,0),(1,1),(2,0),(2,1),(3,0),(3,1),(4,0),(5,0),(6,0),(7,0),(8,0),(10,0),(10,1)] [fun h=>jr L l.1++eZ (aV (jr L T)++[]) [700] h,fun h=>jr L z.1++eZ (aV (jr L l.1)++[]) [700] h,fun h=>cK h 5 ⟨3,[.int z.2],true⟩] ab ah au (all_cons ⟨_,rfl,rfl,aR⟩ (all_cons ⟨_,rfl,rfl,aR⟩ (all_cons ⟨_,rfl,rfl,(by first|exact ba (cu ab) ab|exact ba (b8 ab) ab|exact ba (b9 ab) ab)⟩ (all_cons ⟨_,rfl,rfl,(by first|exact ba (cu ab) ab|exact ba (b8 ab) ab|exact ba (b9 ab) ab)⟩ (all_cons ⟨_,rfl,rfl,(by first|exact ba (bl ab ab ak) ab|exact ba (bm ab ab ak) ab)⟩ (all_cons ⟨_,rfl,rfl,(by first|exact ba (bl ab ab ak) ab|exact ba (bm ab ab ak) ab)⟩ (all_cons ⟨_,rfl,rfl,aR⟩ (all_cons ⟨_,rfl,rfl,aR⟩ (all_cons ⟨_,rfl,rfl,aR⟩ (all_cons ⟨_,rfl,rfl,(by first|exact ba (cu ab) ab|exact ba (b8 ab) ab|exact ba (b9 ab) ab)⟩ (all_cons ⟨_,rfl,rfl,(by first|exact ba (bl ab ab ak) ab|exact ba (bm ab ab ak) ab)⟩ (all_cons ⟨_,rfl,rfl,aR⟩ (all_cons ⟨_,rfl,rfl,(by first|exact ba (cR) ab)⟩ (all_cons ⟨_,rfl,rfl,aR⟩ (all_cons ⟨_,rfl,rfl,aR⟩ all_nil))))))))))))))) (dS (fun f hfl hU hfm K1 hK1=>⟨_,rfl,rfl,(by (refine bI (by rw [eM hU ab];exact c1) (by (repeat (first|exact bP|refine bA ab ?_))) (fun _ h=>by cases h) ab (fun x hp' hx=>?_);obtain ⟨rfl,rfl⟩:=hx;rw [fb hfm (by repeat (first|exact all_nil|refine all_cons ab ?_)) (by repeat (first|exact all_nil|refine all_cons ab ?_))];exact hK1))⟩) (dS (fun f hfl hU hfm K1 hK1=>⟨_,rfl,rfl,(by (refine bI (by rw [eM hU ab];exact c2) (by (repeat (first|exact bP|refine bA ab ?_))) (fun _ h=>by cases h) ab (fun x hp' hx=>?_);obtain ⟨rfl,rfl⟩:=hx;rw [fb hfm (by repeat (first|exact all_nil|refine all_cons ab ?_)) (by repeat (first|exact all_nil|refine all_cons ab ?_))];exact hK1))⟩) (dS (fun f hfl hU hfm K1 hK1=>⟨_,rfl,rfl,(by (refine qi (by rw [nI hU ab];exact rfl) (by first|exact nI hU ab|rfl) ab ab (by first|exact .inl rfl|exact .inr ⟨_,rfl⟩) ab (by exact of_decide_eq_true ab) ?_;exact hK1))⟩) nH))) ?_
     simp only [go_sem,seval,dj,aV,CJ,List.length_cons,List.length_nil]
     refine ⟨_,_,_,1000000001,Le.refl _,by rfl,by rfl,by rfl,rfl,?_⟩
     simp only [go_sem,seval]
     refine bu rfl rfl (fun K1 hK1=>?_)
     refine bK (pP ab) ?_
     simp only [go_sem,seval];refine hK1 _ ?_;clear hK1 K1
     refine cA ?_
     (repeat' (first|(refine hK _ ?_;clear hK K)|(refine gR ?_;refine aP ?_)|(refine gE ?_;refine cc ?_)|(refine gQ ?_;refine bT ?_)|(refine gS ?_;refine aX ?_)))
     refine ⟨(j,z.1,z.2),⟨by simp only;omega,r2.ok,r2.vd,k1,he,by simp only;omega⟩,by simp only;omega,?_⟩
     (refine cm ?_)
     (exact bd)
  |succ j=>
   simp only [show ((j+1:Nat):Int) - 1=(j:Int) by omega]
   have hjl:j < c.ia.length:=by omega
   have hp:=hc.n1 c.ia[j] (List.getElem_mem hjl)
   have hst:(c.ia.take (j+1)).reverse=c.ia[j]::(c.ia.take j).reverse:=by rw [List.take_succ_eq_append_getElem hjl,List.reverse_append];rfl
   rw [hst] at he
   unfold j9 at he
   simp only at he
   (repeat' (first|(refine hK _ ?_;clear hK K)|(refine aM (fun K hK=>?_))|(refine fH 3 ab ?_;refine aP ?_)|(refine gQ ?_;refine cf ?_)|(refine aN ?_)|(refine gS ?_;refine aX ?_)))
   refine e8 ?_
   iterate 6 ((refine bu rfl rfl (fun K1 hK1=>?_));(first|refine bK cR ?_|refine bK (qI ab ab ab) ?_|refine bK (py ab ab aj aA) ?_);(try simp only [go_sem]);refine hK1 _ ?_;clear hK1 K1)
   refine bX 1000000002 hyp hya hyb ab ab ab ab ab aw aw aw ab ae ab ab ?_
   simp only [go_sem,seval]
   refine gR ?_;refine aP ?_
   refine ⟨_,_,Le.refl _,by rfl,by rfl,?_⟩
   simp only [go_sem,seval]
   (repeat' (refine aN ?_))
   have r1:=yi hT hp.1 hp.2 true
   have c1:=Ha L T c.ia[j] true aj
   generalize oG T c.ia[j] true=l at r1 c1 he
   obtain ⟨l1,l2,l3,l4,l5⟩:=r1
   have gl:=l2.len
   have c2:=yj L h0L hL l.1 l.2 k l1 l3 (l2.vd hk) aj
   have r2:=fe h0L (.inl rfl) L.toNat l.1 l.2 k l1 l3 (l2.vd hk) (mb h0L l1 l3 (l2.vd hk))
   have ez:di L 0 L.toNat l.1 l.2 k=fC L 0 l.1 l.2 k:=rfl
   rw [ez] at r2
   generalize fC L 0 l.1 l.2 k=z at r2 c2 he
   obtain ⟨k1,k2⟩:=r2.ch rfl l4 (l2.chain hch)
   have gz:=k2.len
   refine nJ [.ptr 702 0,.ptr 702 0,.ptr 702 0,.ptr 700 0,.ptr 702 0,.ptr 702 0,.ptr 702 0,.ptr 700 0,.int c.ia[j],.int l.2,.int k,.int z.2,.any] [[2],[15],[16],[17],[2],[19],[20],[21],[7],[22,23],[5],[18,24,25],[5,26]] [9,11,12] [(0,0),(0,1),(1,0),(1,1),(2,0),(2,1),(3,0),(3,1),(4,0),(5,0),(6,0),(7,0),(8,0),(10,0),(10,1)] [fun h=>jr L l.1++eZ (aV (jr L T)++[]) [700] h,fun h=>jr L z.1++eZ (aV (jr L l.1)++[]) [700] h,fun h=>cK h 5 ⟨3,[.int z.2],true⟩] ab ah au (all_cons ⟨_,rfl,rfl,aR⟩ (all_cons ⟨_,rfl,rfl,aR⟩ (all_cons ⟨_,rfl,rfl,(by first|exact ba (cu ab) ab|exact ba (b8 ab) ab|exact ba (b9 ab) ab)⟩ (all_cons ⟨_,rfl,rfl,(by first|exact ba (cu ab) ab|exact ba (b8 ab) ab|exact ba (b9 ab) ab)⟩ (all_cons ⟨_,rfl,rfl,(by first|exact ba (bl ab ab ak) ab|exact ba (bm ab ab ak) ab)⟩ (all_cons ⟨_,rfl,rfl,(by first|exact ba (bl ab ab ak) ab|exact ba (bm ab ab ak) ab)⟩ (all_cons ⟨_,rfl,rfl,aR⟩ (all_cons ⟨_,rfl,rfl,aR⟩ (all_cons ⟨_,rfl,rfl,aR⟩ (all_cons ⟨_,rfl,rfl,(by first|exact ba (cu ab) ab|exact ba (b8 ab) ab|exact ba (b9 ab) ab)⟩ (all_cons ⟨_,rfl,rfl,(by first|exact ba (bl ab ab ak) ab|exact ba (bm ab ab ak) ab)⟩ (all_cons ⟨_,rfl,rfl,aR⟩ (all_cons ⟨_,rfl,rfl,(by first|exact ba (cR) ab)⟩ (all_cons ⟨_,rfl,rfl,aR⟩ (all_cons ⟨_,rfl,rfl,aR⟩ all_nil))))))))))))))) (dS (fun f hfl hU hfm K1 hK1=>⟨_,rfl,rfl,(by (refine bI (by rw [eM hU ab];exact c1) (by (repeat (first|exact bP|refine bA ab ?_))) (fun _ h=>by cases h) ab (fun x hp' hx=>?_);obtain ⟨rfl,rfl⟩:=hx;rw [fb hfm (by repeat (first|exact all_nil|refine all_cons ab ?_)) (by repeat (first|exact all_nil|refine all_cons ab ?_))];exact hK1))⟩) (dS (fun f hfl hU hfm K1 hK1=>⟨_,rfl,rfl,(by (refine bI (by rw [eM hU ab];exact c2) (by (repeat (first|exact bP|refine bA ab ?_))) (fun _ h=>by cases h) ab (fun x hp' hx=>?_);obtain ⟨rfl,rfl⟩:=hx;rw [fb hfm (by repeat (first|exact all_nil|refine all_cons ab ?_)) (by repeat (first|exact all_nil|refine all_cons ab ?_))];exact hK1))⟩) (dS (fun f hfl hU hfm K1 hK1=>⟨_,rfl,rfl,(by (refine qi (by rw [nI hU ab];exact rfl) (by first|exact nI hU ab|rfl) ab ab (by first|exact .inl rfl|exact .inr ⟨_,rfl⟩) ab (by exact of_decide_eq_true ab) ?_;exact hK1))⟩) nH))) ?_
   simp only [go_sem,seval,dj,aV,CJ,List.length_cons,List.length_nil]
   refine ⟨_,_,_,1000000001,Le.refl _,by rfl,by rfl,by rfl,rfl,?_⟩
   simp only [go_sem,seval]
   refine bu rfl rfl (fun K1 hK1=>?_)
   refine bK (pP ab) ?_
   simp only [go_sem,seval];refine hK1 _ ?_;clear hK1 K1
   refine cA ?_
   (repeat' (first|(refine hK _ ?_;clear hK K)|(refine gR ?_;refine aP ?_)|(refine gE ?_;refine cc ?_)|(refine gQ ?_;refine bT ?_)|(refine gS ?_;refine aX ?_)))
   refine ⟨(j,z.1,z.2),⟨by simp only;omega,r2.ok,r2.vd,k1,he,by simp only;omega⟩,by simp only;omega,?_⟩
   (refine cm ?_)
   (exact bd)
end Go.Proofs.YtkbiagkbmodgdaaGreat
