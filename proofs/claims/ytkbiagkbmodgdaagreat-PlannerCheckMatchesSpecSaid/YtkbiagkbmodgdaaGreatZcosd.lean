/- Part of a proof. No condition. -/
import Derived.Test.YtkbiagkbmodgdaaGreatZlma
import Derived.Test.YtkbiagkbmodgdaaGreatZlmf
import Derived.Test.YtkbiagkbmodgdaaGreatZre
import Derived.Test.YtkbiagkbmodgdaaGreatZrfe
import Derived.Test.YtkbiagkbmodgdaaGreatZrfj
set_option linter.unusedSimpArgs false
set_option linter.unusedVariables false
namespace Go.Proofs.YtkbiagkbmodgdaaGreat
open Go.Ab
open Go Tryz
set_option maxRecDepth 10000
section
attribute [local irreducible] dP fv mu lV dj PV ff ew AW bm da en dQ cX Ab.Fin fi er gF iN RV kh Le eV fL ma iG kM dJ dt
set_option maxHeartbeats 8000000
attribute [local go_sem] ec fm j1
theorem Kb {d:cR} (h:(AJ d).1=0):AJ d=(0,0):=by
 unfold AJ at h ⊢;split
 ·rename_i h1;rw [if_pos h1] at h;exact u7 h
 rename_i h1;rw [if_neg h1] at h;split
 ·rfl
 rename_i h2;rw [if_neg h2] at h;cases h
theorem CK (d:cR) (a:BE):bm prog 3 [d.av,a.av] (fun r=>r= .bool true):=by
 have cr:=EV d;have cc:=xX d a;have cs:=CL;rw [NK] at cr;rw [xY] at cc;by_cases hf:AJ d=(0,0)
 ·rw [if_pos hf] at cr cc
  have hri:=fun h8=>H9 (F6 d) (Kc hf) h8 (F7 d) a;generalize F6 d=g at *;generalize wz g a=x at *;obtain ⟨⟨fa,gi,gg,gop⟩,gl,gin⟩:=g;obtain ⟨fd,st,co,bo,ne⟩:=a;simp only at hri;by_cases h8:fa≤8
  ·have hri:=hri h8
   refine bc func3 ntmps3 ?_;(repeat' (first|refine gC 6 ?_;refine bg (cr) ?_|refine gC 7 ?_;refine bg (cc) ?_|refine gC 8 ?_;refine bg (cs) ?_|refine gC 9 ?_;refine bg (hri) ?_|refine bu (fun K hK=>?_);(first|refine bt (pv_neq aR aR) ?_|refine bt (pg aR aR) ?_|refine bt (pj aR aR ai) ?_|refine bt (cf aR aR az) ?_|refine bt (cQ aR aR az) ?_|refine bt (uP aR aR) ?_|refine bt (pe aR aR) ?_|refine bt (ph aR aR ai) ?_)|intro (K:St→Prop) hK|intro hc|(refine yJ 99 ?_ ?_ ?_ ?_<;>try exact VX)|fail))
   all_goals (refine VY ?_)
   all_goals first|rfl|simp
  refine bc func3 ntmps3 ?_;(repeat' (first|refine gC 6 ?_;refine bg (cr) ?_|refine gC 7 ?_;refine bg (cc) ?_|refine gC 8 ?_;refine bg (cs) ?_|refine gC 9 ?_;refine bg (hri) ?_|refine bu (fun K hK=>?_);(first|refine bt (pv_neq aR aR) ?_|refine bt (pg aR aR) ?_|refine bt (pj aR aR ai) ?_|refine bt (cf aR aR az) ?_|refine bt (cQ aR aR az) ?_|refine bt (uP aR aR) ?_|refine bt (pe aR aR) ?_|refine bt (ph aR aR ai) ?_)|intro (K:St→Prop) hK|intro hc|(refine yJ 99 ?_ ?_ ?_ ?_<;>try exact VX)|fail))
  all_goals (refine VY ?_)
  all_goals rfl
 rw [if_neg hf] at cr cc;have h1:(AJ d).1≠0:=fun h=>hf (Kb h);unfold qE at cr;generalize AJ d=p at *;refine bc func3 ntmps3 ?_;(repeat' (first|refine gC 6 ?_;refine bg (cr) ?_|refine gC 7 ?_;refine bg (cc) ?_|refine gC 8 ?_;refine bg (cs) ?_|refine bu (fun K hK=>?_);(first|refine bt (pv_neq aR aR) ?_|refine bt (pg aR aR) ?_|refine bt (pj aR aR ai) ?_|refine bt (cf aR aR az) ?_|refine bt (cQ aR aR az) ?_|refine bt (uP aR aR) ?_|refine bt (pe aR aR) ?_|refine bt (ph aR aR ai) ?_)|intro (K:St→Prop) hK|intro hc|(refine yJ 99 ?_ ?_ ?_ ?_<;>try exact VX)|fail))
 all_goals (refine VY ?_)
 all_goals rfl
end
section
attribute [local irreducible] PV ff ew AW bm da Ab.Fin fi RV kh Le eV fL ma iG kM dJ dt
abbrev sJ:gn:=.sl 1 8 .int
abbrev NL:gn:=.st [.str,.int]
abbrev qG:gn:=.st [.int,sJ]
abbrev F8:gn:=.st [.bool,qG]
abbrev EW:gn:=.st [.str,sJ]
abbrev Re:gn:=.st [.int,.int]
abbrev Kd:gn:=.st [.str,sJ,.sl 2 16 Re,.sl 3 40 F8,.sl 2 32 qG,.sl 2 32 qG,.int]
abbrev F9:gn:=.st [.sl 2 24 NL,.sl 2 24 NL,.sl 2 40 EW,.sl 7 144 Kd,.sl 2 32 qG,.sl 3 40 F8]
abbrev Ke:gn:=.st [sJ,.int]
abbrev Kf:gn:=.st [sJ,sJ]
abbrev Ga:gn:=.st [.bool,.sl 2 32 qG,.int,.sl 2 32 Ke,.sl 2 48 Kf]
theorem zA {α:Type} {S:AV→Prop} {f:α→AV} (h:∀ x,S x→∃ a,x=f a):∀ {es:List AV},(∀ e∈es,S e)→∃ xs:List α,es=xs.map f
 |[],_=>⟨[],rfl⟩
 |e::es,hs=>by
  obtain ⟨a,rfl⟩:=h e (hs e aC);obtain ⟨xs,rfl⟩:=zA h (es:=es) (fun e he=>hs e (by simp [he]));exact ⟨a::xs,rfl⟩
variable {s:gn} {us:List AV}
theorem iY {α:Type} {sz bw:Nat} {f:α→AV} (hs:∀ us,s.sat us→∃ a,s.pack us=f a) (h:(gn.sl sz bw s).sat us):∃ xs:List α,us=[.cD sz bw (xs.map f)]:=by
 obtain ⟨es,rfl,he⟩:=h;obtain ⟨xs,rfl⟩:=zA (S:=fun e=>s.sat e.cells∧e=s.pack e.cells) (f:=f) (fun x hx=>by
  obtain ⟨a,ha⟩:=hs _ hx.1;exact ⟨a,hx.2.trans ha⟩) he
 exact ⟨xs,rfl⟩
theorem mz (h:sJ.sat us):∃ xs:List Int,us=[ints xs]:=
 iY (s:=.int) (f:=AV.int) (fun us hu=>by obtain ⟨n,_,e⟩:=hu;exact ⟨n,by rw [e];rfl⟩) h
theorem Kg (h:NL.sat us):∃ x:j7×Int,NL.pack us=MI x:=by
 obtain ⟨_,_,rfl,⟨b,hb,rfl⟩,_,_,rfl,⟨n,_,rfl⟩,rfl⟩:=h;exact ⟨(⟨b,hb⟩,n),rfl⟩
theorem Kh (h:qG.sat us):∃ x:br,us=[.int x.p,ints x.a]:=by
 obtain ⟨_,_,rfl,⟨n,_,rfl⟩,_,_,rfl,h2,rfl⟩:=h;obtain ⟨l,rfl⟩:=mz h2;exact ⟨⟨n,l⟩,rfl⟩
theorem tR (h:qG.sat us):∃ x:br,qG.pack us=x.av:=by
 obtain ⟨x,rfl⟩:=Kh h;exact ⟨x,rfl⟩
theorem Gb (h:F8.sat us):∃ x:bG,F8.pack us=x.av:=by
 obtain ⟨_,_,rfl,⟨n,rfl⟩,_,_,rfl,h2,rfl⟩:=h;obtain ⟨l,rfl⟩:=Kh h2;exact ⟨⟨n,l⟩,rfl⟩
theorem Ki (h:EW.sat us):∃ x:lB,EW.pack us=x.av:=by
 obtain ⟨_,_,rfl,⟨b,hb,rfl⟩,_,_,rfl,h2,rfl⟩:=h;obtain ⟨l,rfl⟩:=mz h2;exact ⟨⟨⟨b,hb⟩,l⟩,rfl⟩
theorem Rf (h:Re.sat us):∃ x:Int×Int,Re.pack us=Rh x:=by
 obtain ⟨_,_,rfl,⟨n,_,rfl⟩,_,_,rfl,⟨m,_,rfl⟩,rfl⟩:=h;exact ⟨(n,m),rfl⟩
theorem NM (h:Ke.sat us):∃ x:n9,Ke.pack us=x.av:=by
 obtain ⟨_,_,rfl,h1,_,_,rfl,⟨m,_,rfl⟩,rfl⟩:=h;obtain ⟨l,rfl⟩:=mz h1;exact ⟨⟨l,m⟩,rfl⟩
theorem NN (h:Kf.sat us):∃ x:SSet,Kf.pack us=x.av:=by
 obtain ⟨_,_,rfl,h1,_,_,rfl,h2,rfl⟩:=h;obtain ⟨l,rfl⟩:=mz h1;obtain ⟨m,rfl⟩:=mz h2;exact ⟨⟨l,m⟩,rfl⟩
theorem NO (h:Kd.sat us):∃ x:eg,Kd.pack us=x.av:=by
 obtain ⟨_,_,rfl,⟨b,hb,rfl⟩,_,_,rfl,h1,_,_,rfl,h2,_,_,rfl,h3,_,_,rfl,h4,_,_,rfl,h5,_,_,rfl,⟨m,_,rfl⟩,rfl⟩:=h;obtain ⟨ts,rfl⟩:=mz h1;obtain ⟨df,rfl⟩:=iY (f:=Rh) (fun _=>Rf) h2;obtain ⟨pr,rfl⟩:=iY (f:=bG.av) (fun _=>Gb) h3;obtain ⟨ad,rfl⟩:=iY (f:=br.av) (fun _=>tR) h4;obtain ⟨de,rfl⟩:=iY (f:=br.av) (fun _=>tR) h5;exact ⟨⟨⟨b,hb⟩,ts,df,pr,ad,de,m⟩,rfl⟩
theorem NP (h:F9.sat us):∃ d:cR,F9.pack us=d.av:=by
 obtain ⟨_,_,rfl,h1,_,_,rfl,h2,_,_,rfl,h3,_,_,rfl,h4,_,_,rfl,h5,_,_,rfl,h6,rfl⟩:=h;obtain ⟨a,rfl⟩:=iY (f:=MI) (fun _=>Kg) h1;obtain ⟨b,rfl⟩:=iY (f:=MI) (fun _=>Kg) h2;obtain ⟨c,rfl⟩:=iY (f:=lB.av) (fun _=>Ki) h3;obtain ⟨e,rfl⟩:=iY (f:=eg.av) (fun _=>NO) h4;obtain ⟨f,rfl⟩:=iY (f:=br.av) (fun _=>tR) h5;obtain ⟨g,rfl⟩:=iY (f:=bG.av) (fun _=>Gb) h6;exact ⟨⟨a,b,c,e,f,g⟩,rfl⟩
theorem NQ (h:Ga.sat us):∃ a:BE,Ga.pack us=a.av:=by
 obtain ⟨_,_,rfl,⟨x,rfl⟩,_,_,rfl,h1,_,_,rfl,⟨m,hm,rfl⟩,_,_,rfl,h2,_,_,rfl,h3,rfl⟩:=h;obtain ⟨a,rfl⟩:=iY (f:=br.av) (fun _=>tR) h1;obtain ⟨b,rfl⟩:=iY (f:=n9.av) (fun _=>NM) h2;obtain ⟨c,rfl⟩:=iY (f:=SSet.av) (fun _=>NN) h3;exact ⟨⟨x,a,m,b,c⟩,rfl⟩
variable {xs:List AV}
theorem zB {r:List gn} (h:gn.EY (s::r) xs):∃ us q,xs=s.pack us::q∧s.sat us∧gn.EY r q:=h
theorem Kj (h:gn.EY [] xs):xs=[]:=h
theorem NR:ownKnob prog.godebug=none:=by kernel_rfl
theorem Kk:laidOutB prog=true:=by kernel_rfl
end
end Go.Proofs.YtkbiagkbmodgdaaGreat
