/- Part of a proof: of two right answers both have a plan, at one cost, or none. No condition. -/
import Derived.Test.YtkbiagkbmodgdaaGreatZlma
import Derived.Test.YtkbiagkbmodgdaaGreatZlmf
import Derived.Test.YtkbiagkbmodgdaaGreatZre
set_option linter.unusedSimpArgs false
set_option linter.unusedVariables false
namespace Go.Proofs.YtkbiagkbmodgdaaGreat
open Go.Ab
open Go
set_option maxRecDepth 10000
attribute [local irreducible] dE fh mC lW db PV eR ef AW bg dn ec dP cO Ab.Fin ft en gI iO RV jX Le eI fM mg gV kf dz dg
set_option maxHeartbeats 8000000
attribute [local go_sem] fp jH iW
theorem xW (d:dB) (a b:xX):bg Tryz.prog 4 [d.av,a.av,b.av] (fun r=>r= .bool true):=by
 have ca:=rp d a
 have cb:=rp d b
 have cs:=zJ
 rw [uY] at ca cb
 by_cases hf:Ex d=(0,0)
 ·rw [if_pos hf] at ca cb
  have hd:=Jm (g:=E9 d) (a:=a) (b:=b)
  generalize E9 d=g at *
  generalize we g a=x at *
  generalize we g b=y at *
  obtain ⟨fd,st,co,bo,ne⟩:=a
  obtain ⟨fd2,st2,co2,bo2,ne2⟩:=b
  simp only at hd
  cases x with
  |false=>
   (refine bh Tryz.func4 Tryz.ntmps4 ?_)
   (repeat' (first|(refine hK _ ?_;clear hK K)|(refine aM (fun K hK=>?_))|(refine gR ?_;refine aP ?_)|(refine gC 7 ?_;refine bp (ca) ?_)|(refine gC 7 ?_;refine bp (cb) ?_)|(refine gC 8 ?_;refine bp (cs) ?_)|(refine gE ?_;refine cc ?_)|(refine gQ ?_;refine bT ?_)|(refine gT ?_;refine aZ ?_)|(refine gS ?_;refine aX ?_)))
   all_goals (refine aT (Le.refl _) (aQ (aO ab)) af ?_)
   all_goals rfl
  |true=>
   cases y with
   |false=>
    (refine bh Tryz.func4 Tryz.ntmps4 ?_)
    (repeat' (first|(refine hK _ ?_;clear hK K)|(refine aM (fun K hK=>?_))|(refine gR ?_;refine aP ?_)|(refine gC 7 ?_;refine bp (ca) ?_)|(refine gC 7 ?_;refine bp (cb) ?_)|(refine gC 8 ?_;refine bp (cs) ?_)|(refine gE ?_;refine cc ?_)|(refine gQ ?_;refine bT ?_)|(refine gT ?_;refine aZ ?_)|(refine gS ?_;refine aX ?_)))
    all_goals (refine aT (Le.refl _) (aQ (aO ab)) af ?_)
    all_goals rfl
   |true=>
    obtain ⟨rfl,rfl⟩:=hd rfl rfl
    (refine bh Tryz.func4 Tryz.ntmps4 ?_)
    (repeat' (first|(refine hK _ ?_;clear hK K)|(refine aM (fun K hK=>?_))|(refine gR ?_;refine aP ?_)|(refine gC 7 ?_;refine bp (ca) ?_)|(refine gC 7 ?_;refine bp (cb) ?_)|(refine gC 8 ?_;refine bp (cs) ?_)|(refine gE ?_;refine cc ?_)|(refine gG ?_;refine cB (fun hc=>?_) (fun hc=>?_)<;>(try (first|contradiction|omega)))|(refine gQ ?_;refine bT ?_)|(refine gT ?_;refine aZ ?_)|(refine gS ?_;refine aX ?_)))
    all_goals (refine aT (Le.refl _) (aQ (aO ab)) af ?_)
    all_goals simp
 ·rw [if_neg hf] at ca cb
  have hac:=zK hf
  generalize Ex d=p at *
  (refine bh Tryz.func4 Tryz.ntmps4 ?_)
  (repeat' (first|(refine hK _ ?_;clear hK K)|(refine aM (fun K hK=>?_))|(refine gR ?_;refine aP ?_)|(refine gC 7 ?_;refine bp (ca) ?_)|(refine gC 7 ?_;refine bp (cb) ?_)|(refine gC 8 ?_;refine bp (cs) ?_)|(refine gE ?_;refine cc ?_)|(refine gQ ?_;refine aS (fun hc=>?_) (fun hc=>?_)<;>(try (first|contradiction|omega)))|(refine gT ?_;refine aZ ?_)|(refine gS ?_;refine aX ?_)))
  all_goals (refine aT (Le.refl _) (aQ (aO ab)) af ?_)
  all_goals rfl
end Go.Proofs.YtkbiagkbmodgdaaGreat
namespace Go.Proofs.YtkbiagkbmodgdaaGreat
open Go.Ab
open Go
set_option maxRecDepth 10000
attribute [local irreducible] PV eR ef AW bg dn Ab.Fin ft RV jX Le eI fM mg gV kf dz dg
abbrev qj:ff:=.sl 1 8 .int
abbrev Jn:ff:=.st [.str,.int]
abbrev oC:ff:=.st [.int,qj]
abbrev CL:ff:=.st [.bool,oC]
abbrev BI:ff:=.st [.str,qj]
abbrev LZ:ff:=.st [.int,.int]
abbrev Gq:ff:=.st [.str,qj,.sl 2 16 LZ,.sl 3 40 CL,.sl 2 32 oC,.sl 2 32 oC,.int]
abbrev CM:ff:=.st [.sl 2 24 Jn,.sl 2 24 Jn,.sl 2 40 BI,.sl 7 144 Gq,.sl 2 32 oC,.sl 3 40 CL]
abbrev Gr:ff:=.st [qj,.int]
abbrev Gs:ff:=.st [qj,qj]
abbrev wV:ff:=.st [.bool,.sl 2 32 oC,.int,.sl 2 32 Gr,.sl 2 48 Gs]
theorem wW {α:Type} {S:AV→Prop} {f:α→AV} (h:∀ x,S x→∃ a,x=f a):∀ {es:List AV},(∀ e∈es,S e)→∃ xs:List α,es=xs.map f
 |[],_=>⟨[],rfl⟩
 |e::es,hs=>by
  obtain ⟨a,rfl⟩:=h e (hs e ax)
  obtain ⟨xs,rfl⟩:=wW h (es:=es) (fun e he=>hs e (by simp [he]))
  exact ⟨a::xs,rfl⟩
theorem gU {α:Type} {sz bw:Nat} {s:ff} {f:α→AV} (hs:∀ us,s.sat us→∃ a,s.pack us=f a) {us:List AV} (h:(ff.sl sz bw s).sat us):∃ xs:List α,us=[.cr sz bw (xs.map f)]:=by
 obtain ⟨es,rfl,he⟩:=h
 obtain ⟨xs,rfl⟩:=wW (S:=fun e=>s.sat e.cells∧e=s.pack e.cells) (f:=f) (fun x hx=>by
  obtain ⟨a,ha⟩:=hs _ hx.1
  exact ⟨a,hx.2.trans ha⟩) he
 exact ⟨xs,rfl⟩
theorem kC {us:List AV} (h:qj.sat us):∃ xs:List Int,us=[ints xs]:=
 gU (s:=.int) (f:=AV.int) (fun us hu=>by obtain ⟨n,_,e⟩:=hu;exact ⟨n,by rw [e];rfl⟩) h
theorem Gt {us:List AV} (h:Jn.sat us):∃ x:l8×Int,Jn.pack us=Iq x:=by
 obtain ⟨_,_,rfl,⟨b,hb,rfl⟩,_,_,rfl,⟨n,_,rfl⟩,rfl⟩:=h
 exact ⟨(⟨b,hb⟩,n),rfl⟩
theorem Gu {us:List AV} (h:oC.sat us):∃ x:bB,us=[.int x.p,ints x.a]:=by
 obtain ⟨_,_,rfl,⟨n,_,rfl⟩,_,_,rfl,h2,rfl⟩:=h
 obtain ⟨l,rfl⟩:=kC h2
 exact ⟨⟨n,l⟩,rfl⟩
theorem rq {us:List AV} (h:oC.sat us):∃ x:bB,oC.pack us=x.av:=by
 obtain ⟨x,rfl⟩:=Gu h
 exact ⟨x,rfl⟩
theorem CN {us:List AV} (h:CL.sat us):∃ x:cz,CL.pack us=x.av:=by
 obtain ⟨_,_,rfl,⟨n,rfl⟩,_,_,rfl,h2,rfl⟩:=h
 obtain ⟨l,rfl⟩:=Gu h2
 exact ⟨⟨n,l⟩,rfl⟩
theorem Gv {us:List AV} (h:BI.sat us):∃ x:jT,BI.pack us=x.av:=by
 obtain ⟨_,_,rfl,⟨b,hb,rfl⟩,_,_,rfl,h2,rfl⟩:=h
 obtain ⟨l,rfl⟩:=kC h2
 exact ⟨⟨⟨b,hb⟩,l⟩,rfl⟩
theorem L0 {us:List AV} (h:LZ.sat us):∃ x:Int×Int,LZ.pack us=L1 x:=by
 obtain ⟨_,_,rfl,⟨n,_,rfl⟩,_,_,rfl,⟨m,_,rfl⟩,rfl⟩:=h
 exact ⟨(n,m),rfl⟩
theorem Jo {us:List AV} (h:Gr.sat us):∃ x:rr,Gr.pack us=x.av:=by
 obtain ⟨_,_,rfl,h1,_,_,rfl,⟨m,_,rfl⟩,rfl⟩:=h
 obtain ⟨l,rfl⟩:=kC h1
 exact ⟨⟨l,m⟩,rfl⟩
theorem Jp {us:List AV} (h:Gs.sat us):∃ x:SSet,Gs.pack us=x.av:=by
 obtain ⟨_,_,rfl,h1,_,_,rfl,h2,rfl⟩:=h
 obtain ⟨l,rfl⟩:=kC h1
 obtain ⟨m,rfl⟩:=kC h2
 exact ⟨⟨l,m⟩,rfl⟩
theorem Jq {us:List AV} (h:Gq.sat us):∃ x:gJ,Gq.pack us=x.av:=by
 obtain ⟨_,_,rfl,⟨b,hb,rfl⟩,_,_,rfl,h1,_,_,rfl,h2,_,_,rfl,h3,_,_,rfl,h4,_,_,rfl,h5,_,_,rfl,⟨m,_,rfl⟩,rfl⟩:=h
 obtain ⟨ts,rfl⟩:=kC h1
 obtain ⟨df,rfl⟩:=gU (f:=L1) (fun _=>L0) h2
 obtain ⟨pr,rfl⟩:=gU (f:=cz.av) (fun _=>CN) h3
 obtain ⟨ad,rfl⟩:=gU (f:=bB.av) (fun _=>rq) h4
 obtain ⟨de,rfl⟩:=gU (f:=bB.av) (fun _=>rq) h5
 exact ⟨⟨⟨b,hb⟩,ts,df,pr,ad,de,m⟩,rfl⟩
theorem Jr {us:List AV} (h:CM.sat us):∃ d:dB,CM.pack us=d.av:=by
 obtain ⟨_,_,rfl,h1,_,_,rfl,h2,_,_,rfl,h3,_,_,rfl,h4,_,_,rfl,h5,_,_,rfl,h6,rfl⟩:=h
 obtain ⟨a,rfl⟩:=gU (f:=Iq) (fun _=>Gt) h1
 obtain ⟨b,rfl⟩:=gU (f:=Iq) (fun _=>Gt) h2
 obtain ⟨c,rfl⟩:=gU (f:=jT.av) (fun _=>Gv) h3
 obtain ⟨e,rfl⟩:=gU (f:=gJ.av) (fun _=>Jq) h4
 obtain ⟨f,rfl⟩:=gU (f:=bB.av) (fun _=>rq) h5
 obtain ⟨g,rfl⟩:=gU (f:=cz.av) (fun _=>CN) h6
 exact ⟨⟨a,b,c,e,f,g⟩,rfl⟩
theorem CO {us:List AV} (h:wV.sat us):∃ a:xX,wV.pack us=a.av:=by
 obtain ⟨_,_,rfl,⟨x,rfl⟩,_,_,rfl,h1,_,_,rfl,⟨m,hm,rfl⟩,_,_,rfl,h2,_,_,rfl,h3,rfl⟩:=h
 obtain ⟨a,rfl⟩:=gU (f:=bB.av) (fun _=>rq) h1
 obtain ⟨b,rfl⟩:=gU (f:=rr.av) (fun _=>Jo) h2
 obtain ⟨c,rfl⟩:=gU (f:=SSet.av) (fun _=>Jp) h3
 exact ⟨⟨x,a,m,b,c⟩,rfl⟩
theorem sE {s:ff} {r:List ff} {xs:List AV} (h:ff.BJ (s::r) xs):∃ us q,xs=s.pack us::q∧s.sat us∧ff.BJ r q:=h
theorem Gw {xs:List AV} (h:ff.BJ [] xs):xs=[]:=h
theorem Js:ownKnob Tryz.prog.godebug=none:=by kernel_rfl
theorem Gx:laidOutB Tryz.prog=true:=by kernel_rfl
end Go.Proofs.YtkbiagkbmodgdaaGreat
