/- Part of a proof: of two right answers both have a plan, at one cost, or none. No condition. -/
import Derived.Test.YtkbiagkbmodgdaaGreatZlma
import Derived.Test.YtkbiagkbmodgdaaGreatZlmb
import Derived.Test.YtkbiagkbmodgdaaGreatZlmc
import Derived.Test.YtkbiagkbmodgdaaGreatZlmd
import Derived.Test.YtkbiagkbmodgdaaGreatZlme
set_option linter.unusedSimpArgs false
set_option linter.unusedVariables false
namespace Go.Proofs.YtkbiagkbmodgdaaGreat
open Go.Ab
open Go
set_option maxRecDepth 100000
def oN:dB:=⟨[],[(⟨⟨#[120]⟩,by decide⟩,-1)],[⟨⟨⟨#[111,110]⟩,by decide⟩,[-1]⟩],[⟨⟨⟨#[115,119,105,116,99,104]⟩,by decide⟩,[-1],[],[],[⟨0,[-1]⟩],[],2⟩],[],[⟨false,⟨0,[0]⟩⟩]⟩
def k9:AV:=.agg [.fS,.cr 2 24 [.agg [.v (.string ⟨#[120]⟩),.int (-1)]],.cr 2 40 [.agg [.v (.string ⟨#[111,110]⟩),.cr 1 8 [.int (-1)]]],
 .cr 7 144 [.agg [.v (.string ⟨#[115,119,105,116,99,104]⟩),.cr 1 8 [.int (-1)],.fS,.fS,.cr 2 32 [.agg [.int 0,.cr 1 8 [.int (-1)]]],.fS,.int 2]],.fS,.cr 3 40 [.agg [.bool false,.int 0,.cr 1 8 [.int 0]]]]
def Dl:AV:=.agg [.int 1,.cr 1 8 [],.cr 1 8 [.int 0],.cr 4 80 [.agg [.cr 1 8 [],.cr 1 8 [.int 0],.cr 1 8 [],.int 2]]]
def Dm:AV:=.agg [.int 1,.cr 1 8 [],.cr 1 8 [.int 0],.cr 4 80 [.agg [.cr 1 8 [],.cr 1 8 [.int 0],.cr 1 8 [],.int 2]],.cr 3 40 [.agg [.bool false,.int 0,.cr 1 8 [.int 0]]],.cr 2 32 [.agg [.int 0,.cr 1 8 [.int 0]]]]
def yy (n:Int):AV:=.agg [.bool true,.cr 2 32 [.agg [.int 0,.cr 1 8 [.int 0]]],.int 2,.cr 2 32 [.agg [.fS,.int n]],.fS]
def AH (n:Int):xX:=⟨true,[⟨0,[0]⟩],2,[⟨[],n⟩],[]⟩
theorem Ii:bg Tryz.prog 26 [] (fun r=>r=k9):=mP (C:=MH) (n:=3000) ah
theorem yz:iP k9 oN.av:=
 iP.agg (ys:=oN.cs) ⟨iP.nil 2 24,iP.iB _,iP.iB _,iP.cr (fs:=oN.eh.map gJ.av) rfl (by intro e he;simp only [oN,List.map_cons,List.map_nil,List.mem_singleton] at he;subst he;rfl) ⟨iP.iB _,iP.iB _,iP.nil 2 16,iP.nil 3 40,iP.iB _,iP.nil 2 32,iP.iB _,trivial⟩,iP.nil 2 32,iP.iB _,trivial⟩
theorem Ij (n:Int):iP (yy n) (AH n).av:=
 iP.agg (ys:=(AH n).cs) ⟨iP.iB _,iP.iB _,iP.iB _,iP.cr (fs:=(AH n).bound.map rr.av) rfl (by intro e he;simp only [AH,List.map_cons,List.map_nil,List.mem_singleton] at he;subst he;rfl) ⟨iP.nil 1 8,iP.iB _,trivial⟩,iP.nil 2 48,trivial⟩
theorem yA:Ex oN=(0,0):=by kernel_rfl
theorem MI:(E9 oN).av=Dm:=by kernel_rfl
theorem vO:bg Tryz.prog 22 [k9] (fun r=>r= .dr [Dm,fault 0 0]):=by
 have h:=mI (args':=[k9]) (xp oN) ⟨yz,trivial⟩
 rwa [Ol,if_pos yA,MI] at h
theorem Ik:we (E9 oN) (AH 2)=true:=by kernel_rfl
theorem Kx:we (E9 oN) (AH 3)=false:=by kernel_rfl
theorem AI:bg Tryz.prog 7 [k9,yy 2] (fun r=>r= .dr [.bool true,fault 0 0]):=by
 have h:=mI (args':=[k9,yy 2]) (rp oN (AH 2)) ⟨yz,Ij 2,trivial⟩
 rwa [uY,if_pos yA,Ik] at h
theorem AJ:bg Tryz.prog 7 [k9,yy 3] (fun r=>r= .dr [.bool false,fault 0 0]):=by
 have h:=mI (args':=[k9,yy 3]) (rp oN (AH 3)) ⟨yz,Ij 3,trivial⟩
 rwa [uY,if_pos yA,Kx] at h
abbrev P3:FuncId×List AV×AV:=(147,[.cr 1 8 []],.cr 1 8 [])
def Pz:List (FuncId×List AV×AV):=[P3,(22,[k9],.dr [Dm,fault 0 0]),
 (71,[Dl],.dr [.agg [.bool true,.cr 1 8 [.int 0],.int 2,.int 1],fault 0 0]),(69,[Dl],.dr [.cr 2 32 [.agg [.fS,.int 2]],.int 2,fault 0 0])]
def P4:Cf:=⟨Ie,OZ,Py,12,Pz⟩
instance PA:ks Tryz.prog P4 where
 tb:=Px
 fs:=yx.fs
 mo:=yx.mo
 kn:=fun e h=>by
  replace h:e∈Pz:=h
  unfold Pz at h
  simp only [List.mem_cons,List.not_mem_nil,or_false] at h
  rcases h with rfl|rfl|rfl|rfl
  ·exact ⟨cP [],rfl⟩
  ·exact ⟨vO,rfl⟩
  ·exact ⟨B8,rfl⟩
  ·exact ⟨Ig,rfl⟩
theorem E4:bg Tryz.prog 25 [k9] (fun r=>r= .dr [yy 2,fault 0 0]):=mP (C:=P4) (n:=3000) ah
def PB:List (FuncId×List AV×AV):=[P3,(26,[],k9),(22,[k9],.dr [Dm,fault 0 0]),(25,[k9],.dr [yy 2,fault 0 0]),
 (7,[k9,yy 2],.dr [.bool true,fault 0 0]),(7,[k9,yy 3],.dr [.bool false,fault 0 0]),
 (33,[Dl,.int 0],.dr [.int 2,fault 0 0]),(34,[Dl,.int 0],.dr [.int 1000000000,fault 0 0])]
def P5:Cf:=⟨Ie,OZ,Py,12,PB⟩
instance PC:ks Tryz.prog P5 where
 tb:=Px
 fs:=yx.fs
 mo:=yx.mo
 kn:=fun e h=>by
  replace h:e∈PB:=h
  unfold PB at h
  simp only [List.mem_cons,List.not_mem_nil,or_false] at h
  rcases h with rfl|rfl|rfl|rfl|rfl|rfl|rfl|rfl
  ·exact ⟨cP [],rfl⟩
  ·exact ⟨Ii,rfl⟩
  ·exact ⟨vO,rfl⟩
  ·exact ⟨E4,rfl⟩
  ·exact ⟨AI,rfl⟩
  ·exact ⟨AJ,rfl⟩
  ·exact ⟨Ih,rfl⟩
  ·exact ⟨AG,rfl⟩
theorem zJ:bg Tryz.prog 8 [] (fun r=>r= .bool true):=Jg (C:=P5) (n:=3000) ah
end Go.Proofs.YtkbiagkbmodgdaaGreat
