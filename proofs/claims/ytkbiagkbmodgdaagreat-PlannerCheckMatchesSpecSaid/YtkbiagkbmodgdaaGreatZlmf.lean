/- Part of a proof. No condition. -/
import Derived.Test.YtkbiagkbmodgdaaGreatZlmb
import Derived.Test.YtkbiagkbmodgdaaGreatZlmc
import Derived.Test.YtkbiagkbmodgdaaGreatZlmd
import Derived.Test.YtkbiagkbmodgdaaGreatZlme
import Derived.Test.YtkbiagkbmodgdaaGreatZrfe
namespace Go.Proofs.YtkbiagkbmodgdaaGreat
open Go.Ab
open Go Tryz
set_option maxRecDepth 100000
def qT:cR:=⟨[],[(⟨⟨#[120]⟩,by decide⟩,-1)],[⟨⟨⟨#[111,110]⟩,by decide⟩,[-1]⟩],[⟨⟨⟨#[115,119,105,116,99,104]⟩,by decide⟩,[-1],[],[],[⟨0,[-1]⟩],[],2⟩],[],[⟨false,⟨0,[0]⟩⟩]⟩
def mX:AV:=.agg [.fO,.cD 2 24 [.agg [.v (.string ⟨#[120]⟩),.int (-1)]],.cD 2 40 [.agg [.v (.string ⟨#[111,110]⟩),.cD 1 8 [.int (-1)]]],
 .cD 7 144 [.agg [.v (.string ⟨#[115,119,105,116,99,104]⟩),.cD 1 8 [.int (-1)],.fO,.fO,.cD 2 32 [.agg [.int 0,.cD 1 8 [.int (-1)]]],.fO,.int 2]],.fO,.cD 3 40 [.agg [.bool false,.int 0,.cD 1 8 [.int 0]]]]
def GJ:AV:=.agg [.int 1,.cD 1 8 [],.cD 1 8 [.int 0],.cD 4 80 [.agg [.cD 1 8 [],.cD 1 8 [.int 0],.cD 1 8 [],.int 2]]]
def GK:AV:=.agg [.int 1,.cD 1 8 [],.cD 1 8 [.int 0],.cD 4 80 [.agg [.cD 1 8 [],.cD 1 8 [.int 0],.cD 1 8 [],.int 2]],.cD 3 40 [.agg [.bool false,.int 0,.cD 1 8 [.int 0]]],.cD 2 32 [.agg [.int 0,.cD 1 8 [.int 0]]]]
def Br (n:Int):AV:=.agg [.bool true,.cD 2 32 [.agg [.int 0,.cD 1 8 [.int 0]]],.int 2,.cD 2 32 [.agg [.fO,.int n]],.fO]
def Dy (n:Int):BE:=⟨true,[⟨0,[0]⟩],2,[⟨[],n⟩],[]⟩
theorem LS:bm prog 26 [] (fun r=>r=mX):=oI (C:=RN) (n:=3000) ai
theorem Bs:iO mX qT.av:=
 iO.agg (ys:=qT.cs) ⟨iO.nil 2 24,iO.ic _,iO.ic _,iO.cD (fs:=qT.cU.map eg.av) rfl (by intro e he;simp only [qT,qd4,qg5,qd7] at he;subst he;rfl) ⟨iO.ic _,iO.ic _,iO.nil 2 16,iO.nil 3 40,iO.ic _,iO.nil 2 32,iO.ic _,trivial⟩,iO.nil 2 32,iO.ic _,trivial⟩
theorem LU (n:Int):iO (Br n) (Dy n).av:=
 iO.agg (ys:=(Dy n).cs) ⟨iO.ic _,iO.ic _,iO.ic _,iO.cD (fs:=(Dy n).bound.map n9.av) rfl (by intro e he;simp only [Dy,qd4,qg5,qd7] at he;subst he;rfl) ⟨iO.nil 1 8,iO.ic _,trivial⟩,iO.nil 2 48,trivial⟩
theorem Bt:AJ qT=(0,0):=by kernel_rfl
theorem RQ:(F6 qT).av=GK:=by kernel_rfl
theorem yv:bm prog 22 [mX] (fun r=>r= .dC [GK,fault 0 0]):=by
 have h:=ks (args':=[mX]) (z6 qT) ⟨Bs,trivial⟩;rwa [NK,if_pos Bt,RQ] at h
theorem LV:wz (F6 qT) (Dy 2)=true:=by kernel_rfl
theorem OT:wz (F6 qT) (Dy 3)=false:=by kernel_rfl
theorem Dz:bm prog 7 [mX,Br 2] (fun r=>r= .dC [.bool true,fault 0 0]):=by
 have h:=ks (args':=[mX,Br 2]) (xX qT (Dy 2)) ⟨Bs,LU 2,trivial⟩;rwa [xY,if_pos Bt,LV] at h
theorem DC:bm prog 7 [mX,Br 3] (fun r=>r= .dC [.bool false,fault 0 0]):=by
 have h:=ks (args':=[mX,Br 3]) (xX qT (Dy 3)) ⟨Bs,LU 3,trivial⟩;rwa [xY,if_pos Bt,OT] at h
abbrev Vx:FuncId×List AV×AV:=(147,[.cD 1 8 []],.cD 1 8 [])
def U5:List (FuncId×List AV×AV):=[Vx,(22,[mX],.dC [GK,fault 0 0]),
 (71,[GJ],.dC [.agg [.bool true,.cD 1 8 [.int 0],.int 2,.int 1],fault 0 0]),(69,[GJ],.dC [.cD 2 32 [.agg [.fO,.int 2]],.int 2,fault 0 0])]
def Vy:Cf:=⟨LP,Ur,U4,12,U5⟩
instance U6:mi prog Vy where
 tb:=U3
 fs:=Bq.fs
 mo:=Bq.mo
 kn:=fun e h=>by
  replace h:e∈U5:=h;unfold U5 at h;simp only [qc2,qf9,or_false] at h;rcases h with rfl|rfl|rfl|rfl
  ·exact ⟨dk [],rfl⟩
  ·exact ⟨yv,rfl⟩
  ·exact ⟨Fo,rfl⟩
  exact ⟨LQ,rfl⟩
theorem IJ:bm prog 25 [mX] (fun r=>r= .dC [Br 2,fault 0 0]):=oI (C:=Vy) (n:=3000) ai
def U7:List (FuncId×List AV×AV):=[Vx,(26,[],mX),(22,[mX],.dC [GK,fault 0 0]),(25,[mX],.dC [Br 2,fault 0 0]),
 (7,[mX,Br 2],.dC [.bool true,fault 0 0]),(7,[mX,Br 3],.dC [.bool false,fault 0 0]),
 (33,[GJ,.int 0],.dC [.int 2,fault 0 0]),(34,[GJ,.int 0],.dC [.int 1000000000,fault 0 0])]
def Vz:Cf:=⟨LP,Ur,U4,12,U7⟩
instance U8:mi prog Vz where
 tb:=U3
 fs:=Bq.fs
 mo:=Bq.mo
 kn:=fun e h=>by
  replace h:e∈U7:=h;unfold U7 at h;simp only [qc2,qf9,or_false] at h;rcases h with rfl|rfl|rfl|rfl|rfl|rfl|rfl|rfl
  ·exact ⟨dk [],rfl⟩
  ·exact ⟨LS,rfl⟩
  ·exact ⟨yv,rfl⟩
  ·exact ⟨IJ,rfl⟩
  ·exact ⟨Dz,rfl⟩
  ·exact ⟨DC,rfl⟩
  ·exact ⟨LR,rfl⟩
  exact ⟨Dx,rfl⟩
theorem CL:bm prog 8 [] (fun r=>r= .bool true):=ND (C:=Vz) (n:=3000) ai
end Go.Proofs.YtkbiagkbmodgdaaGreat
