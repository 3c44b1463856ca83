/- Part of a proof. No condition. -/
import Derived.Test.YtkbiagkbmodgdaaGreatZph
import Derived.Test.YtkbiagkbmodgdaaGreatZgg
import Derived.Test.YtkbiagkbmodgdaaGreatZrfe
set_option linter.unusedSimpArgs false
set_option linter.unusedVariables false
namespace Go.Proofs.YtkbiagkbmodgdaaGreat
open Go.Ab
open Go Tryz
set_option maxRecDepth 10000
attribute [local irreducible] dP fv mu lV dj PV ff ew AW bm da en dQ cX Ab.Fin fi er gF iN RV kh Le eV fL ma iG kM dJ dt
set_option maxHeartbeats 4000000
attribute [local go_sem] ec fm
abbrev VC (x:Act) (b n:Bool):List AV:=[.int x.AQ,ints x.args,b9 x.pre,b9 x.add,b9 x.del,.int x.cost,.bool b,.bool n]
theorem Mp (P:List br) (N:List bG) (hN:∀ z∈N,z.neg=true) (a:br):fY (P.map jB++N) (jB a)=j8 P a:=by
 rw [qf7,ga,yz,qe4,qe7];constructor
 ·rintro (⟨b,hb,e⟩|h)
  ·injection e with _ e;subst e;exact hb
  exact absurd (hN _ h) aC
 exact fun h=>.inl ⟨a,h,rfl⟩
def Mq (args:List Int) (s:eg) (k:Nat):List br:=((s.del.map (dw args)).take k).filter fun a=>!j8 (s.add.map (dw args)) a
variable {args:List Int} {k:Nat}
theorem DQ {s:eg} (h:k < s.del.length):Mq args s (k+1)=Mq args s k++if j8 (s.add.map (dw args)) (dw args s.del[k])=true then [] else [dw args s.del[k]]:=by
 rw [Mq,qa5 (by simpa using h),qj8,qh6];congr 1;by_cases h1:j8 (s.add.map (dw args)) (dw args s.del[k])=true<;>simp [h1]
theorem GS (args:List Int) (s:eg) (k:Nat):(Mq args s k).length≤k:=by
 have:=qh8 (fun a:br=>!j8 (s.add.map (dw args)) a) ((s.del.map (dw args)).take k);rw [qc0] at this;unfold Mq;omega
theorem GU (args:List Int) (s:eg):Mq args s s.del.length=Qn args s:=by rw [Mq,Qn,qe8 aC]
def Mr (args:List Int) (s:eg) (k:Nat):List bG:=(s.add.map (dw args)).map jB++(Mq args s k).map e9
def MM (args:List Int) (s:eg) (k:Nat):List bG:=(s.add.map (dw args)).map e9++(Mq args s k).map jB
theorem Ms {args:List Int} {s:eg} {k:Nat} (h:k < s.del.length):Mr args s (k+1)=Mr args s k++(if j8 (s.add.map (dw args)) (dw args s.del[k])=true then [] else [e9 (dw args s.del[k])]):=by
 rw [Mr,DQ h,qb5,← qd6];congr 1;split<;>rfl
theorem Mt {args:List Int} {s:eg} {k:Nat} (h:k < s.del.length):MM args s (k+1)=MM args s k++(if j8 (s.add.map (dw args)) (dw args s.del[k])=true then [] else [jB (dw args s.del[k])]):=by
 rw [MM,DQ h,qb5,← qd6];congr 1;split<;>rfl
theorem Pq (args:List Int) (s:eg) (k:Nat):(Mr args s k).length≤s.add.length+k:=by
 have:=GS args s k;rw [Mr,qa3,qa2,qa2,qa2];omega
theorem Pr (args:List Int) (s:eg) (k:Nat):(MM args s k).length≤s.add.length+k:=by
 have:=GS args s k;rw [MM,qa3,qa2,qa2,qa2];omega
theorem Mu (args:List Int) (s:eg):Mr args s 0=(s.add.map (dw args)).map jB:=by simp [Mr,Mq]
theorem Mv (args:List Int) (s:eg):MM args s 0=(s.add.map (dw args)).map e9:=by simp [MM,Mq]
theorem Ps (args:List Int) (s:eg):Mr args s s.del.length=RU args s:=by rw [Mr,GU,RU]
theorem Pt (args:List Int) (s:eg):MM args s s.del.length=TF args s:=by rw [MM,GU,TF]
theorem Pu (args:List Int) (s:eg) (k:Nat) (a:br):fY (Mr args s k) (jB a)=j8 (s.add.map (dw args)) a:=Mp _ _ (fun z hz=>by obtain ⟨b,_,rfl⟩:=qe7.1 hz;rfl) a
def IW (args:List Int) (l:List br) (k:Nat):List br:=(l.map (dw args)).take k
variable {l:List br}
theorem Mw (h:k < l.length):IW args l (k+1)=IW args l k++[dw args l[k]]:=by
 rw [IW,qa5 (by simpa using h),qj8];rfl
theorem Pv (h:k≤l.length):(IW args l k).length=k:=by rw [IW,qc0,qa2];omega
theorem Pw (args:List Int) (l:List br):IW args l l.length=l.map (dw args):=by rw [IW,qe8 aC]
theorem Px (d:cR) (args:List Int) (x:bG) (l M:List bG):rP d args (x::l) M=if hasB (fX d) x.x.p=true then !fY M (y5 (fu args x))&&rP d args l (M++[fu args x]) else pR d (fu args x)&&rP d args l M:=rfl
theorem Py (d:cR) (args:List Int) (x:bG) (l:List bG):rN d args (x::l)=(if hasB (fX d) x.x.p=true then [fu args x] else [])++rN d args l:=by
 rw [rN,qd4,List.filter_cons];split
 ·rename_i h
  have h:hasB (fX d) x.x.p=true:=h;rw [if_pos h];rfl
 rename_i h;have h:¬hasB (fX d) x.x.p=true:=h;rw [if_neg h];rfl
theorem any_succ {α:Type} {p:α→Bool} {l:List α} (h:k < l.length):(l.take (k+1)).any p=((l.take k).any p|| p l[k]):=by
 rw [qa5 h,List.any_append];simp
theorem Pz (d:cR) (hD:zE d) (i:Nat) (hi:i < d.cU.length) (args:List Int) (hal:args.length=d.cU[i].ts.length) :
 bm prog 45 [d.av,.int i,ints args] (fun r=>r= .agg (VC (DN d i d.cU[i] args) (yD d d.cU[i] args) false)):=by
 have hs:=hD.AQ _ (qa4 hi);have hdf:=hs.diff;have hd8:=hs.Tf;have hp8:=hs.NW;have ha8:=hs.Ku;have he8:=hs.Kv;have hpre:∀ x∈d.cU[i].pre,sQ args.length x.x:=fun x hx j hj=>by have:=((hs.pre x hx).args j hj).1;rw [hal];exact this
 have hadd:∀ x∈d.cU[i].add,sQ args.length x:=fun x hx j hj=>by have:=((hs.add x hx).args j hj).1;rw [hal];exact this
 have fg:∀ x∈d.cU[i].del,sQ args.length x:=fun x hx j hj=>by have:=((hs.del x hx).args j hj).1;rw [hal];exact this
 rw [← hal] at hdf;clear hs;have hfl:=GQ d;have htr:=yI d;have hcon:=Px d args;have hncon:=Py d args;have hpo:yD d d.cU[i] args=(!d.cU[i].diff.any (nJ args)&&rP d args d.cU[i].pre []):=rfl;have hre:DN d i d.cU[i] args=⟨(i:Int),args,rN d args d.cU[i].pre,RU args d.cU[i],TF args d.cU[i],d.cU[i].cost⟩:=rfl;rw [hre];generalize yD d d.cU[i] args=B at *;obtain ⟨N,hN⟩:∃ N,rN d args d.cU[i].pre=N:=⟨_,rfl⟩
 rw [hN];obtain ⟨ty,ob,pr,sc,cB,go⟩:=d;simp only at hi hal hdf hd8 hp8 ha8 he8 hpre hadd fg hfl htr hcon hncon hpo hN ⊢;clear hD hre hal;refine bc func45 ntmps45 ?_;refine Gx 2 (fun _ K hK=>?_) VX VX VX;generalize sc[i]=s at *;obtain ⟨nm,ts,df,pre,ad,de,co⟩:=s;simp only at hdf hd8 hp8 ha8 he8 hpre hadd fg hpo hN ⊢;refine Go (fun K hK=>?_) VX VX VX;(refine cE (fe 8 2 802 3 40 68 aR aR al) ?_;simp only [go_sem,seval]);(refine cE (fe 8 3 803 3 40 68 aR aR al) ?_;simp only [go_sem,seval]);(refine cE (fe 8 4 804 3 40 68 aR aR al) ?_;simp only [go_sem,seval]);refine ba [9,27,28,29,30,31,32,33,34,35,36,37,38,39,40,41,42,43,44,45,46,47,48,49,50,51,52,53] (fun k:Nat=>k≤df.length) (fun k=>df.length - k) (fun k=>[(9,.int k)]) (fun k=>[(3,⟨29,[cW ty,cW ob,cY pr,dV sc,bQ cB,b9 go],true⟩),(6,⟨70,[.v (.int .i64 0),.v (.slice none 0 0),.v (.slice none 0 0),.v (.slice none 0 0),.v (.slice none 0 0),.v (.int .i64 0),.v (.bool false),.v (.bool false)],true⟩),(7,⟨100,[str nm,ints ts,qg df,b9 pre,bQ ad,bQ de,.int co],true⟩),(8,⟨70,[.int (i:Int),ints args,.sl 3 40 802 0 (([]:List bG)).length,.sl 3 40 803 0 (([]:List bG)).length,.sl 3 40 804 0 (([]:List bG)).length,.int co,.bool (!(df.take k).any (nJ args)),.bool false],true⟩),(802,⟨68,(([]:List bG)).flatMap lN,false⟩),(803,⟨68,(([]:List bG)).flatMap lN,false⟩),(804,⟨68,(([]:List bG)).flatMap lN,false⟩)]) 0 (qc6 _) ?_ ?_
 ·refine bA ?_
  exact aZ
 rintro k hk K hK;refine bA ?_;by_cases hlt:k < df.length
 ·have h1:=hdf _ (qa4 hlt)
  have h2:df[k].1.toNat < args.length:=by omega
  have h3:df[k].2.toNat < args.length:=by omega
  have hst:=any_succ (p:=nJ args) hlt;have hsp:nJ args df[k]=decide (args[df[k].1.toNat]=args[df[k].2.toNat]):=by rw [nJ,bq h2,bq h3,AY]
  by_cases he:args[df[k].1.toNat]=args[df[k].2.toNat]
  ·rw [hsp,decide_eq_true he,ql9] at hst
   (repeat' (first|refine gD 6 ?_;refine dK (.r 0 19 .nil) ?_|intro (K:St→Prop) hK|intro hc|(refine Gf 99 ?_ ?_ ?_ ?_<;>try exact VX)|fail));refine ⟨k+1,by omega,by omega,?_⟩;rw [hst];refine bA ?_;exact aZ
  rw [hsp,decide_eq_false he,qc5] at hst;(repeat' (first|refine gD 6 ?_;refine dK (.r 0 19 .nil) ?_|intro (K:St→Prop) hK|intro hc|(refine Gf 99 ?_ ?_ ?_ ?_<;>try exact VX)|fail));refine ⟨k+1,by omega,by omega,?_⟩;rw [hst];refine bA ?_;exact aZ
 obtain rfl:k=df.length:=by omega
 clear hlt hk;rw [qd2];generalize df.any (nJ args)=dup at *;refine iy (fun hc K hK K hK=>?_) VX VX VX;refine ba [10,11,54,55,56,57,58,59,60,61,62,63,64,65,66,67,68,69,70,71,72,73,74,75,76,77,78,79,80,81,82,83,84,85,86,87,88,89,90,91,92,93,94,95,96,97,98,99,100,101] (fun q:Nat×List bG×Bool=>q.1≤pre.length∧q.2.1.length≤q.1∧(q.2.2&&rP ⟨ty,ob,pr,sc,cB,go⟩ args (pre.drop q.1) q.2.1)=B∧q.2.1++rN ⟨ty,ob,pr,sc,cB,go⟩ args (pre.drop q.1)=N) (fun q=>pre.length - q.1) (fun q=>[(10,.int q.1)]) (fun q=>[(3,⟨29,[cW ty,cW ob,cY pr,dV sc,bQ cB,b9 go],true⟩),(6,⟨70,[.v (.int .i64 0),.v (.slice none 0 0),.v (.slice none 0 0),.v (.slice none 0 0),.v (.slice none 0 0),.v (.int .i64 0),.v (.bool false),.v (.bool false)],true⟩),(7,⟨100,[str nm,ints ts,qg df,b9 pre,bQ ad,bQ de,.int co],true⟩),(8,⟨70,[.int (i:Int),ints args,.sl 3 40 802 0 (q.2.1).length,.sl 3 40 803 0 (([]:List bG)).length,.sl 3 40 804 0 (([]:List bG)).length,.int co,.bool (q.2.2),.bool false],true⟩),(802,⟨68,(q.2.1).flatMap lN,false⟩),(803,⟨68,(([]:List bG)).flatMap lN,false⟩),(804,⟨68,(([]:List bG)).flatMap lN,false⟩)]) (0,[],!dup) ⟨qc6 _,qb3 _,hpo.symm,hN⟩ ?_ ?_
 ·refine bA ?_
  exact aZ
 rintro ⟨k,M,b⟩ ⟨hk,hM,hB,hNk⟩ K hK;simp only at hk hM hB hNk ⊢;refine bA ?_;by_cases hlt:k < pre.length
 ·have hx:=hpre _ (qa4 hlt)
  rw [qe2 hlt,hcon] at hB;rw [qe2 hlt,hncon] at hNk;have hbo:=vB pre[k].x args hx;have hf:=hfl pre[k].x.p;have htx:=htr (fu args pre[k]);have hop:=BB (fu args pre[k]);have hha:=oW M (y5 (fu args pre[k]));generalize hasB (fX ⟨ty,ob,pr,sc,cB,go⟩) pre[k].x.p=f at *;generalize pR ⟨ty,ob,pr,sc,cB,go⟩ (fu args pre[k])=tr at *;generalize fY M (y5 (fu args pre[k]))=c at *;cases f with
  |false=>
   simp only [qa8,if_false,qk0] at hB hNk;have hB2:((b&&tr)&&rP ⟨ty,ob,pr,sc,cB,go⟩ args (pre.drop (k+1)) M)=B:=by rw [Bool.and_assoc];exact hB
   cases b with
   |true=>
    (repeat' (first|refine hK _ ?_;clear hK K|refine bH (fun K hK=>?_)|refine gR ?_;refine bY ?_|refine gD 11 ?_;refine vP (s1:=?_) (.r 0 13 (.fk 13 15 (.it 14 0 (.it 15 1 (.it 16 3 .nil))) (.it 13 1 (.it 14 0 (.it 16 3 .nil))))) ?_ ?_;rotate_left|refine dH 103 ?_;refine bB (hbo) ?_|refine gC 42 ?_;refine bg (hf) ?_|refine gC 19 ?_;refine bg (htx) ?_|refine c8 (fun K hK=>?_);refine eZ (d:=11) 11 al ?_|refine And.intro ?_ ?_|refine gO ?_;refine kJ ?_|refine gL ?_;(first|exact Le.refl _|exact aZ)|refine gE ?_;(first|refine Exists.intro hlt ?_|refine iv ?_)|refine gQ ?_;(first|refine fc ?_|refine cZ (fun hc=>?_) (fun hc=>?_)<;>(try (first|contradiction|omega)))|refine yO ?_;refine nQ ?_|refine bE ?_|refine gX ?_;refine fb ?_|refine gS ?_;refine cS ?_|apply_assumption (exfalso:=false) (symm:=false)));refine ⟨(k+1,M,tr),⟨by simp only;omega,by simp only;omega,by simpa using hB2,hNk⟩,by simp only;omega,?_⟩;refine bA ?_;exact aZ
   |false=>
    (repeat' (first|refine hK _ ?_;clear hK K|refine bH (fun K hK=>?_)|refine gR ?_;refine bY ?_|refine gD 11 ?_;refine vP (s1:=?_) (.r 0 13 (.fk 13 15 (.it 14 0 (.it 15 1 (.it 16 3 .nil))) (.it 13 1 (.it 14 0 (.it 16 3 .nil))))) ?_ ?_;rotate_left|refine dH 103 ?_;refine bB (hbo) ?_|refine gC 42 ?_;refine bg (hf) ?_|refine c8 (fun K hK=>?_);refine eZ (d:=11) 11 al ?_|refine And.intro ?_ ?_|refine gO ?_;refine kJ ?_|refine gL ?_;(first|exact Le.refl _|exact aZ)|refine gE ?_;(first|refine Exists.intro hlt ?_|refine iv ?_)|refine gQ ?_;(first|refine fc ?_|refine cZ (fun hc=>?_) (fun hc=>?_)<;>(try (first|contradiction|omega)))|refine yO ?_;refine nQ ?_|refine bE ?_|refine gX ?_;refine fb ?_|refine gS ?_;refine cS ?_|apply_assumption (exfalso:=false) (symm:=false)));refine ⟨(k+1,M,false),⟨by simp only;omega,by simp only;omega,by simpa using hB2,hNk⟩,by simp only;omega,?_⟩;refine bA ?_;exact aZ
  |true=>
   simp only [if_true] at hB hNk;have hB2:((b&&!c)&&rP ⟨ty,ob,pr,sc,cB,go⟩ args (pre.drop (k+1)) (M++[fu args pre[k]]))=B:=by rw [Bool.and_assoc];exact hB
   rw [← qd6] at hNk;cases c with
   |true=>
    (repeat' (first|refine hK _ ?_;clear hK K|refine bH (fun K hK=>?_)|refine gR ?_;refine bY ?_|refine gD 11 ?_;refine vP (s1:=?_) (.r 0 13 (.fk 13 15 (.it 14 0 (.it 15 1 (.it 16 3 .nil))) (.it 13 1 (.it 14 0 (.it 16 3 .nil))))) ?_ ?_;rotate_left|refine gD 14 ?_;refine dK (.r 0 3 (.it 3 1 (.it 4 1 .nil))) ?_|refine dH 103 ?_;refine bB (hbo) ?_|refine gC 42 ?_;refine bg (hf) ?_|refine dH 104 ?_;refine bB (hop) ?_|refine bu (fun K hK=>?_);refine ck ?_|refine c8 (fun K hK=>?_);(first|((refine sj (dL (f:=bG.av) 802 3 40 M.length M aR (dS _) aP (fun _=>rfl) (fun _=>rfl) ak) (by first|(simp only [go_sem,seval,AV.dT,sealS_any,sealS_v,sealS_isl,sealS_iptr,di,dz,sealS_agg,sealS_tup,sealS_fn,purge_agg,purge_tup,purge_fn,and_self,AV.bz,AV.cq,qf0];done)|(simp only [go_sem,seval,AV.dT,sealS_any,sealS_v,sealS_isl,sealS_iptr,di,dz,sealS_agg,sealS_tup,sealS_fn,purge_agg,purge_tup,purge_fn,and_self,AV.bz,AV.cq,qf0];rfl)) hha aR (fun x hx=>?_);obtain rfl:=hx;refine ⟨rfl,?_⟩))|refine eZ (d:=11) 11 al ?_)|refine And.intro ?_ ?_|refine gO ?_;refine kJ ?_|refine gL ?_;(first|exact Le.refl _|exact aZ)|refine gE ?_;(first|refine Exists.intro hlt ?_|refine iv ?_)|refine gQ ?_;(first|refine fc ?_|refine ed ?_|refine cZ (fun hc=>?_) (fun hc=>?_)<;>(try (first|contradiction|omega)))|refine yO ?_;refine nQ ?_|refine gW ?_;refine eo ?_|refine bE ?_|refine gS ?_;refine cS ?_));refine ⟨(k+1,M++[fu args pre[k]],false),⟨by simp only;omega,by simp only [qa3,qb4];omega,by simpa using hB2,hNk⟩,by simp only;omega,?_⟩;refine bA ?_;refine ea (by (repeat (first|exact .nil|refine .drop ?_|refine dG ?_ aV))) (by (repeat refine ia aR aV ?_);exact fR _)
   |false=>
    (repeat' (first|refine hK _ ?_;clear hK K|refine bH (fun K hK=>?_)|refine gR ?_;refine bY ?_|refine gD 11 ?_;refine vP (s1:=?_) (.r 0 13 (.fk 13 15 (.it 14 0 (.it 15 1 (.it 16 3 .nil))) (.it 13 1 (.it 14 0 (.it 16 3 .nil))))) ?_ ?_;rotate_left|refine gD 14 ?_;refine dK (.r 0 3 (.it 3 1 (.it 4 1 .nil))) ?_|refine dH 103 ?_;refine bB (hbo) ?_|refine gC 42 ?_;refine bg (hf) ?_|refine dH 104 ?_;refine bB (hop) ?_|refine bu (fun K hK=>?_);refine ck ?_|refine c8 (fun K hK=>?_);(first|((refine sj (dL (f:=bG.av) 802 3 40 M.length M aR (dS _) aP (fun _=>rfl) (fun _=>rfl) ak) (by first|(simp only [go_sem,seval,AV.dT,sealS_any,sealS_v,sealS_isl,sealS_iptr,di,dz,sealS_agg,sealS_tup,sealS_fn,purge_agg,purge_tup,purge_fn,and_self,AV.bz,AV.cq,qf0];done)|(simp only [go_sem,seval,AV.dT,sealS_any,sealS_v,sealS_isl,sealS_iptr,di,dz,sealS_agg,sealS_tup,sealS_fn,purge_agg,purge_tup,purge_fn,and_self,AV.bz,AV.cq,qf0];rfl)) hha aR (fun x hx=>?_);obtain rfl:=hx;refine ⟨rfl,?_⟩))|refine eZ (d:=11) 11 al ?_)|refine And.intro ?_ ?_|refine gO ?_;refine kJ ?_|refine gL ?_;(first|exact Le.refl _|exact aZ)|refine gE ?_;(first|refine Exists.intro hlt ?_|refine iv ?_)|refine gQ ?_;(first|refine ed ?_|refine cZ (fun hc=>?_) (fun hc=>?_)<;>(try (first|contradiction|omega)))|refine yO ?_;refine nQ ?_|refine gW ?_;refine eo ?_|refine bE ?_|refine gS ?_;refine cS ?_));refine ⟨(k+1,M++[fu args pre[k]],b),⟨by simp only;omega,by simp only [qa3,qb4];omega,by simpa using hB2,hNk⟩,by simp only;omega,?_⟩;refine bA ?_;refine ea (by (repeat (first|exact .nil|refine .drop ?_|refine dG ?_ aV))) (by (repeat refine ia aR aV ?_);exact fR _)
 obtain rfl:k=pre.length:=by omega
 rw [qi3] at hB hNk;have hbB:b=B:=by rw [← hB];cases b<;>rfl
 have hMN:M=N:=by rw [← hNk];simp [rN]
 subst hbB hMN;clear hB hNk hpo hN hcon hncon hfl htr hlt hk;refine iy (fun hc K hK K hK=>?_) VX VX VX;refine ba [12,13,102,103,104,105,106,107,108,109,110,111,112,113,114,115,116,117,118,119,120,121,122,123,124,125,126,127,128,129] (fun k:Nat=>k≤ad.length) (fun k=>ad.length - k) (fun k=>[(12,.int k)]) (fun k=>[(3,⟨29,[cW ty,cW ob,cY pr,dV sc,bQ cB,b9 go],true⟩),(6,⟨70,[.v (.int .i64 0),.v (.slice none 0 0),.v (.slice none 0 0),.v (.slice none 0 0),.v (.slice none 0 0),.v (.int .i64 0),.v (.bool false),.v (.bool false)],true⟩),(7,⟨100,[str nm,ints ts,qg df,b9 pre,bQ ad,bQ de,.int co],true⟩),(8,⟨70,[.int (i:Int),ints args,.sl 3 40 802 0 (M).length,.sl 3 40 803 0 ((IW args ad k).map jB).length,.sl 3 40 804 0 ((IW args ad k).map e9).length,.int co,.bool (b),.bool false],true⟩),(802,⟨68,(M).flatMap lN,false⟩),(803,⟨68,((IW args ad k).map jB).flatMap lN,false⟩),(804,⟨68,((IW args ad k).map e9).flatMap lN,false⟩)]) 0 (qc6 _) ?_ ?_
 ·rw [show IW args ad 0=[] from rfl,qg5,qg5]
  refine bA ?_;exact aZ
 rintro k hk K hK;by_cases hlt:k < ad.length
 ·have hst:=Mw (args:=args) hlt
  have hlk:=Pv (args:=args) hk;have hbo:=vB ad[k] args (hadd _ (qa4 hlt));have hop:=BB (jB (dw args ad[k]));generalize IW args ad k=X at *;have l1:(X.map jB).length=k:=by rw [qa2,hlk]
  have l2:(X.map e9).length=k:=by rw [qa2,hlk]
  generalize hP:X.map jB=P at *;generalize hQ:X.map e9=Q at *;refine bA ?_;(repeat' (first|refine gD 22 ?_;refine dK (.r 0 3 (.it 3 1 (.it 4 1 (.it 5 3 (.it 6 1 (.it 7 3 .nil)))))) ?_|refine dH 104 ?_;refine bB (hop) ?_|refine gC 103 ?_;refine bg (hbo) ?_|refine bu (fun K hK=>?_);refine ck ?_|refine c8 (fun K hK=>?_);(first|refine eF (cf aR aR az) ?_|refine cN (d:=127) aJ aR aR aR aR ?_)|refine fQ (fun K hK=>?_);refine ck ?_|refine gO ?_;refine kJ ?_|intro (K:St→Prop) hK|intro hc|(refine rh 99 ?_ ?_ ?_ ?_<;>try exact VX)|fail));refine ⟨k+1,by omega,by omega,?_⟩;rw [hst,qb5,qb5,hP,hQ,qa3,qa3,qd4,qd4,qg5,qg5,qb4,qb4];refine bA ?_;exact aZ
 obtain rfl:k=ad.length:=by omega
 have l1:=Pq args ⟨nm,ts,df,pre,ad,de,co⟩;have l2:=Pr args ⟨nm,ts,df,pre,ad,de,co⟩;have s1:=@Ms args ⟨nm,ts,df,pre,ad,de,co⟩;have s2:=@Mt args ⟨nm,ts,df,pre,ad,de,co⟩;have z1:=Mu args ⟨nm,ts,df,pre,ad,de,co⟩;have z2:=Mv args ⟨nm,ts,df,pre,ad,de,co⟩;have e1:=Ps args ⟨nm,ts,df,pre,ad,de,co⟩;have e2:=Pt args ⟨nm,ts,df,pre,ad,de,co⟩;have hh:=Pu args ⟨nm,ts,df,pre,ad,de,co⟩;simp only at l1 l2 s1 s2 z1 z2 e1 e2 hh;rw [Pw,← z1,← z2];rw [← e1,← e2];generalize Mr args ⟨nm,ts,df,pre,ad,de,co⟩=AK at *;generalize MM args ⟨nm,ts,df,pre,ad,de,co⟩=DK at *;refine bA ?_;clear hlt hk;refine iy (fun hc K hK K hK=>?_) VX VX VX;refine ba [14,15,130,131,132,133,134,135,136,137,138,139,140,141,142,143,144,145,146,147,148,149,150,151,152,153,154,155,156,157,158,159,160,161,162] (fun k:Nat=>k≤de.length) (fun k=>de.length - k) (fun k=>[(14,.int k)]) (fun k=>[(3,⟨29,[cW ty,cW ob,cY pr,dV sc,bQ cB,b9 go],true⟩),(6,⟨70,[.v (.int .i64 0),.v (.slice none 0 0),.v (.slice none 0 0),.v (.slice none 0 0),.v (.slice none 0 0),.v (.int .i64 0),.v (.bool false),.v (.bool false)],true⟩),(7,⟨100,[str nm,ints ts,qg df,b9 pre,bQ ad,bQ de,.int co],true⟩),(8,⟨70,[.int (i:Int),ints args,.sl 3 40 802 0 (M).length,.sl 3 40 803 0 (AK k).length,.sl 3 40 804 0 (DK k).length,.int co,.bool (b),.bool false],true⟩),(802,⟨68,(M).flatMap lN,false⟩),(803,⟨68,(AK k).flatMap lN,false⟩),(804,⟨68,(DK k).flatMap lN,false⟩)]) 0 (qc6 _) ?_ ?_
 ·refine bA ?_
  exact aZ
 rintro k hk K hK;by_cases hlt:k < de.length
 ·have t1:=s1 hlt
  have t2:=s2 hlt;have m1:=l1 k;have m2:=l2 k;have hbo:=vB de[k] args (fg _ (qa4 hlt));have hop:=BB (jB (dw args de[k]));have hha:=oW (AK k) (jB (dw args de[k]));rw [hh] at hha;generalize AK k=A at *;generalize DK k=Dl at *;generalize j8 (ad.map (dw args)) (dw args de[k])=c at *;refine bA ?_;cases c with
  |true=>
   simp only [if_true,qe5] at t1 t2;(repeat' (first|refine gC 103 ?_;refine bg (hbo) ?_|refine bu (fun K hK=>?_);(refine jU (dL (f:=bG.av) 803 3 40 A.length A aR (dS _) aP (fun _=>rfl) (fun _=>rfl) ak) (by first|(simp only [go_sem,seval,AV.dT,sealS_any,sealS_v,sealS_isl,sealS_iptr,di,dz,sealS_agg,sealS_tup,sealS_fn,purge_agg,purge_tup,purge_fn,and_self,AV.bz,AV.cq,qf0];done)|(simp only [go_sem,seval,AV.dT,sealS_any,sealS_v,sealS_isl,sealS_iptr,di,dz,sealS_agg,sealS_tup,sealS_fn,purge_agg,purge_tup,purge_fn,and_self,AV.bz,AV.cq,qf0];rfl)) hha aR (fun x hx=>?_);obtain rfl:=hx;refine ⟨rfl,?_⟩)|intro (K:St→Prop) hK|intro hc|(refine Gf 99 ?_ ?_ ?_ ?_<;>try exact VX)|fail));refine ⟨k+1,by omega,by omega,?_⟩;rw [t1,t2];refine bA ?_;exact aZ
  |false=>
   simp only [qa8,if_false] at t1 t2;(repeat' (first|refine gD 29 ?_;refine dK (.r 0 3 (.it 3 1 (.it 4 1 (.it 5 3 (.it 6 1 (.it 7 3 .nil)))))) ?_|refine dH 104 ?_;refine bB (hop) ?_|refine gC 103 ?_;refine bg (hbo) ?_|refine bu (fun K hK=>?_);(first|((refine jU (dL (f:=bG.av) 803 3 40 A.length A aR (dS _) aP (fun _=>rfl) (fun _=>rfl) ak) (by first|(simp only [go_sem,seval,AV.dT,sealS_any,sealS_v,sealS_isl,sealS_iptr,di,dz,sealS_agg,sealS_tup,sealS_fn,purge_agg,purge_tup,purge_fn,and_self,AV.bz,AV.cq,qf0];done)|(simp only [go_sem,seval,AV.dT,sealS_any,sealS_v,sealS_isl,sealS_iptr,di,dz,sealS_agg,sealS_tup,sealS_fn,purge_agg,purge_tup,purge_fn,and_self,AV.bz,AV.cq,qf0];rfl)) hha aR (fun x hx=>?_);obtain rfl:=hx;refine ⟨rfl,?_⟩))|refine ck ?_)|refine c8 (fun K hK=>?_);(first|refine eF (cf aR aR az) ?_|refine cN (d:=160) aJ aR aR aR aR ?_)|refine fQ (fun K hK=>?_);refine ck ?_|refine gO ?_;refine kJ ?_|intro (K:St→Prop) hK|intro hc|(refine rh 99 ?_ ?_ ?_ ?_<;>try exact VX)|fail));refine ⟨k+1,by omega,by omega,?_⟩;rw [t1,t2,qa3,qa3,qb4,qb4];refine bA ?_;exact aZ
 obtain rfl:k=de.length:=by omega
 have m1:=l1 de.length;have m2:=l2 de.length;generalize AK de.length=A at *;generalize DK de.length=Dl at *;refine bA ?_;clear hlt;refine HA 30 (fun hc K hK K hK=>?_) VX VX VX;(refine cE (cV (f:=bG.av) 802 3 40 M.length M aR (dS _) aN (fun _=>rfl) (fun _=>rfl) ak) ?_;try simp only [go_sem,seval]);(refine cE (cV (f:=bG.av) 803 3 40 A.length A aR (dS _) aN (fun _=>rfl) (fun _=>rfl) ak) ?_;try simp only [go_sem,seval]);(refine cE (cV (f:=bG.av) 804 3 40 Dl.length Dl aR (dS _) aN (fun _=>rfl) (fun _=>rfl) ak) ?_;try simp only [go_sem,seval]);refine Go ?_ VX VX VX;refine V0 ?_;rw [← e1,← e2];rfl
end Go.Proofs.YtkbiagkbmodgdaaGreat
