/-
  A library of its own.
-/
import Derived.Test.YtdeiamnhnfmilaaGreatGlbLivB
set_option linter.unusedSimpArgs false
set_option linter.unusedVariables false
set_option maxRecDepth 10000
set_option maxHeartbeats 8000000
namespace Glb
open Go
variable {P:Program}{f:FuncId}
def fM.aU (x:fM):Nat->fM
 | 0=>x
 | n+1=>(x.aU n).tk n (3*((n:Int)+1))
theorem gC.aJ {N c:Nat}{p:Int}{x:fM}(h:gC N c p x)(hc:c<=7*N/\1<=N):kq N x:=by
 have hm:=h.aL;have q:∀r:fy,0<=r.aQ:=λr=>by unfold fy.aQ;split<;>omega
 have:=q (x.M 1);have:=q (x.M 2);have:=q (x.M 3);have e:lN (λi=>(x.M i).aQ)=(x.M 1).aQ+(x.M 2).aQ+(x.M 3).aQ:=rfl;have:=h.aI;exact⟨ω,h.aX,ω⟩
theorem DK:∀(x:fM)(n:Nat),x.aK (n+1)=(x.aK n).aS
 | x,0=>rfl
 | x,n+1=>DK x.aS n
theorem RO (x:fM)(n:Nat):x.aI (n+1)=(x.aI n).aE:=(Jb x n 1).symm
def qQ (P:Program)(f:FuncId):Prop:=fZ P f=true/\∀(Λ:Nat->Nat)(h:fu)(nb N c:Nat)(p:Int)(w:gz)(x:fM),gA Λ h nb w (iM x)->gC N c p x->oU N c p->c<=7*N/\1<=N->
 fO P f [.aA nb 9 0 0] h λ_ h'=>∃Λ' w',gK Λ h Λ' h'/\w'.rs=w.rs/\gA Λ' h' nb w' (iM x.aF)
theorem Nd {ft fk fc:FuncId}(hf:Is P f (By ft fk fc))(ut:sH P ft)(un:lW P fk)(uc:vH P fc):qQ P f:=by
 refine⟨hf.2,λΛ h nb N c p w x a lv sm hc=>gy hf ?_⟩;obtain⟨s1,s2,s3⟩:=sm;simp only[By,go_sem];obtain⟨I,hI⟩:∃I:Nat->gx->fu->Prop,∀m Lv h',I m Lv h'↔∃(i:Nat)(Λ':Nat->Nat)(w':gz),(lk 0 Lv=.aA nb 9 0 0/\lk 2 Lv=ι (i:Int))/\gK Λ h Λ' h'/\w'.rs=w.rs/\gA Λ' h' nb w' (iM (x.aU i))/\gC (N+i) (c+i) (p+i) (x.aU i)/\i<=5/\m=5-i:=⟨_,λ_ _ _=>YD⟩;refine iP I 5 ((hI _ _ _).2 ⟨0,Λ,w,⟨by simp[fE,iw],by simp[fE]⟩,gK.aF _ _,rfl,a,lv.aC (WX _) (WX _) ω,ω,rfl⟩) ?_;intro q Lv h1 hh;obtain⟨i,Λ1,w1,⟨k0,k2⟩,t1,wr,a1,lv1,hi,rfl⟩:=(hI _ _ _).1 hh;clear hh;by_cases c1:i<5
 ·have c1':(i:Int)<5:=ω;have ew:IntKind.i64.wrap ((i:Int)+1)=((i+1:Nat):Int):=by rw[gF ω];omega
  have em:IntKind.i64.wrap (3*((i+1:Nat):Int))=3*((i:Int)+1):=by rw[gF ω];omega
  have l5:=lv1.l5;have row1:=a1.aA;simp only[gz.aA]at row1;obtain⟨n1,j1,lrow,lg,r,v1,v2,v3,v4,v5,v6,v7,-,-⟩:=a1.aF (k:=i) (by show i<(x.aU i).l.length;omega);have vl:=(WR.1 v3).1;simp only[Bz,go_sem,k0,k2,WZ c1',row1,v1,v2,v3,ew,em];refine JX ut un a1 lv1.ok (lv1.aJ ⟨ω,ω⟩) ω (.inr ⟨ω,lv1.aI⟩) ω v4 v5 (λv h' ro hz go=>?_);simp only[go_sem];refine go (λv8 Λ8 h8 w8 s8 wr8 a8 ok8 b8=>?_);simp only[go_sem,k2,ew];have e:(x.aU i).aD i ((x.aU i).l[i].aV (3*((i:Int)+1)))=x.aU (i+1):=by show _=(x.aU i).tk i _;unfold fM.tk;rw[fM.aR]
  rw[e]at a8;obtain⟨lv2,-⟩:=lv1.tk ω ω ω c1 (3*((i:Int)+1));have lv2:gC (N+(i+1)) (c+(i+1)) (p+(i+1:Nat)) (x.aU (i+1)):=lv2.aC ω ω (by split<;>omega);exact⟨_,ω,(hI _ _ _).2 ⟨i+1,Λ8,w8,⟨by simp[fE,k0],by simp[fE]⟩,t1.aA s8,wr8.trans wr,a8,lv2,ω,rfl⟩⟩
 ·have c1':¬(i:Int)<5:=ω;obtain rfl:i=5:=ω;simp only[Bz,go_sem,k2,WV c1'];clear I hI;have lv1:gC (N+5) (c+5) (p+5) x.aH:=lv1.aC ω ω ω;have a1:gA Λ1 h1 nb w1 (iM x.aH):=a1;obtain⟨I,hI⟩:∃I:Nat->gx->fu->Prop,∀m Lv h',I m Lv h'↔∃(i:Nat)(Λ':Nat->Nat)(w':gz),(lk 0 Lv=.aA nb 9 0 0/\lk 3 Lv=ι (i:Int))/\gK Λ h Λ' h'/\w'.rs=w.rs/\gA Λ' h' nb w' (iM (x.aH.aI i))/\gC (N+5+i*(3*(c+5))) (c+5) (p+5) (x.aH.aI i)/\i<=6/\m=6-i:=⟨_,λ_ _ _=>YD⟩;refine iP I 6 ((hI _ _ _).2 ⟨0,Λ1,w1,⟨by simp[fE,k0],by simp[fE]⟩,t1,wr,a1,lv1.aC ω (WX _) ω,ω,rfl⟩) ?_;clear a1 lv1 t1 wr k0 k2;intro q Lv h1 hh;obtain⟨i,Λ1,w1,⟨k0,k3⟩,t1,wr,a1,lv1,hi,rfl⟩:=(hI _ _ _).1 hh;clear hh;by_cases c1:i<6
  ·have c1':(i:Int)<6:=ω;have ew:IntKind.i64.wrap ((i:Int)+1)=((i+1:Nat):Int):=by rw[gF ω];omega
   have ib:i*(3*(c+5))<=5*(3*(c+5)):=XZ _ ω;have es:(i+1)*(3*(c+5))=i*(3*(c+5))+3*(c+5):=Nat.succ_mul _ _;have row1:=a1.aA;simp only[gz.aA]at row1;have pl:=a1.aO;have pl:iJ w1.pv=some (ι (x.aH.aI i).aA.length):=pl;have bp:=(lv1.aJ ⟨ω,ω⟩);obtain⟨y,hy⟩:∃y,y=x.aH.aI i:=⟨_,rfl⟩;have yp:y.aE=x.aH.aI (i+1):=by rw[hy,RO]
   rw[<-hy]at a1 lv1 pl bp;obtain⟨N',hN'⟩:∃N',N'=N+5+i*(3*(c+5)):=⟨_,rfl⟩;rw[<-hN']at lv1 bp;have pc:y.aA.length<=3*(c+5):=by
    have hm:=lv1.aL;have q:∀r:fy,0<=r.aQ:=λr=>by unfold fy.aQ;split<;>omega
    have:=q (y.M 1);have:=q (y.M 2);have:=q (y.M 3);have e:lN (λi=>(y.M i).aQ)=(y.M 1).aQ+(y.M 2).aQ+(y.M 3).aQ:=rfl;omega
   simp only[BC,go_sem,k0,k3,WZ c1',row1,pl];obtain⟨J,hJ⟩:∃J:Nat->gx->fu->Prop,∀m Lv h',J m Lv h'↔∃(j:Nat)(Λ':Nat->Nat)(w':gz),(lk 0 Lv=.aA nb 9 0 0/\lk 3 Lv=ι (i:Int)/\lk 4 Lv=ι (m:Int))/\gK Λ h Λ' h'/\w'.rs=w.rs/\gA Λ' h' nb w' (iM (y.aK j))/\gC (N'+j) (c+5) (p+5) (y.aK j)/\m<=(y.aK j).aA.length/\j+m=y.aA.length:=⟨_,λ_ _ _=>YD⟩;refine iP J y.aA.length ((hJ _ _ _).2 ⟨0,Λ1,w1,⟨by simp[fE,k0],by simp[fE,k3],by simp[fE]⟩,t1,wr,a1,lv1,WX _,ω⟩) ?_;clear a1 t1 wr row1 pl bp;intro m Lw h2 hh;obtain⟨j,Λ2,w2,⟨j0,j3,j4⟩,t2,wr,a2,lv2,hm,hjm⟩:=(hJ _ _ _).1 hh;clear hh;by_cases c2:0<m
   ·have c2':(m:Int)>0:=ω;have em:IntKind.i64.wrap ((m:Int)-1)=((m-1:Nat):Int):=by rw[gF ω];omega
    simp only[BA,go_sem,j0,j4,WZ c2'];have h0:0<(y.aK j).aA.length:=ω;have bq:=lv2.aJ ⟨ω,ω⟩;refine fK ⟨uc.1,uc.2 Λ2 h2 nb (N'+j) w2 (y.aK j) C3 (2*(N'+j)) 40000 0 h0 a2 lv2.ok bq ω ω (.inr ⟨ω,lv2.aI⟩)⟩ ?_;rintro v8 h8 ⟨Λ8,w8,s8,wr8,a8,-,-⟩;obtain⟨m0,p0,ep⟩:∃m0 p0,(y.aK j).aA=m0 :: p0:=by
     cases e:(y.aK j).aA with
     | nil=>rw[e]at h0;simp at h0
     | cons m0 p0=>exact⟨m0,p0,rfl⟩
    have eh:(y.aK j).aL 0 ((y.aK j).aA[0]'h0)=y.aK (j+1):=by rw[DK];unfold fM.aS;simp only[ep,YB]
    rw[eh]at a8;obtain⟨lv3,s,l,wt⟩:=lv2.aN ω ω ω ep;have eh2:(y.aK j).aL 0 m0=y.aK (j+1):=by rw[DK];unfold fM.aS;simp only[ep]
    rw[eh2]at lv3 wt;have lp:m-1<=(y.aK (j+1)).aA.length:=by rw[wt.aA,WT];rw[ep,Xf]at hm;omega
    simp only[go_sem,j4,em];exact⟨_,ω,(hJ _ _ _).2 ⟨j+1,Λ8,w8,⟨by simp[fE,j0],by simp[fE,j3],by simp[fE]⟩,t2.aA s8,wr8.trans wr,a8,lv3,lp,ω⟩⟩
   ·have c2':¬(m:Int)>0:=ω;obtain rfl:m=0:=ω;obtain rfl:j=y.aA.length:=ω;simp only[BA,go_sem,j3,j4,WV c2',ew];have a2:gA Λ2 h2 nb w2 (iM y.aE):=a2;have lv2:gC (N'+y.aA.length) (c+5) (p+5) y.aE:=lv2;rw[yp]at a2 lv2;exact⟨_,ω,(hI _ _ _).2 ⟨i+1,Λ2,w2,⟨by simp[fE,j0],by simp[fE]⟩,t2,wr,a2,lv2.aC ω (WX _) (W9 _),ω,rfl⟩⟩
  ·have c1':¬(i:Int)<6:=ω;obtain rfl:i=6:=ω;simp only[BC,go_sem,k3,WV c1'];exact⟨Λ1,w1,t1,wr,a1⟩
variable {P:Program}{f:FuncId}
structure kD (h0 H:fu)(nb:Nat)(Λ:Nat->Nat)(w:gz)(x:fM):Prop where
 a:gA Λ H nb w (iM x)
 hz:∀m,m<h0.length->Λ m=0
 X:fq fB h0 H
theorem kD.aC {h0 H H':fu}{nb:Nat}{Λ Λ':Nat->Nat}{w w':gz}{x x':fM}(s:kD h0 H nb Λ w x)(t:gK Λ H Λ' H')(a:gA Λ' H' nb w' (iM x')):kD h0 H' nb Λ' w' x':=
 ⟨a,λm hm=>(t.aC m (by have:=s.X.1;omega)).trans (s.hz m hm),⟨by have:=t.aD;have:=s.X.1;omega,λm hm _=>(t.z m (by have:=s.X.1;omega) (s.hz m hm)).trans (s.X.2 m hm (λy=>y))⟩⟩
theorem kD.up {h0 H H':fu}{nb:Nat}{Λ:Nat->Nat}{w:gz}{x:fM}(s:kD h0 H nb Λ w x)(X:fq fB H H'):kD h0 H' nb Λ w x:=⟨s.a.up X,s.hz,s.X.tr X⟩
theorem QY {f1 f2 f3 f4 f5 f6 f7 f8 f9:FuncId}(hf:Is P f (jS f1 f2 f3 f4 f5 f6 f7 f8 f9))(u1:vN P f1)(u2:sH P f2)(u3:lW P f3)(u4:vH P f4)(u5:Af P f5)(u6:qp P f6)(u7:sG P f7):xN (λq=>q<=8) P f:=Q5 hf u1 fun {_ _ _ _ _ _ _ _ _ _ _ _ _ kd _ _ _ _} s h8 h0 _=>by
 by_cases c1:kd<=1
 ·exact QZ u2 u3 s c1 ω
 by_cases c2:kd<=4
 ·exact Q0 u4 s c2 c1
 by_cases c3:kd=5
 ·exact Q1 s c3
 by_cases c4:kd=6
 ·exact Q2 u5 s c4
 by_cases c5:kd=7
 ·exact Q3 u3 u6 s c5
 ·exact Q4 u7 s ω
section
variable {P:Program} {f1 f2 f3 f4 f5 f6 f7 f8 f9 f10 f11 f12 f13:FuncId} {h0 H:fu} {nb N c:Nat} {Λ:Nat->Nat} {w:gz} {x:fM} {lg:fG} {p:Int} {Le:gx}
theorem kD.aA (u9:pN P f9)(s:kD h0 H nb Λ w x)(lv:gC N c p x){k r:Nat}(hk:k<x.l.length) (hr:w.rs[k]?=some r):nO H r x.l[k]/\fO P f9 [.aA r 21 0 0] H λv h'=>v=.aF x.l[k].aA.v/\h'=H:=by
 obtain⟨u,er⟩:=WR.1 hr;have m0:jn (gQ k Λ) H r x.l[k]:=by rw[<-er];exact s.a.aG k u hk
 have rR:nO H r x.l[k]:=let⟨g,ff,ra⟩:=m0.r;⟨g,ff,ra.aA⟩
 have f:=lv.ok.aC k hk;have fl:=f.aF;have fb:=f.aD;have fs:=f.aU.2;have cf:x.l[k].aA.aD.aH (2^40):=(nE f.aH).le ω;exact⟨rR,(u9.2 H r x.l[k] rR (f.aC ω) cf ω ⟨ω,fb.1,ω⟩).aC λ_ _ ⟨b,e,o,X⟩=>⟨X,_,e▸iu.aA (ds:=x.l[k].aA.c) (fU.fz _ (λ_ x=>x) _ o),rfl⟩⟩
theorem Qq (u9:pN P f9)(u10:mR P f10)(u11:kK P f11 fy.aD)(u12:qq P f12)(u13:qZ P f13)(s:kD h0 H nb Λ w x)(lv:gC N c p x)(o:ub lg x)(l3:lk 3 Le=.aA nb 9 0 0)(l8:lk 8 Le=ι lg.aC):
  vc P (iT f1 f2 f3 f4 f5 f6 f7 f8 f9 f10 f11 f12 f13).aA.tl.tl.tl.tl.tl.tl.tl.tl.tl.tl ⟨Le,[],H⟩ (iS (iT f1 f2 f3 f4 f5 f6 f7 f8 f9 f10 f11 f12 f13).aC λv h'=>v=.aE true/\fq fB h0 h'):=by
 have l5:=lv.l5;simp only[iT,AC.aC,go_sem];obtain⟨I,hI⟩:∃I:Nat->gx->fu->Prop,∀m Lv h',I m Lv h'↔∃(k:Nat),(lk 3 Lv=.aA nb 9 0 0/\lk 8 Lv=ι lg.aC/\lk 12 Lv=ι (k:Int))/\kD h0 h' nb Λ w x/\k<=3/\m=3-k:=⟨_,λ_ _ _=>YD⟩;refine iP I 3 ((hI _ _ _).2 ⟨0,⟨by simp[fE,l3],by simp[fE,l8],by simp[fE]⟩,s,ω,rfl⟩) ?_;clear s l3 l8;intro q Lv h1 hh;obtain⟨k,⟨k3,k8,k12⟩,s,hk,rfl⟩:=(hI _ _ _).1 hh;clear hh;have row:=s.a.aA;simp only[gz.aA]at row;by_cases c1:k<3
 ·have c1':(k:Int)<3:=ω;have ew:IntKind.i64.wrap ((k:Int)+1)=((k+1:Nat):Int):=by rw[gF ω];omega
  obtain⟨n1,j1,lrow,lgg,r,v1,v2,v3,v4,v5,v6,v7,-,-⟩:=s.a.aF (k:=k) (by show k<x.l.length;omega);have vl:=(WR.1 v3).1;obtain⟨n2,j2,lrow2,lgg2,r0,w1,w2,w3,w4,w5,w6,w7,-,-⟩:=s.a.aF (k:=0) (by show 0<x.l.length;omega);have wl:=(WR.1 w3).1;have Mk:x.M ((k:Int)+1)=x.l[k]:=fM.aM ω;have M0:x.M 1=x.l[0]:=fM.aM (k:=0) ω;obtain⟨o1,o2⟩:=o (k+1) ω;obtain⟨o3,-⟩:=o 1 ω;rw[Mk]at o1 o2;rw[M0]at o3;have w1:jq 1 w.lv (ι 0)=some (.aA n2 1 j2 0):=w1;simp only[Br,go_sem,k3,k12,WZ c1',row,v1,v2,v3];refine gH u9.1 (s.aA u9 lv ω v4).2 ?_;simp only[go_sem,fP.aL];obtain⟨H1,hH1⟩:∃H1,H1=h1++[some (fC.aA 10 [[ι x.l[k].aA.aE,ι x.l[k].aA.aC,ι x.l[k].aA.aF,ι x.l[k].aA.aA.aA,ι x.l[k].aA.aA.aD,kE x.l[k].aA.aA.es,gO x.l[k].aA.aD.aA,gO x.l[k].aA.aD.aC,gO x.l[k].aA.aD.aD,jx x.l[k].aA.aG]] false)]:=⟨_,rfl⟩;have X1:fq fB h1 H1:=by rw[hH1];exact fq.b1 _
  have C1:H1[h1.length]?=ar 10 [[ι x.l[k].aA.aE,ι x.l[k].aA.aC,ι x.l[k].aA.aF,ι x.l[k].aA.aA.aA,ι x.l[k].aA.aA.aD,kE x.l[k].aA.aA.es,gO x.l[k].aA.aD.aA,gO x.l[k].aA.aD.aC,gO x.l[k].aA.aD.aD,jx x.l[k].aA.aG]]:=by rw[hH1];exact h_ _ _
  rw[<-hH1];clear hH1;have s1:=s.up X1;have row1:=X1.aA row;have v2':=X1.aA v2;have w2':=X1.aA w2;have f:=lv.ok.aC k ω;have lo:=f.aC ω;obtain⟨rk,hk9⟩:=s1.aA u9 lv ω v4;obtain⟨-,h09⟩:=s1.aA u9 lv ω w4;refine gH u10.1 (u10.2 fB H1 x.l[k].aA.aA _ (m8 _ _) lo) ?_;simp only[go_sem,k3,k12,row1,v1,v2',v3];refine gH u11.1 (u11.2 H1 r _ rk) ?_;have sl:∀e∈lg.es,e.aD.length<=2^40:=λe he=>by have:=(f.aI e (by rw[o1];exact he)).1.2;omega
  have nl:¬lg.aC<lg.aC:=ω;simp only[go_sem,k3,k8,C1,row1,v2',v3,w1,w2',w3,o1,o2,WV nl,XL];refine gH u9.1 h09 ?_;simp only[go_sem,fP.aL,C1,row1,v2',v3,w2',w3,o1,o3];refine gH u12.1 (u12.2 fB H1 lg lg _ _ (m8 _ _) (m8 _ _) (by rw[<-o1];have:=f.aF;omega) sl) ?_;simp only[go_sem,k12,C1,row1,v2',v3,w2',w3,o1,ew,XL];exact⟨_,ω,(hI _ _ _).2 ⟨k+1,⟨by simp[fE,k3],by simp[fE,k8],by simp[fE]⟩,s1,ω,rfl⟩⟩
 ·have c1':¬(k:Int)<3:=ω;simp only[Br,go_sem,k3,k12,WV c1',row];refine gH u13.1 (u13.2 _) ?_;simp only[go_sem];exact s.X
end
variable {P:Program}{f:FuncId}
section
variable {P:Program} {f1 f2 f3 f4 f5 f6 f7 f8 f9 f10 f11 f12 f13:FuncId} {h0 H:fu} {nb N c:Nat} {Λ:Nat->Nat} {w:gz} {x:fM} {lg:fG} {p:Int} {Le:gx}
theorem kD.aD {m m0:Nat}(u4:qQ P f4)(s:kD h0 H nb Λ w (x.aG m))(r:jQ p m0 x)(hp:p<=1100)(hm:m0+m<=401){K:AV->fu->Prop} (hK:∀v H' Λ' w',kD h0 H' nb Λ' w' (x.aG (m+1))->K v H'):m9 P f4 [.aA nb 9 0 0] H K:=by have rm:=jQ.aC hp m m0 x r ω;refine fK ⟨u4.1,u4.2 Λ H nb _ _ _ w _ s.a rm (vv hp hm) ⟨ω,ω⟩⟩ ?_;rintro v H' ⟨Λ',w',t,-,a'⟩;have e:(x.aG m).aF=x.aG (m+1):=yJ x m 1;rw[e]at a';exact hK v H' Λ' w' (s.aC t a')
theorem Qs (u4:qQ P f4)(u9:pN P f9)(Z:mR P f10)(W:kK P f11 fy.aD)(U:qq P f12)(O:qZ P f13)(s:kD h0 H nb Λ w x)(r:jQ p 101 x)(hp:p<=1100)(o:ub lg (x.aG 300))(l3:lk 3 Le=.aA nb 9 0 0)(l8:lk 8 Le=ι lg.aC):
  vc P (iT f1 f2 f3 f4 f5 f6 f7 f8 f9 f10 f11 f12 f13).aA.tl.tl.tl.tl.tl.tl.tl.tl.tl ⟨Le,[],H⟩ (iS (iT f1 f2 f3 f4 f5 f6 f7 f8 f9 f10 f11 f12 f13).aC λv h'=>v=.aE true/\fq fB h0 h'):=by
 have fin:=fun {H:fu}{Λ:Nat->Nat}{w:gz}{Le:gx} (s:kD h0 H nb Λ w (x.aG 300)) (l3:lk 3 Le=.aA nb 9 0 0) (l8:lk 8 Le=ι lg.aC)=>Qq (f1:=f1) (f2:=f2) (f3:=f3) (f4:=f4) (f5:=f5) (f6:=f6) (f7:=f7) (f8:=f8) u9 Z W U O s (jQ.aC hp 300 101 x r ω) o l3 l8;generalize iS (iT f1 f2 f3 f4 f5 f6 f7 f8 f9 f10 f11 f12 f13).aC (λv h'=>v=.aE true/\fq fB h0 h')=K at *;have e:(iT f1 f2 f3 f4 f5 f6 f7 f8 f9 f10 f11 f12 f13).aA.tl.tl.tl.tl.tl.tl.tl.tl.tl=.aA (iT f1 f2 f3 f4 f5 f6 f7 f8 f9 f10 f11 f12 f13).aA.tl.tl.tl.tl.tl.tl.tl.tl.tl.hd (iT f1 f2 f3 f4 f5 f6 f7 f8 f9 f10 f11 f12 f13).aA.tl.tl.tl.tl.tl.tl.tl.tl.tl.tl:=rfl;rw[e];clear e;generalize (iT f1 f2 f3 f4 f5 f6 f7 f8 f9 f10 f11 f12 f13).aA.tl.tl.tl.tl.tl.tl.tl.tl.tl.tl=D at fin ⊢;simp only[iT,AC.aC,AC.aE,go_sem];obtain⟨I,hI⟩:∃I:Nat->gx->fu->Prop,∀m Lv h',I m Lv h'↔∃(k:Nat)(Λ':Nat->Nat)(w':gz),(lk 3 Lv=.aA nb 9 0 0/\lk 8 Lv=ι lg.aC/\lk 11 Lv=ι (k:Int))/\kD h0 h' nb Λ' w' (x.aG k)/\k<=300/\m=300-k:=⟨_,λ_ _ _=>YD⟩;refine iP I 300 ((hI _ _ _).2 ⟨0,Λ,w,⟨by simp[fE,l3],by simp[fE,l8],by simp[fE]⟩,s,ω,rfl⟩) ?_;clear s l3 l8;intro q Lv h1 hh;obtain⟨k,Λ1,w1,⟨k3,k8,u⟩,s,hk,rfl⟩:=(hI _ _ _).1 hh;clear hh;by_cases c1:k<300
 ·have E:(k:Int)<300:=ω;have ew:IntKind.i64.wrap ((k:Int)+1)=((k+1:Nat):Int):=by rw[gF ω];omega
  simp only[Bq,go_sem,k3,u,WZ E];refine s.aD u4 r hp ω (λv H' Λ' w' s'=>?_);simp only[go_sem,u,ew];exact⟨_,ω,(hI _ _ _).2 ⟨k+1,Λ',w',⟨by simp[fE,k3],by simp[fE,k8],by simp[fE]⟩,s',ω,rfl⟩⟩
 ·have E:¬(k:Int)<300:=ω;obtain rfl:k=300:=ω;simp only[Bq,go_sem,u,WV E];exact fin s (by simp[fE,k3]) (by simp[fE,k8])
theorem Qu (u4:qQ P f4)(u5:kK P f5 fy.aR)(u6:kK P f6 fy.aE)(u7:qp P f7)(u8:lW P f8)(u9:pN P f9)(u10:mR P f10)(u11:kK P f11 fy.aD)(u12:qq P f12)(u13:qZ P f13)(s:kD h0 H nb Λ w x)(r:jQ 1000 100 x){i:Nat}(i3:i<3) (l2:(x.M ((i:Int)+1)).aE=2) (ll:∀j,V3 j->(x.M j).aR=(i:Int)+1)
  (go:∀(il:i<x.l.length)(data:List Int),gT data/\data.length<=256->(x.l[i].aP 1 data).2.2=0/\jQ 1020 101 (x.aD i (x.l[i].aP 1 data).2.1)/\mT x x.l[i].aA x.l[i].aI (x.l[i].aP 1 data).2.1/\∃lg:fG,lg.aC=(x.l[i].aP 1 data).1/\ub lg ((x.aD i (x.l[i].aP 1 data).2.1).aG 300))
  (k3:lk 3 Le=.aA nb 9 0 0):
  vc P (iT f1 f2 f3 f4 f5 f6 f7 f8 f9 f10 f11 f12 f13).aA.tl.tl.tl.tl ⟨Le,[],H⟩ (iS (iT f1 f2 f3 f4 f5 f6 f7 f8 f9 f10 f11 f12 f13).aC λv h'=>v=.aE true/\fq fB h0 h'):=by
 have l5:=gC.l5 r;obtain⟨a,g1,g3,lg,g4,g5⟩:=go ω [9] ⟨λz hz=>by simp at hz;omega,ς⟩;have fin:=fun {H:fu}{Λ:Nat->Nat}{w:gz}{Le:gx} (s:kD h0 H nb Λ w (x.aD i (x.l[i].aP 1 [9]).2.1)) (l3:lk 3 Le=.aA nb 9 0 0) (l8:lk 8 Le=ι lg.aC)=>Qs (f1:=f1) (f2:=f2) (f3:=f3) (f5:=f5) (f6:=f6) (f7:=f7) (f8:=f8) u4 u9 u10 u11 u12 u13 s g1 ω g5 l3 l8;generalize iS (iT f1 f2 f3 f4 f5 f6 f7 f8 f9 f10 f11 f12 f13).aC (λv h'=>v=.aE true/\fq fB h0 h')=K at *;have e:(iT f1 f2 f3 f4 f5 f6 f7 f8 f9 f10 f11 f12 f13).aA.tl.tl.tl.tl=.aA (iT f1 f2 f3 f4 f5 f6 f7 f8 f9 f10 f11 f12 f13).aA.tl.tl.tl.tl.hd (.aA (iT f1 f2 f3 f4 f5 f6 f7 f8 f9 f10 f11 f12 f13).aA.tl.tl.tl.tl.tl.hd (.aA (iT f1 f2 f3 f4 f5 f6 f7 f8 f9 f10 f11 f12 f13).aA.tl.tl.tl.tl.tl.tl.hd (.aA (iT f1 f2 f3 f4 f5 f6 f7 f8 f9 f10 f11 f12 f13).aA.tl.tl.tl.tl.tl.tl.tl.hd (.aA (iT f1 f2 f3 f4 f5 f6 f7 f8 f9 f10 f11 f12 f13).aA.tl.tl.tl.tl.tl.tl.tl.tl.hd (iT f1 f2 f3 f4 f5 f6 f7 f8 f9 f10 f11 f12 f13).aA.tl.tl.tl.tl.tl.tl.tl.tl.tl)))):=rfl;rw[e];clear e;generalize (iT f1 f2 f3 f4 f5 f6 f7 f8 f9 f10 f11 f12 f13).aA.tl.tl.tl.tl.tl.tl.tl.tl.tl=D at fin ⊢;have row:=s.a.aA;simp only[gz.aA]at row;have rowR:∀k q (_:k<x.l.length),w.rs[k]?=some q->nO H q x.l[k]:=λk q hk hr=>(s.aA u9 r (k:=k) hk hr).1;obtain⟨n0,j0,row0,lg0,r0,p1,p2,p3,p4,p5,p6,p7,-,-⟩:=s.a.aF (k:=0) (by show 0<x.l.length;omega);obtain⟨n1,j1,row1,lg1,r1,q1,q2,q3,q4,q5,q6,q7,-,-⟩:=s.a.aF (k:=1) (by show 1<x.l.length;omega);obtain⟨n2,j2,row2,lg2,r2,t1,t2,t3,t4,t5,t6,t7,-,-⟩:=s.a.aF (k:=2) (by show 2<x.l.length;omega);obtain⟨n3,j3,row3,lg3,r3,v1,v2,v3,v4,v5,v6,v7,-,-⟩:=s.a.aF (k:=i) (by show i<x.l.length;omega);have pl:=(WR.1 p3).1;have ql:=(WR.1 q3).1;have tl:=(WR.1 t3).1;have vl:=(WR.1 v3).1;have p1:jq 1 w.lv (ι 0)=some (.aA n0 1 j0 0):=p1;have q1:jq 1 w.lv (ι 1)=some (.aA n1 1 j1 0):=q1;have t1:jq 1 w.lv (ι 2)=some (.aA n2 1 j2 0):=t1;have e0:x.l[0].aR=(i:Int)+1:=by rw[<-ll 1 ω];exact Y5 fy.aR (fM.aM (k:=0) ω).symm
 have e1:x.l[1].aR=(i:Int)+1:=by rw[<-ll 2 ω];exact Y5 fy.aR (fM.aM (k:=1) ω).symm
 have e2:x.l[2].aR=(i:Int)+1:=by rw[<-ll 3 ω];exact Y5 fy.aR (fM.aM (k:=2) ω).symm
 have e3:x.l[i].aE=2:=by rw[<-l2];exact Y5 fy.aE (fM.aM (k:=i) ω).symm
 have em:IntKind.i64.wrap ((i:Int)+1-1)=(i:Int):=by rw[gF ω];omega
 have d1:¬(i:Int)+1<1:=ω;have d2:¬(i:Int)+1>3:=ω;have a0:(x.l[i].aP 1 [9]).2.2=0:=a;simp only[iT,AC.aC,AC.aE,go_sem,k3,row,p1,p2,p3];refine gH u5.1 (u5.2 H r0 _ (rowR 0 r0 ω p4)) ?_;simp only[go_sem,k3,row,e0,WV d1,WV d2,em,v1,v2,v3];refine gH u6.1 (u6.2 H r3 _ (rowR i r3 ω v4)) ?_;simp only[go_sem,k3,row,e3,q1,q2,q3];refine gH u5.1 (u5.2 H r1 _ (rowR 1 r1 ω q4)) ?_;simp only[go_sem,k3,row,e1,t1,t2,t3];refine gH u5.1 (u5.2 H r2 _ (rowR 2 r2 ω t4)) ?_;simp only[go_sem,k3,row,e2,em,v1,v2,v3];obtain⟨H1,hH1⟩:∃H1,H1=H++[some (fC.aA 1 [[AV.aD IntKind.u8 9]] false)]:=⟨_,rfl⟩;have X1:fq fB H H1:=by rw[hH1];exact fq.b1 _
 have B1:H1[H.length]?=ar 1 [[AV.aD IntKind.u8 9]]:=by rw[hH1];exact h_ _ _
 have hl1:H1.length=H.length+1:=by rw[hH1];simp
 rw[<-hH1];clear hH1;have s1:=s.up X1;obtain⟨hr1,er⟩:=WR.1 v4;have f:=r.ok.aC i ω;have m0:jn (gQ i Λ) H1 r3 x.l[i]:=by rw[<-er];exact s1.a.aG i hr1 (by show i<x.l.length;omega)
 have pz:∀m,Λ m=0->gQ i Λ m=0:=λm e=>by unfold gQ;rw[e];split<;>omega
 have dat:xD (gQ i Λ) H1 (gG [9]) (.aG H.length 1 0 1 (some 1)):=by refine⟨λm=>m=H.length,?_,λm hm=>⟨pz m (s.a.aE ω),ω⟩⟩;simp only[gG,XD,Yb,Rd];exact⟨_,.inr (.inr ⟨H.length,0,1,some 1,_,false,rfl,rfl,B1,ς,(λc hc=>by cases hc;simp),rfl⟩),by simp[gB,fH,Rd]⟩
 refine fK ⟨u7.1,u7.2 (gQ i Λ) H1 r3 x.l[i] 40000 1 [9] _ m0 f ω dat ⟨by intro z hz;simp at hz;omega,ς⟩ ⟨δ,δ⟩⟩ ?_;rintro _ h6 ⟨res,rfl,ro⟩;rw[<-er]at ro;obtain⟨Λ6,ma,ca,aa,rfl,s6,a6,ra,rb,rc⟩:=s1.a.aU hr1 (by show i<x.l.length;omega) ro;have sm:=ra.aA;have sc:=rb.aA;have sa:=rc.aA;simp only[go_sem,a0,k3,em,sm,sc,sa];obtain⟨H3,hH3⟩:∃H3,H3=h6++[some (fC.aA 5 [[ma,ca,aa,ι (x.l[i].aP 1 [9]).2.1.o.aE,.aE (x.l[i].aP 1 [9]).2.1.o.aD]] false)]:=⟨_,rfl⟩;have X3:fq fB h6 H3:=by rw[hH3];exact fq.b1 _
 rw[<-hH3];clear hH3;have t3:=gK.up (Λ:=Λ6) X3;have te:(x.l[i].aP 1 [9]).2.1.aE 2:=(RX.aE.aH _ _ _).aA ω;have sa':(x.l[i].aP 1 [9]).2.1.aD 21:=RX.aD.aH _ f.aH f.aE.1 _ _;refine u8.aA (a6.up X3) (t3.rd ra) (t3.rd rb) (t3.rd rc) r.ok g1.ok ω g3 ω (gC.aJ r ⟨ω,ω⟩) (.inr ⟨ω,r.aI⟩) te sa' (λv8 Λ8 h8 w8 s8 wr8 a8 b8=>?_);simp only[go_sem];exact fin (s1.aC (s6.aA (t3.aA s8)) a8) (by simp[fE,k3]) (by simp[fE,g4])
theorem Qr (u4:qQ P f4)(u5:kK P f5 fy.aR)(u6:kK P f6 fy.aE)(u7:qp P f7)(u8:lW P f8)(u9:pN P f9)(I:mR P f10)(E:kK P f11 fy.aD)(u:qq P f12)(e:qZ P f13)(s:kD h0 H nb Λ w (x.aG 100))(r0:jQ 1000 0 x)(k3:lk 3 Le=.aA nb 9 0 0):
  vc P (iT f1 f2 f3 f4 f5 f6 f7 f8 f9 f10 f11 f12 f13).aA.tl.tl.tl.tl ⟨Le,[],H⟩ (iS (iT f1 f2 f3 f4 f5 f6 f7 f8 f9 f10 f11 f12 f13).aC λv h'=>v=.aE true/\fq fB h0 h'):=by
 obtain⟨l,l3,r,l2,ll,go⟩:=Qv r0;obtain⟨i,rfl⟩:∃i:Nat,l=(i:Int)+1:=⟨(l-1).toNat,ω⟩;exact Qu u4 u5 u6 u7 u8 u9 I E u e s r ω l2 ll (λil data hd=>go i il data rfl hd) k3
end
variable {P:Program}{f:FuncId}
section
variable {P:Program} {f1 f2 f3 f4 f5 f6 f7 f8 f9 f10 f11 f12 f13:FuncId} {h0 H:fu} {nb N c:Nat} {Λ:Nat->Nat} {w:gz} {x:fM} {Le:gx}
theorem Qt (u4:qQ P f4)(u5:kK P f5 fy.aR)(u6:kK P f6 fy.aE)(u7:qp P f7)(u8:lW P f8)(u9:pN P f9)(U:mR P f10)(O:kK P f11 fy.aD)(I:qq P f12)(E:qZ P f13)(s:kD h0 H nb Λ w x)(r0:jQ 1000 0 x)(j3:lk 3 Le=.aA nb 9 0 0):
  vc P (iT f1 f2 f3 f4 f5 f6 f7 f8 f9 f10 f11 f12 f13).aA.tl.tl.tl ⟨Le,[],H⟩ (iS (iT f1 f2 f3 f4 f5 f6 f7 f8 f9 f10 f11 f12 f13).aC λv h'=>v=.aE true/\fq fB h0 h'):=by
 have fin:=fun {H:fu}{Λ:Nat->Nat}{w:gz}{Le:gx} (s:kD h0 H nb Λ w (x.aG 100)) (k3:lk 3 Le=.aA nb 9 0 0)=>Qr (f1:=f1) (f2:=f2) (f3:=f3) u4 u5 u6 u7 u8 u9 U O I E s r0 k3;generalize iS (iT f1 f2 f3 f4 f5 f6 f7 f8 f9 f10 f11 f12 f13).aC (λv h'=>v=.aE true/\fq fB h0 h')=K at *;have e:(iT f1 f2 f3 f4 f5 f6 f7 f8 f9 f10 f11 f12 f13).aA.tl.tl.tl=.aA (iT f1 f2 f3 f4 f5 f6 f7 f8 f9 f10 f11 f12 f13).aA.tl.tl.tl.hd (iT f1 f2 f3 f4 f5 f6 f7 f8 f9 f10 f11 f12 f13).aA.tl.tl.tl.tl:=rfl;rw[e];clear e;generalize (iT f1 f2 f3 f4 f5 f6 f7 f8 f9 f10 f11 f12 f13).aA.tl.tl.tl.tl=D at fin ⊢;simp only[iT,AC.aC,AC.aE,go_sem];obtain⟨J,hJ⟩:∃J:Nat->gx->fu->Prop,∀m Lv h',J m Lv h'↔∃(k:Nat)(Λ':Nat->Nat)(w':gz),(lk 3 Lv=.aA nb 9 0 0/\lk 6 Lv=ι (k:Int))/\kD h0 h' nb Λ' w' (x.aG k)/\k<=100/\m=100-k:=⟨_,λ_ _ _=>YD⟩;refine iP J 100 ((hJ _ _ _).2 ⟨0,Λ,w,⟨by simp[fE,j3],by simp[fE]⟩,s,ω,rfl⟩) ?_;clear s j3;intro q Lv h1 hh;obtain⟨k,Λ1,w1,⟨k3,k6⟩,s,hk,rfl⟩:=(hJ _ _ _).1 hh;clear hh;by_cases c1:k<100
 ·have u:(k:Int)<100:=ω;have ew:IntKind.i64.wrap ((k:Int)+1)=((k+1:Nat):Int):=by rw[gF ω];omega
  simp only[Bp,go_sem,k3,k6,WZ u];refine s.aD u4 r0 ω ω (λv H' Λ' w' s'=>?_);simp only[go_sem,k6,ew];exact⟨_,ω,(hJ _ _ _).2 ⟨k+1,Λ',w',⟨by simp[fE,k3],by simp[fE]⟩,s',ω,rfl⟩⟩
 ·have u:¬(k:Int)<100:=ω;obtain rfl:k=100:=ω;simp only[Bp,go_sem,k6,WV u];exact fin s (by simp[fE,k3])
end
theorem SI {f1 f2 f3 f4 f5 f6 f7 f8 f9 f10 f11 f12 f13:FuncId}(hf:Is P f (iT f1 f2 f3 f4 f5 f6 f7 f8 f9 f10 f11 f12 f13))(u1:z_ P f1)(u2:vN P f2)(u3:xN (λq=>q<=8) P f3)(u4:qQ P f4)(u5:kK P f5 fy.aR)(u6:kK P f6 fy.aE)(u7:qp P f7)(u8:lW P f8)(u9:pN P f9)(a2:mR P f10)(a1:kK P f11 fy.aD)(Z:qq P f12)(W:qZ P f13)(l:List pK)(h:fu):fO P f [(s_ l).av] h λv h'=>v=.aE true/\h'=h:=by
 refine fO.aC (K:=λv h'=>v=.aE true/\fq fB h h') (gy hf ?_) (λr _ ⟨e,hx⟩=>⟨hx,r,by rw[e];exact iu.aE _,e⟩);have al:∀H,Rd fB H (s_ l) (s_ l).av:=λH=>wZ _ _ _;have ll:iJ (s_ l).av=some (ι l.length):=by have:=(al h).aC;simpa [s_] using this
 generalize (s_ l).av=la at *;have fin:=fun {H:fu}{nb:Nat}{Λ:Nat->Nat}{w:gz}{x:fM}{Le:gx}(s:kD h H nb Λ w x)(r0:jQ 1000 0 x)(k3:lk 3 Le=.aA nb 9 0 0)=>Qt (f1:=f1) (f2:=f2) (f3:=f3) u4 u5 u6 u7 u8 u9 a2 a1 Z W s r0 k3;generalize iS (iT f1 f2 f3 f4 f5 f6 f7 f8 f9 f10 f11 f12 f13).aC (λv h'=>v=.aE true/\fq fB h h')=K at *;have e:(iT f1 f2 f3 f4 f5 f6 f7 f8 f9 f10 f11 f12 f13).aA=.aA (iT f1 f2 f3 f4 f5 f6 f7 f8 f9 f10 f11 f12 f13).aA.hd (.aA (iT f1 f2 f3 f4 f5 f6 f7 f8 f9 f10 f11 f12 f13).aA.tl.hd (.aA (iT f1 f2 f3 f4 f5 f6 f7 f8 f9 f10 f11 f12 f13).aA.tl.tl.hd (iT f1 f2 f3 f4 f5 f6 f7 f8 f9 f10 f11 f12 f13).aA.tl.tl.tl)):=rfl;rw[e];clear e;generalize (iT f1 f2 f3 f4 f5 f6 f7 f8 f9 f10 f11 f12 f13).aA.tl.tl.tl=D at fin ⊢;simp only[iT,AC.aC,AC.aE,go_sem];refine fK ⟨u1.1,u1.2 h 3 ω⟩ ?_;rintro _ H ⟨nb,Λ,w,rfl,X,hz,a⟩;simp only[go_sem];obtain⟨I,hI⟩:∃I:Nat->gx->fu->Prop,∀m Lv h',I m Lv h'↔∃(i:Nat)(Λ:Nat->Nat)(w:gz)(x:fM),(lk 0 Lv=la/\lk 3 Lv=.aA nb 9 0 0/\lk 4 Lv=ι (i:Int))/\kD h h' nb Λ w x/\gC i i (10*i) x/\kq i x/\i<=100/\m=100-i:=⟨_,λ_ _ _=>YD⟩;refine iP I 100 ((hI _ _ _).2 ⟨0,Λ,w,_,⟨by simp[fE,iw],by simp[fE],by simp[fE]⟩,⟨a,hz,X⟩,gC.aS,Mn 3,ω,rfl⟩) ?_;clear a hz X;intro q Lv h1 hh;obtain⟨i,Λ1,w1,x,⟨k0,k3,k4⟩,s,lv,bb,hi,rfl⟩:=(hI _ _ _).1 hh;clear hh;have ew:IntKind.i64.wrap ((i:Int)+1)=((i+1:Nat):Int):=by rw[gF ω];omega
 have r0:jQ 1000 0 x:=gC.aC lv ω ω ω;by_cases c1:i<l.length
 ·have u:(i:Int)<l.length:=ω;by_cases c2:i<100
  ·have U:(i:Int)<100:=ω;obtain⟨p,cs,i1,i2,i3⟩:=Rd.aD (al h1) .i64 (i:=(i:Int)) (d:=l[i].c) ω (by rw[show ((i:Int)).toNat=i by omega,XR,WU c1];rfl);obtain rfl:=SX i3;have ld:iK h1 true 3 p=some (.aF [ι l[i].aA,ι l[i].a,ι l[i].b]):=by rw[jN i2];rfl
   have p9:=vf (k:=l[i].aA) (n:=9) ω;have pp:j9 (j9 l[i].aA 9) 12=j9 l[i].aA 9:=by generalize j9 l[i].aA 9=z at *;unfold j9;rw[WY δ];omega
   simp only[yx,go_sem,k0,k4,ll,WZ u,WZ U,i1,ld];refine oO.aA u2.1 (u2.2 _ 9 ω) ?_;simp only[go_sem,k3];obtain⟨H1,O⟩:∃H1,H1=h1++[some (fC.aA 3 [[ι (j9 l[i].aA 9),ι l[i].a,ι l[i].b]] false)]:=⟨_,rfl⟩;have X1:fq fB h1 H1:=by rw[O];exact fq.b1 _
   rw[<-O];clear O;have s1:=s.up X1;refine fK ⟨u3.1,u3.2 Λ1 H1 nb i w1 x C3 (2*i) 40000 _ _ _ (by show j9 (j9 l[i].aA 9) 12<=8;rw[pp];omega) s1.a lv.ok bb ω ω ω⟩ ?_;rintro v8 h8 ⟨Λ8,w8,x8,s8,wr8,a8,ok8,b8,mv⟩;rw[pp]at mv;have p5:=vf (k:=l[i].a) (n:=5) ω;have E:=lv.aV ω ω ω ω ω mv;have E:gC (i+1) (i+1) (10*(i+1:Nat)) x8:=E.aC (WX _) (WX _) ω;simp only[go_sem,k4,ew];exact⟨_,ω,(hI _ _ _).2 ⟨i+1,Λ8,w8,x8,⟨by simp[fE,k0],by simp[fE,k3],by simp[fE]⟩,s1.aC s8 a8,E,b8,ω,rfl⟩⟩
  ·have U:¬(i:Int)<100:=ω;simp only[yx,go_sem,k0,k4,ll,WZ u,WV U];exact fin s r0 (by simp[fE,k3])
 ·have u:¬(i:Int)<l.length:=ω;simp only[yx,go_sem,k0,k4,ll,WV u];exact fin s r0 (by simp[fE,k3])
end Glb
