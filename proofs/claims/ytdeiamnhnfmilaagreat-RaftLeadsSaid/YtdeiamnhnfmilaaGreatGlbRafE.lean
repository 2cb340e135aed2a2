/-
  A library of its own.
-/
import Derived.Test.YtdeiamnhnfmilaaGreatGlbRafD
set_option linter.unusedSimpArgs false
set_option linter.unusedVariables false
set_option maxRecDepth 10000
set_option maxHeartbeats 8000000
namespace Glb
open Go
variable {P:Program}{f f1 f2 f3:FuncId}
def sH (P:Program)(f:FuncId):Prop:=fZ P f=true/\∀(L:Nat->Nat)(h:fu)(r:Nat)(x:fy)(k:Nat)(draw:Int),jn L h r x->x.aG k->k+2<2^28->
 fO P f [.aA r 21 0 0,.aD .i64 draw] h λv h'=>lA L h r (x.aV draw) v h'
theorem Uh {f4 f5 f6 f7:FuncId}(hf:xI P f (rK f1 f2 f3 f4 f5 f6 f7))(u1:vD P f1)(u2:xS P f2)(u3:sM P f3)(u4:sk P f4)(u5:vW P f5)(u6:qm P f6)(u7:AH P f7):sH P f:=by
 refine⟨hf.1,λL h r x k draw hx hfit hk=>Hy hf.2 (Yq rfl) ?_⟩;show pT P (rK f1 f2 f3 f4 f5 f6 f7).aA ⟨[(0,.aA r 21 0 0),(1,ι draw)],[],h⟩ (rA P (rK f1 f2 f3 f4 f5 f6 f7).aC _);simp only[rK,go_sem];refine fK ⟨u1.1,u1.2 _ r h.length⟩ ?_;rintro _ H3 ⟨rfl,X3⟩;simp only[go_sem];obtain⟨H,hH⟩:∃H,H=H3++[some (fC.aA 2 [[.aA r 21 0 0,.aA h.length 5 0 0]] false)]:=⟨_,rfl⟩;obtain⟨n5,hn5⟩:∃n5,n5=H3.length:=⟨_,rfl⟩;have l3:=X3.1;simp only[WT,Xf,Xi]at l3;have X:fq fB h H:=by rw[hH];exact ((fq.b1 _).tr X3).tr (fq.b1 _)
 have B1:H[h.length]?=ar 5 [[.aC,.aC,.aC,ι 0,.aE false]]:=by rw[hH];exact (fq.b1 _).aA (X3.aA (h_ _ _))
 have B5:H[n5]?=ar 2 [[.aA r 21 0 0,.aA h.length 5 0 0]]:=by rw[hH,hn5];exact h_ _ _
 have n5l:h.length+1<=n5:=ω;rw[<-hH,<-hn5];clear hH;have hx0:=hx.aD X B1 (WX _);have hlr:=hx.lt;obtain⟨o,ho⟩:∃o,o=h.length:=⟨_,rfl⟩;obtain⟨L0,hL0⟩:∃L0:Nat->Nat,L0=λm=>if m=o then 7 else L m:=⟨_,rfl⟩
 rw[<-ho]at B1 B5 hx0 ⊢;rw[<-hL0]at hx0;have zL:∀n,h.length<=n->n≠o->¬wA (L0 n):=λn hn hno=>by rw[hL0];show ¬wA (if n=o then 7 else L n);rw[WY hno,hx.ge hn];exact kl
 have fin:∀(Le:gx)(H':fu)(y:RX),x.aV draw=y.aA->y.r.aG (k+2)->lk 4 Le=.aA o 5 0 0->fJ wA fB L0 H r o y H'->
   uI P f2 [.aF [.aA r 21 0 0,.aA o 5 0 0]] H' (uW (rK f1 f2 f3 f4 f5 f6 f7).aC Le λv h'=>lA L h r (x.aV draw) v h'):=by
  intro Le H' y ey yf k4 T;obtain⟨L1,x1,l1,e1⟩:=T;refine Dw ⟨u2.1,u2.2 L1 H' r o y (k+2) x1 yf ω⟩ ?_;intro _ h'' T2;have T3:=fJ.aE l1 e1 (λ_ _ y=>y) T2;rw[hL0]at T3;obtain⟨ma,ca,aa,row,s1,s2,s3,out⟩:=T3.aJ hx X ω;rw[ey];simp only[rK,go_sem,k4,row];exact out
 simp only[rK]at fin;obtain⟨g,ff,rr⟩:=hx0.aA;have e1:x.aH.r=x:=rfl;rw[e1]at rr;have rr':=rr;simp only[fy.aL]at rr';have lr:=(WR.1 rr).1;have w5:(r=n5)=False:=Xp ω;have w0:(n5=r)=False:=Xp ω;have hb:=hfit.aX;have he:=hfit.aY;have ewb:IntKind.i64.wrap (x.aM+1)=x.aM+1:=gF ω;have ewe:IntKind.i64.wrap (x.aF+1)=x.aF+1:=gF ω;simp only[go_sem,rr'];by_cases c1:x.aE=2
 ·simp only[go_sem,rr',WZ c1,lr,ewb];by_cases c2:2<=x.aM+1
  ·have et:x.aV draw=(({x with aM:=0}:fy).aH.on).aA:=by unfold fy.aV;rw[WW c1,WW c2]
   have T1:=fJ.aH (R:=x) (out:=na.aG) (R':={x with aM:=0}) (hx0.to (W:=wA) (Q:=fB)) rr rfl rfl (λ_ z=>z);simp only[fy.aL]at T1;simp only[go_sem,rr',B5,WZ c2,lr,w5,Yi];have f0:({x with aM:=0}:fy).aG k:=by obtain⟨g1,g2,g3,g4,g5,g6,g7,g8,g9,g10,g11,g12,g13,g14,g15⟩:=hfit;exact⟨g1,g2,g3,g4,g5,g6,g7,g8,g9,g10,⟨W9 _,by show (0:Int)<=1;omega⟩,g12,g13,g14,g15⟩
   have ech:=fJ.aD (Q':=fB) T1 (fq.aC _ _) (λ_ _ y=>y) λL1 x1=>(Dz u4 u3 x1 f0 ω (oh _) ω).aA λ_ _ b=>b.aG nZ;refine fK ⟨u4.1,ech⟩ ?_;intro _ H4 T4;simp only[go_sem];exact fin _ H4 _ et ((Ef (x:=({x with aM:=0}:fy).aH) f0 (oh _)).1.aA ω) (by simp[fE]) T4
  ·have et:x.aV draw=(({x with aM:=x.aM+1}:fy).aH).aA:=by unfold fy.aV;rw[WW c1,WY c2]
   have T1:=fJ.aH (R:=x) (out:=na.aG) (R':={x with aM:=x.aM+1}) (hx0.to (W:=wA) (Q:=fB)) rr rfl rfl (λ_ z=>z);simp only[fy.aL]at T1;simp only[go_sem,WV c2];refine fin _ _ _ et ?_ (by simp[fE]) T1;obtain⟨g1,g2,g3,g4,g5,g6,g7,g8,g9,g10,g11,g12,g13,g14,g15⟩:=hfit.aA (show k<=k+2 by omega);exact⟨g1,g2,g3,g4,g5,g6,g7,g8,g9,g10,⟨by show 0<=x.aM+1;omega,by show x.aM+1<=1;omega⟩,g12,g13,g14,g15⟩
 ·have T1:=fJ.aH (R:=x) (out:=na.aG) (R':={x with aF:=x.aF+1}) (hx0.to (W:=wA) (Q:=fB)) rr rfl rfl (λ_ z=>z);have r1:(H.set r (some (.aA 21 [({x with aF:=x.aF+1}:fy).aL g ff] false)))[r]?=ar 21 [({x with aF:=x.aF+1}:fy).aL g ff]:=W0 lr;simp only[fy.aL]at T1 r1;have f1:({x with aF:=x.aF+1}:fy).aG (k+1):=by obtain⟨g1,g2,g3,g4,g5,g6,g7,g8,g9,g10,g11,g12,g13,g14,g15⟩:=hfit.aA (Zc k);exact⟨g1,g2,g3,g4,g5,g6,g7,g8,g9,⟨by show 0<=x.aF+1;omega,by show x.aF+1<=((k+1:Nat):Int);omega⟩,g11,g12,g13,g14,g15⟩
  simp only[go_sem,rr',WV c1,lr,W4,ewe];have lr1:r<(H.set r (some (.aA 21 [({x with aF:=x.aF+1}:fy).aL g ff] false))).length:=by rw[W4];exact lr
  have F5:=T1.aA (zL n5 ω ω) (λz=>z) B5;obtain⟨s,hs⟩:∃s:fy,s={x with aF:=x.aF+1}:=⟨_,rfl⟩;have et:x.aV draw=(if s.aT<=s.aF/\s.bz s.id=true/\s.aA.aC<2^40/\s.aO<2^40 then s.aH.aV draw else s.aH).aA:=by rw[hs];unfold fy.aV;rw[WY c1]
  have eq1:s.aT=x.aT/\s.aF=x.aF+1/\s.id=x.id/\s.aA=x.aA:=by rw[hs];exact⟨rfl,rfl,rfl,rfl⟩
  obtain⟨q1,q2,q3,q4⟩:=eq1;have eb:({r:={x with aF:=x.aF+1},o:=na.aG}:RX)=s.aH:=by rw[hs];rfl
  rw[<-hs]at f1;rw[eb]at T1;generalize hH1:H.set r _=H1 at *;have rw1:nO H1 r s:=T1.aF;have no:¬(s.aT<=s.aF/\s.bz s.id=true/\s.aA.aC<2^40/\s.aO<2^40)->x.aV draw=s.aH.aA:=λc=>by rw[et,WY c]
  have eL:(2:Int)^40=1099511627776:=by decide
  rw[q1,q2,q3,q4,eL]at no et;by_cases c2:x.aT<=x.aF+1
  ·simp only[go_sem,r1,WZ c2];refine gH u5.1 (u5.2 H1 r s x.id rw1 (f1.aL ω) (f1.aM δ)) ?_;rw[iY];cases c3:s.bz x.id;·simp only[go_sem,r1];exact fin _ H1 _ (no (λz=>by rw[c3]at z;cases z.2.1)) (f1.aA ω) (by simp[fE]) T1
   ·simp only[go_sem,r1];by_cases c4:x.aA.aC<1099511627776
    ·simp only[go_sem,WZ c4];refine gH u6.1 (u6.2 H1 r s rw1 (f1.aC ω)) ?_;rw[iY];by_cases c5:s.aO<1099511627776;·rw[WW ⟨c2,c3,c4,c5⟩]at et;simp only[go_sem,r1,F5,WZ c5];have st:=fJ.aD (Q':=fB) T1 (fq.aC _ _) (λ_ _ y=>y) λL1 x1=>u7.2 L1 H1 r o s.aH (k+1) 0 draw x1 f1 ω (oh _) ω (by show s.aA.aC<2^40;rw[q4,eL];exact c4);refine fK ⟨u7.1,st⟩ ?_;intro _ H4 T4;simp only[go_sem];exact fin _ H4 _ et ((JT (x:=s.aH) f1 ω (oh _) (by show s.aA.aC<2^40;rw[q4,eL];exact c4) draw).1) (by simp[fE]) T4
     ·simp only[go_sem,r1,WV c5];exact fin _ H1 _ (no (λz=>c5 z.2.2.2)) (f1.aA ω) (by simp[fE]) T1
    ·simp only[go_sem,WV c4];exact fin _ H1 _ (no (λz=>c4 z.2.2.1)) (f1.aA ω) (by simp[fE]) T1
  ·simp only[go_sem,WV c2];exact fin _ H1 _ (no (λz=>c2 z.1)) (f1.aA ω) (by simp[fE]) T1
variable {P:Program}{f f1 f2 f3:FuncId}
theorem US {h:fu}{n:Nat}{v:Option fC} (hn:h[n]?=some v):h.set n v=h:=by
 apply XT;intro i;rw[Yz];have:=(WR.1 hn).1;split;·rename_i e;subst e;first | exact hn.symm | (rw[if_pos this];exact hn.symm)
 ·rfl
theorem fJ.aP {L h r x h0 o X h' n}(a:jn L h r x)(hx:fq fB h h0)(I:h.length<=o)(T:fJ wA fB (λm=>if m=o then 7 else L m) h0 r o X h')(hn:h.length<=n/\n<h0.length)(u:n≠o):
  ∃ma ca aa,h'[o]?=ar 5 [[ma,ca,aa,ι X.o.aE,.aE X.o.aD]]/\ma.aH=true/\ca.aH=true/\aa.aH=true/\∀b:Option fC,lA L h r X (.aF [ma,ca,aa,ι X.o.aE,.aE X.o.aD]) (h'.set n b):=by
 obtain⟨L1,x1,l1,e1⟩:=T;obtain⟨ma,ca,aa,oa⟩:=x1.o;obtain⟨g,f,ra⟩:=x1.r;have hl:=hx.1;have e:∀m,m<h.length->(if m=o then 7 else L m)=L m:=λm hm=>WY ω;have E:L1 n=0:=by rw[l1 n hn.2 (.inr (λz=>z))];show (if n=o then 7 else L n)=0;rw[WY u,a.ge hn.1]
 have ne:∀(b:Option fC)(m:Nat),L1 m≠0->(h'.set n b)[m]?=h'[m]?:=λb m hm=>WS (by rintro rfl;exact hm E);refine⟨ma,ca,aa,oa.aA,oa.m.aA,oa.c.aA,oa.a.aA,λb=>⟨L1,o,ma,ca,aa,rfl,⟨g,f,ra.aC (λ_ _ _=>rfl) λm _ hm=>ne b m ω⟩,oa.aC (λ_ _ _=>rfl) (λm _ hm=>ne b m ω),λm hm=>by rw[W4];exact x1.lt m hm,I,λm hm=>(l1 m ω (.inr (λz=>z))).trans (e m hm),?_⟩⟩;refine⟨by rw[W4];have:=e1.1;omega,λm hm hw=>(WS ω).trans ((e1.2 m ω ?_).trans (hx.2 m hm (λz=>z)))⟩;rintro (z | z);·exact hw (by have z':wA (if m=o then 7 else L m):=z;rw[e m hm]at z';exact z')
 ·exact z
def xD (L:Nat->Nat)(h:fu)(d:D)(a:AV):Prop:=∃G:Nat->Prop,Rd G h d a/\∀n,G n->L n=0/\n<h.length
def qp (P:Program)(f:FuncId):Prop:=fZ P f=true/\∀(L:Nat->Nat)(h:fu)(r:Nat)(x:fy)(k:Nat)(kind:Int)(data:List Int)(d:AV),jn L h r x->x.aG k->k+1<2^28->xD L h (gG data) d->gT data/\data.length<=2^16->iA kind->
 fO P f [.aA r 21 0 0,.aD .i64 kind,d] h λv h'=>∃w,v=.aI [.aD .i64 (x.aP kind data).1,w,.aD .i64 (x.aP kind data).2.2]/\lA L h r (x.aP kind data).2.1 w h'
theorem Ub {f4 f5 f6 f7 f8:FuncId}(hf:Is P f (nk f1 f2 f3 f4 f5 f6 f7 f8))(u1:Am P f1)(u2:qm P f2)(u3:vD P f3)(u4:xU P f4)(u5:sM P f5)(u6:sk P f6)(u7:vQ P f7)(u8:AE P f8):qp P f:=by
 refine⟨hf.2,λL h r x k kind data d hx E hk hd u U=>gy hf ?_⟩;obtain⟨G,ab,hG⟩:=hd;obtain⟨H,hH⟩:∃H,H=h++[some (fC.aA 5 [[.aC,.aC,.aC,ι 0,.aE false]] false)]++[some (fC.aA 5 [[.aC,.aC,.aC,ι 0,.aE false]] false)]:=⟨_,rfl⟩;have X2:fq fB h H:=by rw[hH];exact fq.b2 _ _
 have l2:H.length=h.length+2:=by rw[hH];simp
 have C0:H[h.length]?=ar 5 [[.aC,.aC,.aC,ι 0,.aE false]]:=by rw[hH];exact kr _ _ _
 have C1:H[h.length+1]?=ar 5 [[.aC,.aC,.aC,ι 0,.aE false]]:=by rw[hH];exact jy _ _ _
 have ll:=E.aJ;have ae:∀{y:RX}{B H':fu}{L':Nat->Nat},fq fB h B->(∀n,n<h.length->L' n=L n)->fJ wA fB L' B r (h.length+1) y H'->Rd G H' (gG data) d:=λX hl T=>Rd.aE (F:=λn=>G n/\n<h.length) (λ_ y=>y.1) (λn hn y hy=>T.aA (by rw[hl n hn.2,(hG n hn.1).1];exact kl) (λz=>z) (X.aA hy)) _ _ (Rd.lt _ _ ab);have e:∀(o:Nat)(L0:Nat->Nat)(H3:fu)(Le:gx),o=h.length+1->L0=(λm=>if m=o then 7 else L m)->fq fB h H3->h.length+2<=H3.length->iv L0 H3 r o x.aH->H3[h.length]?=ar 5 [[.aC,.aC,.aC,ι 0,.aE false]]->lk 0 Le=.aA r 21 0 0->lk 1 Le=ι kind->lk 2 Le=d->lk 7 Le=.aA h.length 5 0 0->lk 9 Le=.aA o 5 0 0->
   x.aP kind data=(x.aO+1,(((x.aH.aF kind data).on).aM).aA,0)->
   vc P (nk f1 f2 f3 f4 f5 f6 f7 f8).aA.tl.tl.tl.tl ⟨Le,[],H3⟩ (iS (nk f1 f2 f3 f4 f5 f6 f7 f8).aC λv h'=>∃w,v=.aI [ι (x.aP kind data).1,w,ι (x.aP kind data).2.2]/\lA L h r (x.aP kind data).2.1 w h'):=by
  intro o L0 H3 Le ho I X3 l3 O D0 k0 k1 k2 k7 k9 ep;rw[ep];have e1:x.aH.r=x:=rfl;simp only[nk,AC.aC,go_sem,k0,k9];refine fK ⟨u3.1,u3.2 H3 r o⟩ ?_;rintro _ H4 ⟨rfl,X4⟩;simp only[go_sem,k1,k2];obtain⟨H5,a2⟩:∃H5,H5=H4++[some (fC.aA 2 [[.aA r 21 0 0,.aA o 5 0 0]] false)]:=⟨_,rfl⟩;have X5:fq fB H3 H5:=by rw[a2];exact X4.tr (fq.b1 _)
  have x4:=X4.1;have B5:H5[H4.length]?=ar 2 [[.aA r 21 0 0,.aA o 5 0 0]]:=by rw[a2];exact h_ _ _
  have D5:=X5.aA D0;have a8:=O.up X5;obtain⟨n5,a9⟩:∃n5,n5=H4.length:=⟨_,rfl⟩;rw[<-a2,<-a9];rw[<-a9]at B5;clear a2;have zL:∀n,h.length<=n->n≠o->¬wA (L0 n):=λn hn a4=>by rw[I];show ¬wA (if n=o then 7 else L n);rw[WY a4,hx.ge hn];exact kl
  have ac:fq fB h H5:=X3.tr X5;have af:∀n,n<h.length->L0 n=L n:=λn hn=>by rw[I];exact WY ω
  subst ho;have d5:=ae ac af (a8.to (W:=wA) (Q:=fB));have ly:=u4.2 (λn=>G n) L0 H5 r (h.length+1) x.aH k 0 kind data d a8 E ω (oh _) ω d5 u U;refine fK ⟨u4.1,ly⟩ ?_;rintro _ H6 ⟨rfl,T6⟩;have f6:(x.aH.aF kind data).r.aG (k+1):=fy.aG.aT (x:=x.aH) E ω u U;have w6:(x.aH.aF kind data).aC 1:=RX.aC.aE (x:=x.aH) (oh _) kind data;have M6:=T6.aA (zL _ ω ω) (λz=>z) B5;simp only[go_sem,k0,M6];have ea:=fJ.aD (Q':=fB) T6 (fq.aC _ _) (λ_ _ y=>y) λL1 x1=>(Dz u6 u5 x1 f6 ω w6 ω).aA λ_ _ b=>b.aG nZ;refine fK ⟨u6.1,ea⟩ ?_;intro _ H7 T7;have f7:(x.aH.aF kind data).on.r.aG (k+1):=(Ef f6 w6).1;have M7:=T7.aA (zL _ ω ω) (λz=>z) B5;simp only[go_sem,M7];have se:=fJ.aD (Q':=fB) T7 (fq.aC _ _) (λ_ _ y=>y) λL1 x1=>u7.2 L1 H7 r _ _ (k+1) x1 f7 ω;refine fK ⟨u7.1,se⟩ ?_;intro _ H8 T8;have f8:(x.aH.aF kind data).on.aM.r.aG (k+1):=f7.aR;have M8:=T8.aA (zL _ ω ω) (λz=>z) B5;simp only[go_sem,M8];have en:=fJ.aD (Q':=fB) T8 (fq.aC _ _) (λ_ _ y=>y) λL1 x1=>u8.2 L1 H8 r _ _ (k+1) x1 f8 ω;refine fK ⟨u8.1,en⟩ ?_;intro _ H9 T9;have M9:=T9.aA (zL _ (WX _) ω) (λz=>z) D5;rw[I]at T9;have x5:=X5.1;obtain⟨ma,ca,aa,row,s1,s2,s3,out⟩:=T9.aP (n:=h.length) hx ac ω ⟨WX _,ω⟩ ω;have lh:=(WR.1 M9).1;have w0:(h.length+1=h.length)=False:=Xp ω;simp only[go_sem,k7,k9,row,M9,s1,s2,s3,lh];exact⟨_,rfl,out _⟩
 have e0:(nk f1 f2 f3 f4 f5 f6 f7 f8).aA=.aA (nk f1 f2 f3 f4 f5 f6 f7 f8).aA.hd (.aA (nk f1 f2 f3 f4 f5 f6 f7 f8).aA.tl.hd (.aA (nk f1 f2 f3 f4 f5 f6 f7 f8).aA.tl.tl.hd (.aA (nk f1 f2 f3 f4 f5 f6 f7 f8).aA.tl.tl.tl.hd (nk f1 f2 f3 f4 f5 f6 f7 f8).aA.tl.tl.tl.tl))):=rfl;rw[e0];generalize (nk f1 f2 f3 f4 f5 f6 f7 f8).aA.tl.tl.tl.tl=D at e ⊢;have a3:=e;simp only[nk,fV]at a3;clear e;simp only[nk,AC.aE,AC.aC,go_sem];rw[<-hH];clear hH;refine gH u1.1 (u1.2 G H data d (Rd.aE (λ_ y=>y) (X2.aE _) _ _ ab) u.1 ω) ?_;simp only[go_sem,fI.aN,tN];obtain⟨cf,a5⟩:∃cf,cf=iG data:=⟨_,rfl⟩;rw[<-a5];obtain⟨H3,Z⟩:∃H3,H3=H++[some (fC.aA 3 [[gO cf.1.aA,gO cf.1.aC,gO cf.1.aD]] false)]:=⟨_,rfl⟩;have X3:fq fB h H3:=by rw[Z];exact X2.tr (fq.b1 _)
 have l3:H3.length=h.length+3:=by rw[Z];simp[l2]
 have D0:H3[h.length]?=ar 5 [[.aC,.aC,.aC,ι 0,.aE false]]:=by rw[Z];exact (fq.b1 _).aA C0
 have D1:H3[h.length+1]?=ar 5 [[.aC,.aC,.aC,ι 0,.aE false]]:=by rw[Z];exact (fq.b1 _).aA C1
 rw[<-Z];clear Z;have O:=hx.aD X3 D1 ω;have hlr:=hx.lt;obtain⟨o,ho⟩:∃o,o=h.length+1:=⟨_,rfl⟩;obtain⟨L0,I⟩:∃L0:Nat->Nat,L0=λm=>if m=o then 7 else L m:=⟨_,rfl⟩
 rw[<-ho]at D1 O ⊢;rw[<-I]at O;have zL:∀n,h.length<=n->n≠o->L0 n=0:=λn hn a4=>by rw[I];show (if n=o then 7 else L n)=0;rw[WY a4,hx.ge hn]
 obtain⟨g,ff,rr⟩:=O.aA;have e1:x.aH.r=x:=rfl;rw[e1]at rr;have a6:=rr;simp only[fy.aL]at a6;have lh:=(WR.1 D0).1;have bad:lA L h r x.aH (.aF [.aC,.aC,.aC,ι 0,.aE false]) (H3.set h.length (some (.aA 5 [[.aC,.aC,.aC,ι 0,.aE false]] false))):=by rw[US D0];have T:=O.to (W:=wA) (Q:=fB);rw[I]at T;obtain⟨ma,ca,aa,row,s1,s2,s3,out⟩:=T.aJ hx X3 ω;rw[row]at D1;simp only[W8,fC.aA.injEq,Yv]at D1;obtain⟨-,⟨⟨rfl,rfl,rfl,-⟩,-⟩,-⟩:=D1;exact out
 have w0:(o=h.length)=False:=Xp ω;simp only[go_sem,a6];by_cases c1:x.aE=2
 ·simp only[go_sem,WZ c1,XL];by_cases c2:¬kind=1/\¬kind=2
  ·have ep:x.aP kind data=(0,x.aH,13):=by unfold fy.aP;rw[WY (by simpa using c1),WW c2]
   rw[ep];simp only[go_sem,D0,D1,WV c2.1,WV c2.2,X_,lh];exact⟨_,rfl,bad⟩
  ·by_cases c3:kind=2/\¬cf.2=0
   ·have ep:x.aP kind data=(0,x.aH,4):=by unfold fy.aP;rw[WY (by simpa using c1),WY c2,<-a5,WW c3]
    have ag:¬kind=1:=by rw[c3.1];decide
    rw[ep];simp only[go_sem,D0,D1,WV ag,WZ c3.1,WV c3.2,X_,XL,lh];exact⟨_,rfl,bad⟩
   ·have p1:x.aP kind data=if 2^40<=x.aO then (0,x.aH,17) else (x.aO+1,(((x.aH.aF kind data).on).aM).aA,0):=by unfold fy.aP;rw[WY (by simpa using c1),WY c2,<-a5,WY c3]
    have eL:(2:Int)^40=1099511627776:=by decide
    rw[eL]at p1;have a7:=u2.2 H3 r x ⟨g,ff,rr⟩ (E.aC ω);by_cases k1':kind=1
    ·have a1:¬kind=2:=by rw[k1'];decide
     simp only[go_sem,WZ k1',WV a1,XL];refine gH u2.1 a7 ?_;by_cases c4:(1099511627776:Int)<=x.aO;·rw[WW c4]at p1;rw[p1];simp only[go_sem,D0,D1,WZ c4,lh];exact⟨_,rfl,bad⟩
     ·rw[WY c4]at p1;simp only[go_sem,WV c4];refine a3 o L0 H3 _ ho I X3 ω O D0 ?_ ?_ ?_ ?_ ?_ p1<;>simp[fE,iw]
    ·have a1:kind=2:=W6 λz=>c2 ⟨k1',z⟩;have c0:cf.2=0:=W6 λz=>c3 ⟨a1,z⟩;simp only[go_sem,WV k1',WZ a1,WZ c0,X_,XL];refine gH u2.1 a7 ?_;by_cases c4:(1099511627776:Int)<=x.aO;·rw[WW c4]at p1;rw[p1];simp only[go_sem,D0,D1,WZ c4,lh];exact⟨_,rfl,bad⟩
     ·rw[WY c4]at p1;simp only[go_sem,WV c4];refine a3 o L0 H3 _ ho I X3 ω O D0 ?_ ?_ ?_ ?_ ?_ p1<;>simp[fE,iw]
 ·have ep:x.aP kind data=(0,x.aH,30):=by unfold fy.aP;rw[WW (by simpa using c1)]
  rw[ep];simp only[go_sem,D0,D1,WV c1,X_,lh];exact⟨_,rfl,bad⟩
variable {P:Program}{f f1 f2 f3:FuncId}
variable {P:Program}{f f1 f2 f3:FuncId}
variable {P:Program}{f f1 f2 f3:FuncId}
variable {P:Program}{f f1 f2 f3:FuncId}
def kK (P:Program)(f:FuncId)(t:fy->Int):Prop:=fZ P f=true/\∀(h:fu)(r:Nat)(x:fy),nO h r x->fO P f [.aA r 21 0 0] h λres h'=>res=.aD .i64 (t x)/\h'=h
theorem Ud (hf:Is P f CC):kK P f fy.aE:=by refine⟨hf.2,λh r x ⟨g,ff,rr⟩=>gy hf ?_⟩;simp only[fy.aL]at rr;simp only[CC,go_sem,rr]
theorem TS (hf:Is P f CB):kK P f fy.aR:=by refine⟨hf.2,λh r x ⟨g,ff,rr⟩=>gy hf ?_⟩;simp only[fy.aL]at rr;simp only[CB,go_sem,rr]
theorem SP (hf:Is P f Cz):kK P f fy.aD:=by refine⟨hf.2,λh r x ⟨g,ff,rr⟩=>gy hf ?_⟩;simp only[fy.aL]at rr;simp only[Cz,go_sem,rr]
theorem U2 (l:fG):l.aH (l.aA+1) l.es.length=l.es:=by
 unfold fG.aH;by_cases c:l.es.length=0;·have:l.es=[]:=List.length_eq_zero_iff.1 c;simp[this]
 ·rw[WY (by unfold fG.aC;omega)];rw[show (l.aA+1-l.aA-1).toNat=0 by omega];simp
def vP (P:Program)(f:FuncId):Prop:=fZ P f=true/\∀(F:Nat->Prop)(h:fu)(x:fP)(a:List AV),fH F h x.c a->kh x.aA->x.aD.aH (2^40)->x.aG.length<=2^40->(x.aA.es.length<=2^40/\(0<=x.aA.aA/\x.aA.aA<=2^60))->
 fO P f [.aF a] h λv h'=>∃b,v=.aF b/\fU x.c (λm=>h.length<=m) h' b/\fq fB h h'
theorem TG (hf:Is P f (CX f1 f2 f3))(u1:oT P f1)(u2:tZ P f2)(u3:r_ P f3):vP P f:=by
 refine⟨hf.2,λF h x a ha I hc hs hb=>gy hf ?_⟩;obtain⟨e,o,n,l,s,rfl,he,ho,hn,hl,W⟩:=m7 ha;obtain⟨H,hH⟩:∃H,H=h++[some (fC.aA 10 [[ι x.aE,ι x.aC,ι x.aF,ι x.aA.aA,ι x.aA.aD,e,o,n,l,s]] false)]++[some (fC.aA 10 [[ι 0,ι 0,ι 0,ι 0,ι 0,.aC,.aC,.aC,.aC,.aC]] false)]:=⟨_,rfl⟩;have X1:fq fB h H:=by rw[hH];exact fq.b2 _ _
 have lH:H.length=h.length+2:=by rw[hH];simp
 have C0:H[h.length]?=ar 10 [[ι x.aE,ι x.aC,ι x.aF,ι x.aA.aA,ι x.aA.aD,e,o,n,l,s]]:=by rw[hH];exact kr _ _ _
 have C1:H[h.length+1]?=ar 10 [[ι 0,ι 0,ι 0,ι 0,ι 0,.aC,.aC,.aC,.aC,.aC]]:=by rw[hH];exact jy _ _ _
 have len:iJ e=some (ι x.aA.es.length):=by have:=he.aC;simpa [gZ] using this
 have ew:IntKind.i64.wrap (x.aA.aA+1)=x.aA.aA+1:=gF ω;have rl:fH F H x.aA.c [ι x.aA.aA,ι x.aA.aD,e]:=by have a9:=he.up X1;simp only[fG.c,fH,Rd];exact⟨_,_,rfl,rfl,_,_,rfl,rfl,_,_,rfl,a9,rfl⟩
 simp only[CX,fP.aH,go_sem,he.aA,ho.aA,hn.aA,hl.aA,W.aA];rw[<-hH];clear hH;simp only[go_sem,len,ew];have sl:=u1.2 F H x.aA _ (x.aA.aA+1) x.aA.es.length rl I;rw[U2]at sl;refine fK ⟨u1.1,sl⟩ ?_;rintro e1 H2 ⟨oe,-,X2⟩;have D0:=X2.aA C0;have D1:=X2.aA C1;have x2:=X2.1;have U:h.length<H2.length:=ω;have l21:h.length+1<H2.length:=ω;simp only[go_sem,D0,oe.aA,gV oe.aA,U];obtain⟨H3,E⟩:∃H3,H3=H2.set h.length (some (fC.aA 10 [[ι x.aE,ι x.aC,ι x.aF,ι x.aA.aA,ι x.aA.aD,e1,o,n,l,s]] false)):=⟨_,rfl⟩;have X3:fq fB h H3:=by rw[E];exact (X1.tr X2).aI (WX _) _
 have K3:∀m,m≠h.length->H3[m]?=H2[m]?:=λm hm=>by rw[E];exact WS (λz=>hm z.symm)
 have l3:H3.length=H2.length:=by rw[E];simp
 have E0:H3[h.length]?=ar 10 [[ι x.aE,ι x.aC,ι x.aF,ι x.aA.aA,ι x.aA.aD,e1,o,n,l,s]]:=by rw[E];exact W0 U
 have E1:=(K3 (h.length+1) ω).trans D1;have a3:fA (gZ x.aA.es) (λm=>H.length<=m) H3 e1:=fA.aC _ (λ_ y=>y) (λm hm y hy=>(K3 m ω).trans hy) _ oe;rw[<-E];clear E;have rc:fH F H3 x.aD.c [o,n,l]:=by simp only[fI.c,fH];exact⟨_,_,rfl,ho.up X3,_,_,rfl,hn.up X3,_,_,rfl,hl.up X3,rfl⟩
 refine fK ⟨u2.1,u2.2 F H3 x.aD _ rc hc⟩ ?_;rintro _ H4 ⟨o1,n1,c1,rfl,oo,on,oc,X4⟩;have x4:=X4.1;have F0:=X4.aA E0;have F1:=X4.aA E1;have O:h.length<H4.length:=ω;simp only[go_sem,F0,oo.aA,on.aA,oc.aA,O];obtain⟨H5,u⟩:∃H5,H5=H4.set h.length (some (fC.aA 10 [[ι x.aE,ι x.aC,ι x.aF,ι x.aA.aA,ι x.aA.aD,e1,o1,n1,c1,s]] false)):=⟨_,rfl⟩;have X5:fq fB h H5:=by rw[u];exact (X3.tr X4).aI (WX _) _
 have K5:∀m,m≠h.length->H5[m]?=H4[m]?:=λm hm=>by rw[u];exact WS (λz=>hm z.symm)
 have l5:H5.length=H4.length:=by rw[u];simp
 have G0:H5[h.length]?=ar 10 [[ι x.aE,ι x.aC,ι x.aF,ι x.aA.aA,ι x.aA.aD,e1,o1,n1,c1,s]]:=by rw[u];exact W0 O
 have G1:=(K5 (h.length+1) ω).trans F1;have k5:∀lo,h.length+2<=lo->∀{d:D}{a:AV},fA d (λm=>lo<=m) H4 a->fA d (λm=>lo<=m) H5 a:=λlo a8 d a z=>fA.aC _ (λ_ y=>y) (λm hm y hy=>(K5 m ω).trans hy) _ z;have a2:=k5 _ ω (fA.aC _ (λ_ y=>y) (X4.aE _) _ a3);have Z:=k5 _ ω oo;have a1:=k5 _ ω on;have a4:=k5 _ ω oc;rw[<-u];clear u;refine fK ⟨u3.1,u3.2 F H5 x.aG s (W.up X5) hs⟩ ?_;rintro s1 H6 ⟨os,X6⟩;have x6:=X6.1;have I0:=X6.aA G0;have I1:=X6.aA G1;have a7:h.length<H6.length:=ω;have a6:h.length+1<H6.length:=ω;have a5:(h.length=h.length+1)=False:=Xp ω;simp only[go_sem,I0,I1,oe.aA,oo.aA,on.aA,oc.aA,os.aA,gV os.aA,a7,a6,a5,W4];refine⟨_,rfl,?_,?_⟩
 ·have k6:∀{d:D}{a:AV},fA d (λm=>h.length+2<=m) H6 a->fA d (λm=>h.length<=m) ((H6.set h.length (some (fC.aA 10 [[ι x.aE,ι x.aC,ι x.aF,ι x.aA.aA,ι x.aA.aD,e1,o1,n1,c1,s1]] false))).set (h.length+1) (some (fC.aA 10 [[ι x.aE,ι x.aC,ι x.aF,ι x.aA.aA,ι x.aA.aD,e1,o1,n1,c1,s1]] false))) a:=
   λz=>fA.aC _ (λm hm=>ω) (λm hm y hy=>(WS ω).trans ((WS ω).trans hy)) _ z
  have w6:∀lo,h.length+2<=lo->∀{d:D}{a:AV},fA d (λm=>lo<=m) H5 a->fA d (λm=>h.length+2<=m) H6 a:=λlo a8 d a z=>fA.aC _ (λm hm=>ω) (X6.aE _) _ z;simp only[fP.c,fU,fA];exact⟨_,_,rfl,rfl,_,_,rfl,rfl,_,_,rfl,rfl,_,_,rfl,rfl,_,_,rfl,rfl,_,_,rfl,k6 (w6 _ ω a2),_,_,rfl,k6 (w6 _ ω Z),_,_,rfl,k6 (w6 _ ω a1),_,_,rfl,k6 (w6 _ ω a4),_,_,rfl,k6 (fA.aC _ (λm hm=>ω) (λ_ _ _ y=>y) _ os),rfl⟩
 ·exact ((X5.tr X6).aI (WX _) _).aI ω _
def FM (P:Program)(f:FuncId):Prop:=fZ P f=true/\∀(F:Nat->Prop)(h:fu)(x:fP)(a:List AV),fH F h x.c a->kh x.aA->x.aD.aH (2^40)->x.aG.length<=2^40->(x.aA.es.length<=2^40/\(0<=x.aA.aA/\x.aA.aA<=2^60))->
 fO P f [.aF a] h λv h'=>v=.aF x.v/\h'=h
theorem vP.p (hc:vP P f):FM P f:=⟨hc.1,λF h x a ha h1 h2 h3 h4=>(hc.2 F h x a ha h1 h2 h3 h4).aC λ_ _ ⟨b,e,o,X⟩=>⟨X,_,e▸iu.aA (ds:=x.c) (fU.fz _ (λ_ x=>x) _ o),rfl⟩⟩
def pN (P:Program)(f:FuncId):Prop:=fZ P f=true/\∀(h:fu)(r:Nat)(x:fy),nO h r x->kh x.aA.aA->x.aA.aD.aH (2^40)->x.aA.aG.length<=2^40->(x.aA.aA.es.length<=2^40/\(0<=x.aA.aA.aA/\x.aA.aA.aA<=2^60))->
 fO P f [.aA r 21 0 0] h λv h'=>∃b,v=.aF b/\fU x.aA.c (λm=>h.length<=m) h' b/\fq fB h h'
theorem TI {g:FuncId}(hf:Is P f (CA g))(hg:vP P g):pN P f:=by
 refine⟨hf.2,λh r x ⟨gg,ff,rr⟩ h1 h2 h3 h4=>gy hf ?_⟩;have e:=rr;simp only[fy.aL]at e;have lr:=(WR.1 rr).1;have R1:∀a,(h++[a])[r]?=_:=λa=>(fq.b1 a).aA e;obtain⟨H,hH⟩:∃H,H=h++[some (fC.aA 10 [[ι 0,ι 0,ι 0,ι 0,ι 0,.aC,.aC,.aC,.aC,.aC]] false)]:=⟨_,rfl⟩;have X1:fq fB h H:=by rw[hH];exact fq.b1 _
 have lH:H.length=h.length+1:=by rw[hH];simp
 have C0:H[h.length]?=ar 10 [[ι 0,ι 0,ι 0,ι 0,ι 0,.aC,.aC,.aC,.aC,.aC]]:=by rw[hH];exact h_ _ _
 simp only[CA,go_sem,R1];rw[<-hH];clear hH R1;have fr:=hg.2 fB H x.aA _ (EA x.aA H) h1 h2 h3 h4;refine fK ⟨hg.1,fr⟩ ?_;rintro _ H2 ⟨b,rfl,o,X2⟩;have x2:=X2.1;have D0:=X2.aA C0;have l2:h.length<H2.length:=ω;obtain⟨e1,o1,n1,c1,s1,rfl,he,ho,hn,hl,u⟩:=m7 (fU.rd _ (F':=λm=>H.length<=m) (λ_ y=>y) _ o);simp only[fP.aH]at o ⊢;simp only[go_sem,D0,he.aA,ho.aA,hn.aA,hl.aA,u.aA,l2];refine⟨_,rfl,?_,(X1.tr X2).aI (WX _) _⟩;exact fU.aA _ (λm hm=>ω) (λm hm y hy=>(WS ω).trans hy) _ o
def sG (P:Program)(f:FuncId):Prop:=fZ P f=true/\∀(F:Nat->Prop)(h:fu)(id:Int)(x:fP)(a:List AV)(draw:Int),fH F h x.c a->kh x.aA->x.aD.aH (2^40)->x.aG.length<=2^40->(x.aA.es.length<=2^40/\(0<=x.aA.aA/\x.aA.aA<=2^60))->
 fO P f [.aD .i64 id,.aF a,.aD .i64 draw] h λv h'=>∃r,v=.aA r 21 0 0/\h.length<=r/\h'[r]?=some (some (.aA 21 [(fy.aU id x draw).aL .aC .aC] false))/\fq fB h h'
theorem TZ (hf:Is P f (Cy f1 f2))(u1:FM P f1)(u2:x9 P f2):sG P f:=by
 refine⟨hf.2,λF h id x a E ha h1 h2 h3 h4=>gy hf ?_⟩;obtain⟨e,o,n,l,s,rfl,he,ho,hn,hl,O⟩:=m7 ha;obtain⟨H,hH⟩:∃H,H=h++[some (fC.aA 10 [[ι x.aE,ι x.aC,ι x.aF,ι x.aA.aA,ι x.aA.aD,e,o,n,l,s]] false)]:=⟨_,rfl⟩;have X1:fq fB h H:=by rw[hH];exact fq.b1 _
 have C0:H[h.length]?=ar 10 [[ι x.aE,ι x.aC,ι x.aF,ι x.aA.aA,ι x.aA.aD,e,o,n,l,s]]:=by rw[hH];exact h_ _ _
 have lH:H.length=h.length+1:=by rw[hH];simp
 have I:=ha.up (X1.tr (fq.b1 none));simp only[fP.aH]at I;have fr:=u1.2 F (H++[none]) x _ I h1 h2 h3 h4;simp only[Cy,fP.aH,go_sem,he.aA,ho.aA,hn.aA,hl.aA,O.aA];rw[<-hH];clear hH;have C1:(H++[none])[h.length]?=_:=(fq.b1 none).aA C0;have u:∀a b:Option fC,(H++[a]).set (h.length+1) b=H++[b]:=λa b=>by rw[Zv _ _ ω,lH];simp
 have C2:(H++[none])[h.length+1]?=some none:=by rw[<-lH];exact h_ _ _
 have l2:h.length+1<(H++[none]).length:=by simp[lH]
 refine gH u1.1 fr ?_;simp only[go_sem,C1,C2];refine gH u2.1 (u2.2 _ E) ?_;simp only[go_sem,C1,C2,fP.aL,tM,tN,xf,u];refine⟨_,rfl,ω,?_,X1.tr (fq.b1 _)⟩;rw[<-lH];exact h_ _ _
theorem Ea {h:fu}{r:Nat}{id e:Int}{x:fP} (hr:h[r]?=ar 21 [(fy.aU id x e).aL .aC .aC]):jn (λm=>if m=r then 6 else 0) h r (fy.aU id x e):=by
 refine⟨⟨.aC,.aC,hr,fA.aD 1,Xb,fA.aD 4,Xb,WW rfl⟩,λm hm=>?_⟩;by_cases c:m=r;·subst c;exact⟨(WR.1 hr).1,.inr (.inr (WW rfl))⟩
 ·exact absurd (WY c) hm
variable {P:Program}{f f1 f2 f3:FuncId}
structure FP (A B C:Nat->Prop)(h:fu)(x:na)(v:AV):Prop where
 ex:∃ma ca aa,v=.aF [ma,ca,aa,.aD .i64 x.aE,.aE x.aD]/\fA (uJ x.aA) A h ma/\fA (oX x.aC) B h ca/\fA (gZ x.aF) C h aa/\ic h ma/\ic h ca
def mZ (L:Nat->Nat):Nat->Nat:=λm=>if L m=1\/L m=2\/L m=6 then L m else 0
theorem lA.aA {L h r x0 x v h'}(a:jn L h r x0)(b:lA L h r x v h'):∃L',jn (mZ L') h' r x.r/\(∀m,m<h.length->mZ L' m=L m) /\
  FP (λm=>(h.length<=m/\m<h'.length)/\L' m=3) (λm=>(h.length<=m/\m<h'.length)/\L' m=4) (λm=>(h.length<=m/\m<h'.length)/\L' m=5) h' x.o v/\fq (λm=>wA (L m)) h h':=by
 obtain⟨L',o,ma,ca,aa,rfl,⟨g,f,ra⟩,oa,hl,ho,he,hx⟩:=b;have k1:∀m,L' m=1->mZ L' m=L' m:=λm e=>by unfold mZ;rw[WW (.inl e)]
 have k2:∀m,L' m=2->mZ L' m=L' m:=λm e=>by unfold mZ;rw[WW (.inr (.inl e))]
 have k6:∀m,L' m=6->mZ L' m=L' m:=λm e=>by unfold mZ;rw[WW (.inr (.inr e))]
 have kk:∀m,mZ L' m≠0->L' m=1\/L' m=2\/L' m=6:=λm e=>by unfold mZ at e;exact W6 λz=>e (WY z)
 have low:∀k,k=3\/k=4\/k=5->∀m,L' m=k->(h.length<=m/\m<h'.length)/\L' m=k:=by intro k hk m e;refine⟨⟨?_,hl m ω⟩,e⟩;apply W6;intro z;have e1:=he m ω;have e2:=(a.aA m ω).2;omega
 refine⟨L',⟨⟨g,f,?_⟩,λm hm=>?_⟩,λm hm=>?_,⟨ma,ca,aa,rfl,?_,?_,?_,oa.mc,oa.cc⟩,hx⟩;·exact⟨ra.aA,fA.aC _ (λm e=>by rw[k1 m e];exact e) (λ_ _ _ y=>y) _ ra.go,ra.gc,fA.aC _ (λm e=>by rw[k2 m e];exact e) (λ_ _ _ y=>y) _ ra.fo,ra.fc,by rw[k6 _ ra.lr];exact ra.lr⟩
 ·have e:=kk m hm;refine⟨hl m ω,?_⟩;unfold mZ;rw[WW e];exact e
 ·by_cases c:L' m=1\/L' m=2\/L' m=6
  ·unfold mZ;rw[WW c];exact he m hm
  ·have e1:=he m hm;unfold mZ;rw[WY c];apply W6;intro z;have e2:=(a.aA m ω).2;omega
 ·exact fA.aC _ (low 3 ω) (λ_ _ _ y=>y) _ oa.m
 ·exact fA.aC _ (low 4 ω) (λ_ _ _ y=>y) _ oa.c
 ·exact fA.aC _ (low 5 ω) (λ_ _ _ y=>y) _ oa.a
theorem jn.up {L h r x h'}(a:jn L h r x)(hx:fq fB h h'):jn L h' r x:=by obtain⟨⟨g,f,ra⟩,lab⟩:=a;exact⟨⟨g,f,ra.aC (λ_ _ _=>rfl) λm hm _=>hx.2 m hm (λy=>y)⟩,λm hm=>⟨by have:=(lab m hm).1;have:=hx.1;omega,(lab m hm).2⟩⟩
theorem jn.aC {L h r x h'}(a:jn L h r x)(hl:h.length<=h'.length) (hk:∀m,L m≠0->h'[m]?=h[m]?):jn L h' r x:=by obtain⟨⟨g,f,ra⟩,lab⟩:=a;refine⟨⟨g,f,ra.aC (λ_ _ _=>rfl) λm hm e=>hk m (by rcases e with e | e | e<;>omega)⟩,λm hm=>⟨by have:=(lab m hm).1;omega,(lab m hm).2⟩⟩
theorem jn.aE {L h r x}(a:jn L h r x):nO h r x:=let⟨g,f,ra⟩:=a.r;⟨g,f,ra.aA⟩
abbrev KV:=Ai
abbrev KU:=Ah
end Glb
