/-
  A library of its own.
-/
import Derived.Test.YtdeiamnhnfmilaaGreatGlbRafD
set_option linter.unusedSimpArgs false
set_option linter.unusedVariables false
set_option maxRecDepth 10000
set_option maxHeartbeats 8000000
namespace Glb
open Go
def sG (P:Program)(f:FuncId):Prop:=fP P f=true/\∀(L:Nat->Nat)(h:eW)(r:Nat)(x:eZ)(k:Nat)(draw:Int),iN L h r x->x.aD k->k+2<2^28->
 fC P f [.aC r 21 0 0,.aA .i64 draw] h λv h'=>jT L h r (x.aQ draw) v h'
theorem Rq {P:Program}{f f1 f2 f3 f4 f5 f6 f7:FuncId}(hf:vW P f (qu f1 f2 f3 f4 f5 f6 f7))(u1:r_ P f1)(u2:wh P f2)(u3:p8 P f3)(u4:o8 P f4)(u5:uD P f5)(u6:pn P f6)(u7:yP P f7):sG P f:=by
 refine⟨hf.1,λL h r x k draw hx hfit hk=>Fj hf.2 (Vx rfl) ?_⟩;show oM P (qu f1 f2 f3 f4 f5 f6 f7).aA ⟨[(0,.aC r 21 0 0),(1,.aA .i64 draw)],[],h⟩ (qg P (qu f1 f2 f3 f4 f5 f6 f7).aC _);simp only[qu,go_sem];refine fA ⟨u1.1,u1.2 _ r h.length⟩ ?_;rintro _ H3 ⟨rfl,X3⟩;simp only[go_sem];obtain⟨H,hH⟩:∃H,H=H3++[some (e_.aA 2 [[.aC r 21 0 0,.aC h.length 5 0 0]] false)]:=⟨_,rfl⟩;obtain⟨n5,hn5⟩:∃n5,n5=H3.length:=⟨_,rfl⟩;have l3:=X3.1;simp only[Ut,UG,UJ]at l3;have X:eV eY h H:=by rw[hH];exact ((eV.b1 _).tr X3).tr (eV.b1 _)
 have B1:H[h.length]?=some (some (e_.aA 5 [[.aD,.aD,.aD,.aA .i64 0,.aE false]] false)):=by rw[hH];exact (eV.b1 _).aA (X3.aA (gH _ _))
 have B5:H[n5]?=some (some (e_.aA 2 [[.aC r 21 0 0,.aC h.length 5 0 0]] false)):=by rw[hH,hn5];exact gH _ _
 have n5l:h.length+1<=n5:=by omega
 rw[<-hH,<-hn5];clear hH;have hx0:=hx.aD X B1 (Uy _);have hlr:=hx.lt;obtain⟨o,ho⟩:∃o,o=h.length:=⟨_,rfl⟩;obtain⟨L0,hL0⟩:∃L0:Nat->Nat,L0=λm=>if m=o then 7 else L m:=⟨_,rfl⟩
 rw[<-ho]at B1 B5 hx0 ⊢;rw[<-hL0]at hx0;have zL:∀n,h.length<=n->n≠o->¬wA (L0 n):=λn hn hno=>by rw[hL0];show ¬wA (if n=o then 7 else L n);rw[Uw hno,hx.ge hn];exact jF
 have fin:∀(Le:fV)(H':eW)(y:RX),x.aQ draw=y.aA->y.r.aD (k+2)->lk 4 Le=.aC o 5 0 0->fy wA eY L0 H r o y H'->
   ta P f2 [.aF [.aC r 21 0 0,.aC o 5 0 0]] H' (tG (qu f1 f2 f3 f4 f5 f6 f7).aC Le λv h'=>jT L h r (x.aQ draw) v h'):=by
  intro Le H' y ey yf k4 T;obtain⟨L1,x1,l1,e1⟩:=T;refine BJ ⟨u2.1,u2.2 L1 H' r o y (k+2) x1 yf (by omega)⟩ ?_;intro _ h'' T2;have T3:=fy.aF l1 e1 (λ_ _ y=>y) T2;rw[hL0]at T3;obtain⟨ma,ca,aa,row,s1,s2,s3,out⟩:=T3.aJ hx X (by omega);rw[ey];simp only[qu,go_sem,k4,row];exact out
 simp only[qu]at fin;obtain⟨g,ff,rr⟩:=hx0.aA;have e1:x.aF.r=x:=rfl;rw[e1]at rr;have rr':=rr;simp only[eZ.aJ]at rr';have lr:=(Up.1 rr).1;have w5:(r=n5)=False:=UO (by omega);have w0:(n5=r)=False:=UO (by omega);have hb:=hfit.bw;have he:=hfit.aX;have ewb:IntKind.i64.wrap (x.aO+1)=x.aO+1:=gi (by omega);have ewe:IntKind.i64.wrap (x.aK+1)=x.aK+1:=gi (by omega);simp only[go_sem,rr'];by_cases c1:x.aG=2
 ·simp only[go_sem,rr',Uu c1,lr,ewb];by_cases c2:2<=x.aO+1
  ·have et:x.aQ draw=(({x with aO:=0}:eZ).aF.on).aA:=by unfold eZ.aQ;rw[Uv c1,Uv c2]
   have T1:=fy.aH (R:=x) (out:=kT.aG) (R':={x with aO:=0}) (hx0.to (W:=wA) (Q:=eY)) rr rfl rfl (λ_ z=>z);simp only[eZ.aJ]at T1;simp only[go_sem,rr',B5,Uu c2,lr,w5,Vs];have f0:({x with aO:=0}:eZ).aD k:=by obtain⟨g1,g2,g3,g4,g5,g6,g7,g8,g9,g10,g11,g12,g13,g14,g15⟩:=hfit;exact⟨g1,g2,g3,g4,g5,g6,g7,g8,g9,g10,⟨UL _,by show (0:Int)<=1;omega⟩,g12,g13,g14,g15⟩
   have ech:=fy.aD (Q':=eY) T1 (eV.aC _ _) (λ_ _ y=>y) λL1 x1=>(xb u4 u3 x1 f0 (by omega) (mV _) (by omega)).aA λ_ _ b=>b.aG mO;refine fA ⟨u4.1,ech⟩ ?_;intro _ H4 T4;simp only[go_sem];exact fin _ H4 _ et ((Cj (x:=({x with aO:=0}:eZ).aF) f0 (mV _)).1.aA (by omega)) (by simp[fj]) T4
  ·have et:x.aQ draw=(({x with aO:=x.aO+1}:eZ).aF).aA:=by unfold eZ.aQ;rw[Uv c1,Uw c2]
   have T1:=fy.aH (R:=x) (out:=kT.aG) (R':={x with aO:=x.aO+1}) (hx0.to (W:=wA) (Q:=eY)) rr rfl rfl (λ_ z=>z);simp only[eZ.aJ]at T1;simp only[go_sem,Us c2];refine fin _ _ _ et ?_ (by simp[fj]) T1;obtain⟨g1,g2,g3,g4,g5,g6,g7,g8,g9,g10,g11,g12,g13,g14,g15⟩:=hfit.aA (show k<=k+2 by omega);exact⟨g1,g2,g3,g4,g5,g6,g7,g8,g9,g10,⟨by show 0<=x.aO+1;omega,by show x.aO+1<=1;omega⟩,g12,g13,g14,g15⟩
 ·have T1:=fy.aH (R:=x) (out:=kT.aG) (R':={x with aK:=x.aK+1}) (hx0.to (W:=wA) (Q:=eY)) rr rfl rfl (λ_ z=>z);have r1:(H.set r (some (.aA 21 [({x with aK:=x.aK+1}:eZ).aJ g ff] false)))[r]?=some (some (.aA 21 [({x with aK:=x.aK+1}:eZ).aJ g ff] false)):=Ux lr;simp only[eZ.aJ]at T1 r1;have f1:({x with aK:=x.aK+1}:eZ).aD (k+1):=by obtain⟨g1,g2,g3,g4,g5,g6,g7,g8,g9,g10,g11,g12,g13,g14,g15⟩:=hfit.aA (V4 k);exact⟨g1,g2,g3,g4,g5,g6,g7,g8,g9,⟨by show 0<=x.aK+1;omega,by show x.aK+1<=((k+1:Nat):Int);omega⟩,g11,g12,g13,g14,g15⟩
  simp only[go_sem,rr',Us c1,lr,UA,ewe];have lr1:r<(H.set r (some (.aA 21 [({x with aK:=x.aK+1}:eZ).aJ g ff] false))).length:=by rw[UA];exact lr
  have F5:=T1.aA (zL n5 (by omega) (by omega)) (λz=>z) B5;obtain⟨s,hs⟩:∃s:eZ,s={x with aK:=x.aK+1}:=⟨_,rfl⟩;have et:x.aQ draw=(if s.aY<=s.aK/\s.aZ s.id=true/\s.aA.aC<2^40/\s.aM<2^40 then s.aF.aV draw else s.aF).aA:=by rw[hs];unfold eZ.aQ;rw[Uw c1]
  have eq1:s.aY=x.aY/\s.aK=x.aK+1/\s.id=x.id/\s.aA=x.aA:=by rw[hs];exact⟨rfl,rfl,rfl,rfl⟩
  obtain⟨q1,q2,q3,q4⟩:=eq1;have eb:({r:={x with aK:=x.aK+1},o:=kT.aG}:RX)=s.aF:=by rw[hs];rfl
  rw[<-hs]at f1;rw[eb]at T1;generalize hH1:H.set r _=H1 at *;have rw1:np H1 r s:=T1.aE;have no:¬(s.aY<=s.aK/\s.aZ s.id=true/\s.aA.aC<2^40/\s.aM<2^40)->x.aQ draw=s.aF.aA:=λc=>by rw[et,Uw c]
  have eL:(2:Int)^40=1099511627776:=by decide
  rw[q1,q2,q3,q4,eL]at no et;by_cases c2:x.aY<=x.aK+1
  ·simp only[go_sem,r1,Uu c2];refine gh u5.1 (u5.2 H1 r s x.id rw1 (f1.aK (by omega)) (f1.aM (by decide))) ?_;rw[iC];cases c3:s.aZ x.id;·simp only[go_sem,r1];exact fin _ H1 _ (no (λz=>by rw[c3]at z;cases z.2.1)) (f1.aA (by omega)) (by simp[fj]) T1
   ·simp only[go_sem,r1];by_cases c4:x.aA.aC<1099511627776
    ·simp only[go_sem,Uu c4];refine gh u6.1 (u6.2 H1 r s rw1 (f1.aC (by omega))) ?_;rw[iC];by_cases c5:s.aM<1099511627776;·rw[Uv ⟨c2,c3,c4,c5⟩]at et;simp only[go_sem,r1,F5,Uu c5];have st:=fy.aD (Q':=eY) T1 (eV.aC _ _) (λ_ _ y=>y) λL1 x1=>u7.2 L1 H1 r o s.aF (k+1) 0 draw x1 f1 (by omega) (mV _) (by omega) (by show s.aA.aC<2^40;rw[q4,eL];exact c4);refine fA ⟨u7.1,st⟩ ?_;intro _ H4 T4;simp only[go_sem];exact fin _ H4 _ et ((HD (x:=s.aF) f1 (by omega) (mV _) (by show s.aA.aC<2^40;rw[q4,eL];exact c4) draw).1) (by simp[fj]) T4
     ·simp only[go_sem,r1,Us c5];exact fin _ H1 _ (no (λz=>c5 z.2.2.2)) (f1.aA (by omega)) (by simp[fj]) T1
    ·simp only[go_sem,Us c4];exact fin _ H1 _ (no (λz=>c4 z.2.2.1)) (f1.aA (by omega)) (by simp[fj]) T1
  ·simp only[go_sem,Us c2];exact fin _ H1 _ (no (λz=>c2 z.1)) (f1.aA (by omega)) (by simp[fj]) T1
theorem Hx {h:eW}{n:Nat}{v:Option e_} (hn:h[n]?=some v):h.set n v=h:=by
 apply Vf;intro i;rw[VJ];have:=(Up.1 hn).1;split;·rename_i e;subst e;first | exact hn.symm | (rw[if_pos this];exact hn.symm)
 ·rfl
theorem fy.aM {L h r x h0 o X h' n}(a:iN L h r x)(hx:eV eY h h0)(I:h.length<=o)(T:fy wA eY (λm=>if m=o then 7 else L m) h0 r o X h')(hn:h.length<=n/\n<h0.length)(u:n≠o):
  ∃ma ca aa,h'[o]?=some (some (.aA 5 [[ma,ca,aa,.aA .i64 X.o.aE,.aE X.o.aC]] false))/\ma.aH=true/\ca.aH=true/\aa.aH=true/\∀b:Option e_,jT L h r X (.aF [ma,ca,aa,.aA .i64 X.o.aE,.aE X.o.aC]) (h'.set n b):=by
 obtain⟨L1,x1,l1,e1⟩:=T;obtain⟨ma,ca,aa,oa⟩:=x1.o;obtain⟨g,f,ra⟩:=x1.r;have hl:=hx.1;have e:∀m,m<h.length->(if m=o then 7 else L m)=L m:=λm hm=>Uw (by omega);have E:L1 n=0:=by rw[l1 n hn.2 (.inr (λz=>z))];show (if n=o then 7 else L n)=0;rw[Uw u,a.ge hn.1]
 have ne:∀(b:Option e_)(m:Nat),L1 m≠0->(h'.set n b)[m]?=h'[m]?:=λb m hm=>Uq (by rintro rfl;exact hm E);refine⟨ma,ca,aa,oa.aA,oa.m.aA,oa.c.aA,oa.a.aA,λb=>⟨L1,o,ma,ca,aa,rfl,⟨g,f,ra.aC (λ_ _ _=>rfl) λm _ hm=>ne b m (by omega)⟩,oa.aC (λ_ _ _=>rfl) (λm _ hm=>ne b m (by omega)),λm hm=>by rw[UA];exact x1.lt m hm,I,λm hm=>(l1 m (by omega) (.inr (λz=>z))).trans (e m hm),?_⟩⟩;refine⟨by rw[UA];have:=e1.1;omega,λm hm hw=>(Uq (by omega)).trans ((e1.2 m (by omega) ?_).trans (hx.2 m hm (λz=>z)))⟩;rintro (z | z);·exact hw (by have z':wA (if m=o then 7 else L m):=z;rw[e m hm]at z';exact z')
 ·exact z
def yn (L:Nat->Nat)(h:eW)(d:D)(a:AV):Prop:=∃G:Nat->Prop,Rd G h d a/\∀n,G n->L n=0/\n<h.length
def uq (P:Program)(f:FuncId):Prop:=fP P f=true/\∀(L:Nat->Nat)(h:eW)(r:Nat)(x:eZ)(k:Nat)(kind:Int)(data:List Int)(d:AV),iN L h r x->x.aD k->k+1<2^28->yn L h (gj data) d->gI data/\data.length<=2^16->hU kind->
 fC P f [.aC r 21 0 0,.aA .i64 kind,d] h λv h'=>∃w,v=.aI [.aA .i64 (x.aP kind data).1,w,.aA .i64 (x.aP kind data).2.2]/\jT L h r (x.aP kind data).2.1 w h'
theorem Ri {P:Program}{f f1 f2 f3 f4 f5 f6 f7 f8:FuncId}(hf:Is P f (mC f1 f2 f3 f4 f5 f6 f7 f8))(u1:yx P f1)(u2:pn P f2)(u3:r_ P f3)(u4:wj P f4)(u5:p8 P f5)(u6:o8 P f6)(u7:uw P f7)(u8:yL P f8):uq P f:=by
 refine⟨hf.2,λL h r x k kind data d hx E hk hd u O=>fU hf ?_⟩;obtain⟨G,a9,hG⟩:=hd;obtain⟨H,hH⟩:∃H,H=h++[some (e_.aA 5 [[.aD,.aD,.aD,.aA .i64 0,.aE false]] false)]++[some (e_.aA 5 [[.aD,.aD,.aD,.aA .i64 0,.aE false]] false)]:=⟨_,rfl⟩;have X2:eV eY h H:=by rw[hH];exact eV.b2 _ _
 have l2:H.length=h.length+2:=by rw[hH];simp
 have C0:H[h.length]?=some (some (e_.aA 5 [[.aD,.aD,.aD,.aA .i64 0,.aE false]] false)):=by rw[hH];exact jJ _ _ _
 have C1:H[h.length+1]?=some (some (e_.aA 5 [[.aD,.aD,.aD,.aA .i64 0,.aE false]] false)):=by rw[hH];exact iO _ _ _
 have ll:=E.aG;have ac:∀{y:RX}{B H':eW}{L':Nat->Nat},eV eY h B->(∀n,n<h.length->L' n=L n)->fy wA eY L' B r (h.length+1) y H'->Rd G H' (gj data) d:=λX hl T=>Rd.aD (F:=λn=>G n/\n<h.length) (λ_ y=>y.1) (λn hn y hy=>T.aA (by rw[hl n hn.2,(hG n hn.1).1];exact jF) (λz=>z) (X.aA hy)) _ _ (Rd.lt _ _ a9);have e:∀(o:Nat)(L0:Nat->Nat)(H3:eW)(Le:fV),o=h.length+1->L0=(λm=>if m=o then 7 else L m)->eV eY h H3->h.length+2<=H3.length->g_ L0 H3 r o x.aF->H3[h.length]?=some (some (.aA 5 [[.aD,.aD,.aD,.aA .i64 0,.aE false]] false))->lk 0 Le=.aC r 21 0 0->lk 1 Le=.aA .i64 kind->lk 2 Le=d->lk 7 Le=.aC h.length 5 0 0->lk 9 Le=.aC o 5 0 0->
   x.aP kind data=(x.aM+1,(((x.aF.aF kind data).on).aH).aA,0)->
   vc P (mC f1 f2 f3 f4 f5 f6 f7 f8).aA.tl.tl.tl.tl ⟨Le,[],H3⟩ (i_ (mC f1 f2 f3 f4 f5 f6 f7 f8).aC λv h'=>∃w,v=.aI [.aA .i64 (x.aP kind data).1,w,.aA .i64 (x.aP kind data).2.2]/\jT L h r (x.aP kind data).2.1 w h'):=by
  intro o L0 H3 Le ho I X3 l3 M D0 k0 k1 k2 k7 k9 ep;rw[ep];have e1:x.aF.r=x:=rfl;simp only[mC,AC.aD,go_sem,k0,k9];refine fA ⟨u3.1,u3.2 H3 r o⟩ ?_;rintro _ H4 ⟨rfl,X4⟩;simp only[go_sem,k1,k2];obtain⟨H5,a1⟩:∃H5,H5=H4++[some (e_.aA 2 [[.aC r 21 0 0,.aC o 5 0 0]] false)]:=⟨_,rfl⟩;have X5:eV eY H3 H5:=by rw[a1];exact X4.tr (eV.b1 _)
  have x4:=X4.1;have B5:H5[H4.length]?=some (some (e_.aA 2 [[.aC r 21 0 0,.aC o 5 0 0]] false)):=by rw[a1];exact gH _ _
  have D5:=X5.aA D0;have a7:=M.up X5;obtain⟨n5,a8⟩:∃n5,n5=H4.length:=⟨_,rfl⟩;rw[<-a1,<-a8];rw[<-a8]at B5;clear a1;have zL:∀n,h.length<=n->n≠o->¬wA (L0 n):=λn hn a3=>by rw[I];show ¬wA (if n=o then 7 else L n);rw[Uw a3,hx.ge hn];exact jF
  have ab:eV eY h H5:=X3.tr X5;have ad:∀n,n<h.length->L0 n=L n:=λn hn=>by rw[I];exact Uw (by omega)
  subst ho;have d5:=ac ab ad (a7.to (W:=wA) (Q:=eY));have ly:=u4.2 (λn=>G n) L0 H5 r (h.length+1) x.aF k 0 kind data d a7 E (by omega) (mV _) (by omega) d5 u O;refine fA ⟨u4.1,ly⟩ ?_;rintro _ H6 ⟨rfl,T6⟩;have f6:(x.aF.aF kind data).r.aD (k+1):=eZ.aD.aT (x:=x.aF) E (by omega) u O;have w6:(x.aF.aF kind data).aC 1:=RX.aC.aE (x:=x.aF) (mV _) kind data;have M6:=T6.aA (zL _ (by omega) (by omega)) (λz=>z) B5;simp only[go_sem,k0,M6];have ea:=fy.aD (Q':=eY) T6 (eV.aC _ _) (λ_ _ y=>y) λL1 x1=>(xb u6 u5 x1 f6 (by omega) w6 (by omega)).aA λ_ _ b=>b.aG mO;refine fA ⟨u6.1,ea⟩ ?_;intro _ H7 T7;have f7:(x.aF.aF kind data).on.r.aD (k+1):=(Cj f6 w6).1;have M7:=T7.aA (zL _ (by omega) (by omega)) (λz=>z) B5;simp only[go_sem,M7];have se:=fy.aD (Q':=eY) T7 (eV.aC _ _) (λ_ _ y=>y) λL1 x1=>u7.2 L1 H7 r _ _ (k+1) x1 f7 (by omega);refine fA ⟨u7.1,se⟩ ?_;intro _ H8 T8;have f8:(x.aF.aF kind data).on.aH.r.aD (k+1):=f7.aQ;have M8:=T8.aA (zL _ (by omega) (by omega)) (λz=>z) B5;simp only[go_sem,M8];have en:=fy.aD (Q':=eY) T8 (eV.aC _ _) (λ_ _ y=>y) λL1 x1=>u8.2 L1 H8 r _ _ (k+1) x1 f8 (by omega);refine fA ⟨u8.1,en⟩ ?_;intro _ H9 T9;have M9:=T9.aA (zL _ (Uy _) (by omega)) (λz=>z) D5;rw[I]at T9;have x5:=X5.1;obtain⟨ma,ca,aa,row,s1,s2,s3,out⟩:=T9.aM (n:=h.length) hx ab (by omega) ⟨Uy _,by omega⟩ (by omega);have lh:=(Up.1 M9).1;have w0:(h.length+1=h.length)=False:=UO (by omega);simp only[go_sem,k7,k9,row,M9,s1,s2,s3,lh];exact⟨_,rfl,out _⟩
 have e0:(mC f1 f2 f3 f4 f5 f6 f7 f8).aA=.aA (mC f1 f2 f3 f4 f5 f6 f7 f8).aA.hd (.aA (mC f1 f2 f3 f4 f5 f6 f7 f8).aA.tl.hd (.aA (mC f1 f2 f3 f4 f5 f6 f7 f8).aA.tl.tl.hd (.aA (mC f1 f2 f3 f4 f5 f6 f7 f8).aA.tl.tl.tl.hd (mC f1 f2 f3 f4 f5 f6 f7 f8).aA.tl.tl.tl.tl))):=rfl;rw[e0];generalize (mC f1 f2 f3 f4 f5 f6 f7 f8).aA.tl.tl.tl.tl=D at e ⊢;have a2:=e;simp only[mC]at a2;clear e;simp only[mC,AC.aF,AC.aD,go_sem];rw[<-hH];clear hH;refine gh u1.1 (u1.2 G H data d (Rd.aD (λ_ y=>y) (X2.aE _) _ _ a9) u.1 (by omega)) ?_;simp only[go_sem,fq.aK,rW];obtain⟨cf,a4⟩:∃cf,cf=ie data:=⟨_,rfl⟩;rw[<-a4];obtain⟨H3,U⟩:∃H3,H3=H++[some (e_.aA 3 [[gG cf.1.aA,gG cf.1.aC,gG cf.1.aD]] false)]:=⟨_,rfl⟩;have X3:eV eY h H3:=by rw[U];exact X2.tr (eV.b1 _)
 have l3:H3.length=h.length+3:=by rw[U];simp[l2]
 have D0:H3[h.length]?=some (some (e_.aA 5 [[.aD,.aD,.aD,.aA .i64 0,.aE false]] false)):=by rw[U];exact (eV.b1 _).aA C0
 have D1:H3[h.length+1]?=some (some (e_.aA 5 [[.aD,.aD,.aD,.aA .i64 0,.aE false]] false)):=by rw[U];exact (eV.b1 _).aA C1
 rw[<-U];clear U;have M:=hx.aD X3 D1 (by omega);have hlr:=hx.lt;obtain⟨o,ho⟩:∃o,o=h.length+1:=⟨_,rfl⟩;obtain⟨L0,I⟩:∃L0:Nat->Nat,L0=λm=>if m=o then 7 else L m:=⟨_,rfl⟩
 rw[<-ho]at D1 M ⊢;rw[<-I]at M;have zL:∀n,h.length<=n->n≠o->L0 n=0:=λn hn a3=>by rw[I];show (if n=o then 7 else L n)=0;rw[Uw a3,hx.ge hn]
 obtain⟨g,ff,rr⟩:=M.aA;have e1:x.aF.r=x:=rfl;rw[e1]at rr;have a5:=rr;simp only[eZ.aJ]at a5;have lh:=(Up.1 D0).1;have bad:jT L h r x.aF (.aF [.aD,.aD,.aD,.aA .i64 0,.aE false]) (H3.set h.length (some (.aA 5 [[.aD,.aD,.aD,.aA .i64 0,.aE false]] false))):=by rw[Hx D0];have T:=M.to (W:=wA) (Q:=eY);rw[I]at T;obtain⟨ma,ca,aa,row,s1,s2,s3,out⟩:=T.aJ hx X3 (by omega);rw[row]at D1;simp only[UB,e_.aA.injEq,VI]at D1;obtain⟨-,⟨⟨rfl,rfl,rfl,-⟩,-⟩,-⟩:=D1;exact out
 have w0:(o=h.length)=False:=UO (by omega);simp only[go_sem,a5];by_cases c1:x.aG=2
 ·simp only[go_sem,Uu c1,U2];by_cases c2:¬kind=1/\¬kind=2
  ·have ep:x.aP kind data=(0,x.aF,13):=by unfold eZ.aP;rw[Uw (by simpa using c1),Uv c2]
   rw[ep];simp only[go_sem,D0,D1,Us c2.1,Us c2.2,Vc,lh];exact⟨_,rfl,bad⟩
  ·by_cases c3:kind=2/\¬cf.2=0
   ·have ep:x.aP kind data=(0,x.aF,4):=by unfold eZ.aP;rw[Uw (by simpa using c1),Uw c2,<-a4,Uv c3]
    have ae:¬kind=1:=by rw[c3.1];decide
    rw[ep];simp only[go_sem,D0,D1,Us ae,Uu c3.1,Us c3.2,Vc,U2,lh];exact⟨_,rfl,bad⟩
   ·have p1:x.aP kind data=if 2^40<=x.aM then (0,x.aF,17) else (x.aM+1,(((x.aF.aF kind data).on).aH).aA,0):=by unfold eZ.aP;rw[Uw (by simpa using c1),Uw c2,<-a4,Uw c3]
    have eL:(2:Int)^40=1099511627776:=by decide
    rw[eL]at p1;have a6:=u2.2 H3 r x ⟨g,ff,rr⟩ (E.aC (by omega));by_cases k1':kind=1
    ·have Z:¬kind=2:=by rw[k1'];decide
     simp only[go_sem,Uu k1',Us Z,U2];refine gh u2.1 a6 ?_;by_cases c4:(1099511627776:Int)<=x.aM;·rw[Uv c4]at p1;rw[p1];simp only[go_sem,D0,D1,Uu c4,lh];exact⟨_,rfl,bad⟩
     ·rw[Uw c4]at p1;simp only[go_sem,Us c4];refine a2 o L0 H3 _ ho I X3 (by omega) M D0 ?_ ?_ ?_ ?_ ?_ p1<;>simp[fj,h_]
    ·have Z:kind=2:=UC λz=>c2 ⟨k1',z⟩;have c0:cf.2=0:=UC λz=>c3 ⟨Z,z⟩;simp only[go_sem,Us k1',Uu Z,Uu c0,Vc,U2];refine gh u2.1 a6 ?_;by_cases c4:(1099511627776:Int)<=x.aM;·rw[Uv c4]at p1;rw[p1];simp only[go_sem,D0,D1,Uu c4,lh];exact⟨_,rfl,bad⟩
     ·rw[Uw c4]at p1;simp only[go_sem,Us c4];refine a2 o L0 H3 _ ho I X3 (by omega) M D0 ?_ ?_ ?_ ?_ ?_ p1<;>simp[fj,h_]
 ·have ep:x.aP kind data=(0,x.aF,30):=by unfold eZ.aP;rw[Uv (by simpa using c1)]
  rw[ep];simp only[go_sem,D0,D1,Us c1,Vc,lh];exact⟨_,rfl,bad⟩
def uu (P:Program)(f:FuncId):Prop:=fP P f=true/\∀(L:Nat->Nat)(h:eW)(r:Nat)(x:eZ)(k:Nat),iN L h r x->x.aD k->k+1<2^28->
 fC P f [.aC r 21 0 0] h λv h'=>∃w,v=.aI [.aA .i64 x.aR.1,w,.aA .i64 x.aR.2.2]/\jT L h r x.aR.2.1 w h'
theorem Rj {P:Program}{f f1 f2 f3 f4:FuncId}(hf:Is P f (AP f1 f2 f3 f4))(u1:nU P f1)(u2:r_ P f2)(u3:p8 P f3)(u4:o8 P f4):uu P f:=by
 refine⟨hf.2,λL h r x k hx hfit hk=>fU hf ?_⟩;obtain⟨H3,hH⟩:∃H,H=h++[some (e_.aA 5 [[.aD,.aD,.aD,.aA .i64 0,.aE false]] false)]++[some (e_.aA 5 [[.aD,.aD,.aD,.aA .i64 0,.aE false]] false)]:=⟨_,rfl⟩;have X3:eV eY h H3:=by rw[hH];exact eV.b2 _ _
 have l3:H3.length=h.length+2:=by rw[hH];simp
 have D0:H3[h.length]?=some (some (e_.aA 5 [[.aD,.aD,.aD,.aA .i64 0,.aE false]] false)):=by rw[hH];exact jJ _ _ _
 have D1:H3[h.length+1]?=some (some (e_.aA 5 [[.aD,.aD,.aD,.aA .i64 0,.aE false]] false)):=by rw[hH];exact iO _ _ _
 simp only[AP,go_sem];rw[<-hH];clear hH;have hx0:=hx.aD X3 D1 (by omega);have hlr:=hx.lt;obtain⟨o,ho⟩:∃o,o=h.length+1:=⟨_,rfl⟩;obtain⟨L0,hL0⟩:∃L0:Nat->Nat,L0=λm=>if m=o then 7 else L m:=⟨_,rfl⟩
 rw[<-ho]at D1 hx0 ⊢;rw[<-hL0]at hx0;have zL:∀n,h.length<=n->n≠o->¬wA (L0 n):=λn hn hno=>by rw[hL0];show ¬wA (if n=o then 7 else L n);rw[Uw hno,hx.ge hn];exact jF
 obtain⟨g,ff,rr⟩:=hx0.aA;have e1:x.aF.r=x:=rfl;rw[e1]at rr;have rr':=rr;simp only[eZ.aJ]at rr';have lr:=(Up.1 rr).1;have lh:=(Up.1 D0).1;have w0:(o=h.length)=False:=UO (by omega);have bad:jT L h r x.aF (.aF [.aD,.aD,.aD,.aA .i64 0,.aE false]) (H3.set h.length (some (.aA 5 [[.aD,.aD,.aD,.aA .i64 0,.aE false]] false))):=by rw[Hx D0];have T:=hx0.to (W:=wA) (Q:=eY);rw[hL0]at T;obtain⟨ma,ca,aa,row,s1,s2,s3,out⟩:=T.aJ hx X3 (by omega);rw[row]at D1;simp only[UB,e_.aA.injEq,VI]at D1;obtain⟨-,⟨⟨rfl,rfl,rfl,-⟩,-⟩,-⟩:=D1;exact out
 have ro:=hfit.bC;have ewr:IntKind.i64.wrap (x.aL+1)=x.aL+1:=gi (by omega);have tc:=u1.2 eY H3 x.aA.aA _ x.aE (m_ x.aA.aA H3) (hfit.aC (by omega));simp only[go_sem,rr'];by_cases c1:x.aG=2
 ·simp only[go_sem,rr',Uu c1,U2];refine gh u1.1 tc ?_;rw[iC];cases c2:x.aA.aA.aF x.aE
  ·have ep:x.aR=(0,x.aF,11):=by unfold eZ.aR;rw[Uw (by simpa using c1),Uv (.inl c2)]
   rw[ep];simp only[go_sem,rr',D0,D1,Vc,lh];exact⟨_,rfl,bad⟩
  ·by_cases c3:x.aA.aA.aJ x.aE=x.aA.aC
   ·have ep:x.aR=(x.aL+1,({x with aL:=x.aL+1}:eZ).aF.on,0):=by unfold eZ.aR;rw[Uw (by simpa using c1),Uw (by rintro (z | z);rw[c2]at z;cases z;exact z c3)]
    rw[ep];have T1:=fy.aH (R:=x) (out:=kT.aG) (R':={x with aL:=x.aL+1}) (hx0.to (W:=wA) (Q:=eY)) rr rfl rfl (λ_ z=>z);have r1:(H3.set r (some (.aA 21 [({x with aL:=x.aL+1}:eZ).aJ g ff] false)))[r]?=some (some (.aA 21 [({x with aL:=x.aL+1}:eZ).aJ g ff] false)):=Ux lr;simp only[eZ.aJ]at T1 r1;simp only[go_sem,rr',U2,Uu c3,ewr];have ob:({r:={x with aL:=x.aL+1},o:=kT.aG}:RX)=({x with aL:=x.aL+1}:eZ).aF:=rfl;rw[ob]at T1;have f1:({x with aL:=x.aL+1}:eZ).aD (k+1):=by obtain⟨g1,g2,g3,g4,g5,g6,g7,g8,g9,g10,g11,g12,g13,g14,g15⟩:=hfit.aA (V4 k);exact⟨g1,g2,g3,g4,g5,g6,g7,g8,g9,g10,g11,⟨by show 0<=x.aL+1;omega,by show x.aL+1<=((k+1:Nat):Int);omega⟩,g13,g14,g15⟩
    have o1:=T1.aA (zL h.length (Uy _) (by omega)) (λz=>z) D0;generalize hH1:H3.set r _=H1 at *;refine fA ⟨u2.1,u2.2 H1 r o⟩ ?_;rintro _ H4 ⟨rfl,X4⟩;simp only[go_sem];have ea:=fy.aD (Q':=eY) T1 X4 (λ_ _ y=>y) λL1 x1=>(xb u4 u3 (x1.up X4) f1 (by omega) (mV _) (by omega)).aA λ_ _ b=>b.aG mO;refine fA ⟨u4.1,ea⟩ ?_;intro _ H5 T5;have o5:=T5.aA (zL h.length (Uy _) (by omega)) (λz=>z) D0;obtain⟨g5,f5,r5⟩:=T5.aE;have er5:({x with aL:=x.aL+1}:eZ).aF.on.r={x with aL:=x.aL+1}:=(pG _ _).1;rw[er5]at r5;simp only[eZ.aJ]at r5;rw[hL0]at T5;obtain⟨ma,ca,aa,row,s1,s2,s3,out⟩:=T5.aM (n:=h.length) hx X3 (by omega) ⟨Uy _,by omega⟩ (by omega);have lh5:=(Up.1 o5).1;simp only[go_sem,r5,row,o5,s1,s2,s3,lh5];exact⟨_,rfl,out _⟩
   ·have ep:x.aR=(0,x.aF,11):=by unfold eZ.aR;rw[Uw (by simpa using c1),Uv (.inr c3)]
    rw[ep];simp only[go_sem,rr',D0,D1,U2,Us c3,Vc,lh];exact⟨_,rfl,bad⟩
 ·have ep:x.aR=(0,x.aF,30):=by unfold eZ.aR;rw[Uv (by simpa using c1)]
  rw[ep];simp only[go_sem,D0,D1,Us c1,Vc,lh];exact⟨_,rfl,bad⟩
structure qR (lo n:Nat)(h:eW)(l:List Int):Prop where
 ex:∃(a:AV)(A:Nat->Prop),h[n]?=some (some (.aA 1 [[a]] false))/\(∀m,A m->lo<=m/\m≠n)/\eX (fM l) A h a/\gP h a
 lt:n<h.length/\lo<=n
theorem qR.up {lo n:Nat}{h h':eW}{l:List Int}(hh:qR lo n h l)(hx:eV eY h h'):qR lo n h' l:=by obtain⟨⟨a,A,e2,hA,oa,ca⟩,lt2,e⟩:=hh;have kA:∀F,gS F h h':=λF m hm y hy=>hx.aA hy;exact⟨⟨a,A,hx.aA e2,hA,eX.aC _ (λ_ y=>y) (kA _) _ oa,ca.aA oa (kA _)⟩,by have:=hx.1;omega,e⟩
theorem RL {P:Program}{f:FuncId}(hf:Is P f uL){lo n2 n3:Nat}{h:eW}{l2:List Int}{round:Int}(hh:qR lo n2 h l2) (M:h[n3]?=some (some (.aA 1 [[.aA .i64 round]] false))) (hl:l2.length<=2^20) (w:fR):
  fC P f [.aF w.aA,.aC n3 1 0 0,.aC n2 1 0 0] h λ_ h'=>qR lo n2 h' (if round<=w.aG then l2++[w.aD] else l2)/\eV (λm=>lo<=m) h h':=by
 refine fU hf ?_;obtain⟨a,A,e2,hA,oa,ca⟩:=id hh.ex;obtain⟨lt2,W⟩:=hh.lt;have lt3:=(Up.1 M).1;have E2:∀x,(h++[x])[n2]?=_:=λx=>(eV.b1 x).aA e2;have E3:∀x,(h++[x])[n3]?=_:=λx=>(eV.b1 x).aA M;have sa:=oa.aA;by_cases c1:round<=w.aG
 ·rw[Uv c1];simp only[uL,fR.aA,go_sem,E2,E3,Uu c1];obtain⟨H4,u⟩:∃H4,H4=h++[some (e_.aA 4 [[.aA .i64 w.aD,.aA .i64 w.aC,.aA .i64 w.aE,.aA .i64 w.aG]] false)]++[some (e_.aA 1 [[.aA .i64 w.aD]] false)]:=⟨_,rfl⟩;have X4:eV eY h H4:=by rw[u];exact eV.b2 _ _
  have l4:H4.length=h.length+2:=by rw[u];simp
  have c1:H4[h.length+1]?=some (some (e_.aA 1 [[.aA .i64 w.aD]] false)):=by rw[u];exact iO _ _ _
  have U:eX (fM l2) (λm=>(A m/\m<h.length)\/H4.length<=m) H4 a:=eX.aC _ (λm hm=>.inl hm) (λm hm y hy=>X4.aA hy) _ (eX.lt _ _ oa);have a2:gP H4 a:=ca.aA oa (λm hm y hy=>X4.aA hy);obtain⟨a',h',s1,s2,s3,s4⟩:=vj (bytes:=8) (es:=[[.aA .i64 w.aD]]) (ys:=[[.aA .i64 w.aD]]) U a2 (eV.aC _ _) (by simp[fG,fI,eX]) (λm hm=>.inr hm) (by simp;omega);have ae:iK H4 1 (.aG (h.length+1) 1 0 1 (some 1))=some [[.aA .i64 w.aD]]:=by simp[iK,c1,go_sem,reduceIte]
  rw[<-iq ae]at s1;rw[<-u,s1];have kk:∀m,m<H4.length->¬(A m/\m<h.length)->h'[m]?=H4[m]?:=λm hm hn=>s4.2 m hm (λz=>by rcases z with z | z;exact hn z;omega);have a3:=(kk n2 (by omega) (λz=>(hA n2 z.1).2 rfl)).trans (X4.aA e2);have l':=s4.1;have Z:n2<h'.length:=by omega
  have E:=s2.aA;simp only[go_sem,a3,E,gC E];have e4:fM (l2++[w.aD])=.sl 1 (l2.map (λn=>[D.aA .i64 n])++[[.aA .i64 w.aD]]):=by simp[fM]
  have kA:gS (λm=>((A m/\m<h.length)\/H4.length<=m)/\m<h'.length) h' (h'.set n2 (some (e_.aA 1 [[a']] false))):=by
   rintro m ⟨hm,hlt⟩ y hy;have a1:m≠n2:=by
    rcases hm with⟨z,z'⟩ | z;·exact (hA m z).2
    ·omega
   exact (Uq (λe=>a1 e.symm)).trans hy
  have I:=eX.lt _ _ s2;refine⟨⟨⟨a',λm=>((A m/\m<h.length)\/H4.length<=m)/\m<h'.length,Ux Z,?_,?_,s3.aA I kA⟩,by simp;omega,W⟩,?_⟩
  ·rintro m ⟨hm,hlt⟩;rcases hm with⟨z,z'⟩ | z;·exact hA m z
   ·exact⟨by omega,by omega⟩
  ·rw[e4];exact eX.aC _ (λm hm=>hm) kA _ I
  ·refine⟨by simp;omega,λm hm O=>?_⟩;have nA:¬(A m/\m<h.length):=λz=>O (hA m z.1).1;exact (Uq (λe=>O (by omega))).trans ((kk m (by omega) nA).trans (X4.2 m hm (λy=>y)))
 ·rw[Uw c1];simp only[uL,fR.aA,go_sem,E3,Us c1];exact⟨hh.up (eV.b1 _),(eV.b1 _).1,λm hm _=>(eV.b1 _).2 m hm (λz=>z)⟩
theorem RM (id round:Int)(l:List fR)(w:fR):(if round<=w.aG then (id :: (l.filter λf=>decide (round<=f.aG)).map fR.aD)++[w.aD] else (id :: (l.filter λf=>decide (round<=f.aG)).map fR.aD))=id :: ((l++[w]).filter λf=>decide (round<=f.aG)).map fR.aD:=by
 rw[WA,Ve];by_cases c:round<=w.aG;·rw[Uv c];simp[c]
 ·rw[Uw c];simp[c]
def uv (P:Program)(f:FuncId):Prop:=fP P f=true/\∀(L:Nat->Nat)(h:eW)(r:Nat)(x:eZ)(k:Nat)(round:Int),iN L h r x->x.aD k->k<=2^28->
 fC P f [.aC r 21 0 0,.aA .i64 round] h λv h'=>v=.aE (x.bB round)/\h'=h
theorem Rm {P:Program}{f f1 f2 f3 f4:FuncId}(hf:Is P f (AR f1 f2 f3 f4))(h1:Is P f1 uL)(h2:o8 P f2)(h3:pZ P f3)(h4:pt P f4):uv P f:=by
 refine⟨hf.2,λL h r x k round hx hfit hk=>fC.aC (K:=λv h'=>v=.aE (x.bB round)/\eV eY h h') (fU hf ?_) (λr _ ⟨e,hx⟩=>⟨hx,r,by rw[e];exact gY.aE _,e⟩)⟩;obtain⟨g,ff,ra⟩:=id hx.r;have rr:=ra.aA;have lt:=hx.lt;have rdf:=eX.rd _ (F':=λm=>L m=2/\m<h.length) (λ_ y=>y) _ (eX.lt _ _ ra.fo);have hfl:=hfit.aE.1;simp only[eZ.aJ]at rr;have R1:∀a,(h++[a])[r]?=_:=λa=>(eV.b1 a).aA rr;have B1:=gH h (some (e_.aA 1 [[.aA .i64 round]] false));simp only[AR,go_sem,R1];have no:∀H,eV eY h H->(x.aG≠2\/round<1\/x.aL<round)->AV.aE false=AV.aE (x.bB round)/\eV eY h H:=λH e z=>⟨by unfold eZ.bB;rw[Uv z],e⟩;by_cases c1:x.aG=2
 ·by_cases c2:round<1
  ·simp only[go_sem,B1,Uu c1,Uu c2,U2];exact no _ (eV.b1 _) (.inr (.inl c2))
  ·by_cases c3:x.aL<round
   ·simp only[go_sem,R1,B1,Uu c1,Us c2,Uu c3,U2];exact no _ (eV.b1 _) (.inr (.inr c3))
   ·simp only[go_sem,R1,B1,Uu c1,Us c2,Us c3,U2];obtain⟨H3,hH3⟩:∃H3,H3=h++[some (e_.aA 1 [[.aA .i64 round]] false)]++[some (e_.aA 1 [[.aA .i64 x.id]] false)]++[some (e_.aA 1 [[.aG (h.length+1) 1 0 1 (some 1)]] false)]:=⟨_,rfl⟩;have X3:eV eY h H3:=by rw[hH3];exact eV.b3 _ _ _
    have l3:H3.length=h.length+3:=by rw[hH3];simp
    have C0:H3[h.length]?=some (some (e_.aA 1 [[.aA .i64 round]] false)):=by rw[hH3];exact oJ _ _ _ _
    have C1:H3[h.length+1]?=some (some (e_.aA 1 [[.aA .i64 x.id]] false)):=by rw[hH3];exact pF _ _ _ _
    have C2:H3[h.length+1+1]?=some (some (e_.aA 1 [[.aG (h.length+1) 1 0 1 (some 1)]] false)):=by rw[hH3];exact rk _ _ _ _
    rw[<-hH3];clear hH3;have T0:qR (h.length+1) (h.length+1+1) H3 [x.id]:=by refine⟨⟨_,λm=>m=h.length+1,C2,λm hm=>⟨by omega,by omega⟩,?_,⟨_,_,C1,(λe=>by cases e),(λc hc=>by cases hc;simp)⟩⟩,by omega,by omega⟩;exact .inr (.inr ⟨_,0,some 1,_,_,rfl,rfl,C1,by simp,(λc hc=>by cases hc;simp),by simp[fG,fI,eX]⟩)
    obtain⟨J,hJ⟩:∃J:Nat->eW->Prop,∀k h',J k h'↔qR (h.length+1) (h.length+1+1) h' (x.id :: ((x.aC.take k).filter λf=>decide (round<=f.aG)).map fR.aD)/\eV (λm=>h.length+1<=m) H3 h':=⟨_,λ_ _=>VW⟩;have J1:∀k h',J k h'->Rd (λm=>L m=2/\m<h.length) h' (nD x.aC) ff:=by intro k h' hh;obtain⟨-,e⟩:=(hJ k h').1 hh;exact Rd.aD (λ_ y=>y) (λm hm y hy=>(e.2 m (by omega) (by omega)).trans (X3.aA hy)) _ _ rdf
    have J2:∀k (hk:k<x.aC.length) h' H,J k h'->eV eY h' H->fC P f1 ([]++[.aF (x.aC[k]).aA]++[.aC h.length 1 0 0,.aC (h.length+1+1) 1 0 0]) H λ_ h''=>J (k+1) h'':=by intro k hk h' H hh hX;obtain⟨t,e⟩:=(hJ k h').1 hh;have ek:x.aC.take (k+1)=x.aC.take k++[x.aC[k]]:=U3 hk;have tl:=Ww k x.aC;have tf:=VB (λf:fR=>decide (round<=f.aG)) (x.aC.take k);refine (RL h1 (t.up hX) (hX.aA ((e.2 h.length (by omega) (by omega)).trans C0)) (by simp only[UG,UI];omega) x.aC[k]).aA λv h'' z=>(hJ _ _).2 ?_;rw[ek,<-RM];exact⟨z.1,(e.aD (hX.aD z.2 (F'':=λm=>h.length+1<=m) (λ_ _ y=>y.elim) (λ_ _ y=>y)) (λ_ _ y=>y) (λ_ _ y=>y))⟩
    refine fA ⟨h2.1,h2.2 (λm=>L m=2/\m<h.length) H3 r x g ff f1 [] [.aC h.length 1 0 0,.aC (h.length+1+1) 1 0 0] J (X3.aA ra.aA) h1.2 (by omega) ((hJ _ _).2 ⟨by simpa using T0,eV.aC _ _⟩) J1 J2⟩ ?_;rintro _ h6 hh;obtain⟨t6,e6⟩:=(hJ _ _).1 hh;rw[U7]at t6;obtain⟨a,A,e2,hA,oa',ca⟩:=t6.ex;have X6:eV eY h h6:=⟨by have:=X3.1;have:=e6.1;omega,λm hm _=>(e6.2 m (by omega) (by omega)).trans (X3.2 m hm (λy=>y))⟩;have r6:=X6.aA rr;have sa:=oa'.aA;have ra':=eX.rd _ (F':=A) (λ_ y=>y) _ oa';have tf:=VB (λf:fR=>decide (round<=f.aG)) x.aC;simp only[go_sem,e2];refine gh h3.1 (h3.2 h6 r x ⟨g,ff,r6⟩ (hfit.aK hk)) ?_;simp only[go_sem,e2];refine gh h4.1 (h4.2 eY A h6 x.aN _ _ _ (tO eY h6 x.aN) ra' (hfit.aM (by decide)) (by simp only[UG,UI];omega)) ?_;simp only[go_sem,e2];refine⟨?_,X6⟩;unfold eZ.bB;rw[Uw (by simp[c1];omega)]
 ·simp only[go_sem,Us c1,Vc];exact no _ (eV.b1 _) (.inl c1)
def ou (P:Program)(f:FuncId)(t:eZ->Int):Prop:=fP P f=true/\∀(h:eW)(r:Nat)(x:eZ),np h r x->fC P f [.aC r 21 0 0] h λres h'=>res=.aA .i64 (t x)/\h'=h
theorem Rl {P:Program}{f:FuncId}(hf:Is P f AQ):ou P f eZ.aG:=by refine⟨hf.2,λh r x ⟨g,ff,rr⟩=>fU hf ?_⟩;simp only[eZ.aJ]at rr;simp only[AQ,go_sem,rr]
theorem P5 {P:Program}{f:FuncId}(hf:Is P f AM):ou P f eZ.aE:=by refine⟨hf.2,λh r x ⟨g,ff,rr⟩=>fU hf ?_⟩;simp only[eZ.aJ]at rr;simp only[AM,go_sem,rr]
theorem Sn (l:fu):l.aI (l.aA+1) l.es.length=l.es:=by
 unfold fu.aI;by_cases c:l.es.length=0;·have:l.es=[]:=List.length_eq_zero_iff.1 c;simp[this]
 ·rw[Uw (by unfold fu.aC;omega)];rw[show (l.aA+1-l.aA-1).toNat=0 by omega];simp
def uk (P:Program)(f:FuncId):Prop:=fP P f=true/\∀(F:Nat->Prop)(h:eW)(x:fF)(a:List AV),fm F h x.c a->jH x.aA->x.aD.aH (2^40)->x.aG.length<=2^40->(x.aA.es.length<=2^40/\(0<=x.aA.aA/\x.aA.aA<=2^60))->
 fC P f [.aF a] h λv h'=>∃b,v=.aF b/\fI x.c (λm=>h.length<=m) h' b/\eV eY h h'
theorem QW {P:Program}{f f1 f2 f3:FuncId}(hf:Is P f (Bk f1 f2 f3))(u1:nT P f1)(u2:sy P f2)(u3:qL P f3):uk P f:=by
 refine⟨hf.2,λF h x a ha I hc hs hb=>fU hf ?_⟩;obtain⟨e,o,n,l,s,rfl,he,ho,hn,hl,U⟩:=m9 ha;obtain⟨H,hH⟩:∃H,H=h++[some (e_.aA 10 [[.aA .i64 x.aE,.aA .i64 x.aC,.aA .i64 x.aF,.aA .i64 x.aA.aA,.aA .i64 x.aA.aD,e,o,n,l,s]] false)]++[some (e_.aA 10 [[.aA .i64 0,.aA .i64 0,.aA .i64 0,.aA .i64 0,.aA .i64 0,.aD,.aD,.aD,.aD,.aD]] false)]:=⟨_,rfl⟩;have X1:eV eY h H:=by rw[hH];exact eV.b2 _ _
 have lH:H.length=h.length+2:=by rw[hH];simp
 have C0:H[h.length]?=some (some (e_.aA 10 [[.aA .i64 x.aE,.aA .i64 x.aC,.aA .i64 x.aF,.aA .i64 x.aA.aA,.aA .i64 x.aA.aD,e,o,n,l,s]] false)):=by rw[hH];exact jJ _ _ _
 have C1:H[h.length+1]?=some (some (e_.aA 10 [[.aA .i64 0,.aA .i64 0,.aA .i64 0,.aA .i64 0,.aA .i64 0,.aD,.aD,.aD,.aD,.aD]] false)):=by rw[hH];exact iO _ _ _
 have len:ik e=some (.aA .i64 x.aA.es.length):=by have:=he.aC;simpa [gN] using this
 have ew:IntKind.i64.wrap (x.aA.aA+1)=x.aA.aA+1:=gi (by omega);have rl:fm F H x.aA.c [.aA .i64 x.aA.aA,.aA .i64 x.aA.aD,e]:=by have a8:=he.up X1;simp only[fu.c,fm,Rd];exact⟨_,_,rfl,rfl,_,_,rfl,rfl,_,_,rfl,a8,rfl⟩
 simp only[Bk,fF.aH,go_sem,he.aA,ho.aA,hn.aA,hl.aA,U.aA];rw[<-hH];clear hH;simp only[go_sem,len,ew];have sl:=u1.2 F H x.aA _ (x.aA.aA+1) x.aA.es.length rl I;rw[Sn]at sl;refine fA ⟨u1.1,sl⟩ ?_;rintro e1 H2 ⟨oe,-,X2⟩;have D0:=X2.aA C0;have D1:=X2.aA C1;have x2:=X2.1;have O:h.length<H2.length:=by omega
 have l21:h.length+1<H2.length:=by omega
 simp only[go_sem,D0,oe.aA,gC oe.aA,O];obtain⟨H3,E⟩:∃H3,H3=H2.set h.length (some (e_.aA 10 [[.aA .i64 x.aE,.aA .i64 x.aC,.aA .i64 x.aF,.aA .i64 x.aA.aA,.aA .i64 x.aA.aD,e1,o,n,l,s]] false)):=⟨_,rfl⟩;have X3:eV eY h H3:=by rw[E];exact (X1.tr X2).aH (Uy _) _
 have K3:∀m,m≠h.length->H3[m]?=H2[m]?:=λm hm=>by rw[E];exact Uq (λz=>hm z.symm)
 have l3:H3.length=H2.length:=by rw[E];simp
 have E0:H3[h.length]?=some (some (e_.aA 10 [[.aA .i64 x.aE,.aA .i64 x.aC,.aA .i64 x.aF,.aA .i64 x.aA.aA,.aA .i64 x.aA.aD,e1,o,n,l,s]] false)):=by rw[E];exact Ux O
 have E1:=(K3 (h.length+1) (by omega)).trans D1;have a2:eX (gN x.aA.es) (λm=>H.length<=m) H3 e1:=eX.aC _ (λ_ y=>y) (λm hm y hy=>(K3 m (by omega)).trans hy) _ oe;rw[<-E];clear E;have rc:fm F H3 x.aD.c [o,n,l]:=by simp only[fq.c,fm];exact⟨_,_,rfl,ho.up X3,_,_,rfl,hn.up X3,_,_,rfl,hl.up X3,rfl⟩
 refine fA ⟨u2.1,u2.2 F H3 x.aD _ rc hc⟩ ?_;rintro _ H4 ⟨o1,n1,c1,rfl,oo,on,oc,X4⟩;have x4:=X4.1;have F0:=X4.aA E0;have F1:=X4.aA E1;have M:h.length<H4.length:=by omega
 simp only[go_sem,F0,oo.aA,on.aA,oc.aA,M];obtain⟨H5,u⟩:∃H5,H5=H4.set h.length (some (e_.aA 10 [[.aA .i64 x.aE,.aA .i64 x.aC,.aA .i64 x.aF,.aA .i64 x.aA.aA,.aA .i64 x.aA.aD,e1,o1,n1,c1,s]] false)):=⟨_,rfl⟩;have X5:eV eY h H5:=by rw[u];exact (X3.tr X4).aH (Uy _) _
 have K5:∀m,m≠h.length->H5[m]?=H4[m]?:=λm hm=>by rw[u];exact Uq (λz=>hm z.symm)
 have l5:H5.length=H4.length:=by rw[u];simp
 have G0:H5[h.length]?=some (some (e_.aA 10 [[.aA .i64 x.aE,.aA .i64 x.aC,.aA .i64 x.aF,.aA .i64 x.aA.aA,.aA .i64 x.aA.aD,e1,o1,n1,c1,s]] false)):=by rw[u];exact Ux M
 have G1:=(K5 (h.length+1) (by omega)).trans F1;have k5:∀lo,h.length+2<=lo->∀{d:D}{a:AV},eX d (λm=>lo<=m) H4 a->eX d (λm=>lo<=m) H5 a:=λlo a7 d a z=>eX.aC _ (λ_ y=>y) (λm hm y hy=>(K5 m (by omega)).trans hy) _ z;have a1:=k5 _ (by omega) (eX.aC _ (λ_ y=>y) (X4.aE _) _ a2);have W:=k5 _ (by omega) oo;have Z:=k5 _ (by omega) on;have a3:=k5 _ (by omega) oc;rw[<-u];clear u;refine fA ⟨u3.1,u3.2 F H5 x.aG s (U.up X5) hs⟩ ?_;rintro s1 H6 ⟨os,X6⟩;have x6:=X6.1;have I0:=X6.aA G0;have I1:=X6.aA G1;have a6:h.length<H6.length:=by omega
 have a5:h.length+1<H6.length:=by omega
 have a4:(h.length=h.length+1)=False:=UO (by omega);simp only[go_sem,I0,I1,oe.aA,oo.aA,on.aA,oc.aA,os.aA,gC os.aA,a6,a5,a4,UA];refine⟨_,rfl,?_,?_⟩
 ·have k6:∀{d:D}{a:AV},eX d (λm=>h.length+2<=m) H6 a->eX d (λm=>h.length<=m) ((H6.set h.length (some (e_.aA 10 [[.aA .i64 x.aE,.aA .i64 x.aC,.aA .i64 x.aF,.aA .i64 x.aA.aA,.aA .i64 x.aA.aD,e1,o1,n1,c1,s1]] false))).set (h.length+1) (some (e_.aA 10 [[.aA .i64 x.aE,.aA .i64 x.aC,.aA .i64 x.aF,.aA .i64 x.aA.aA,.aA .i64 x.aA.aD,e1,o1,n1,c1,s1]] false))) a:=
   λz=>eX.aC _ (λm hm=>by omega) (λm hm y hy=>(Uq (by omega)).trans ((Uq (by omega)).trans hy)) _ z
  have w6:∀lo,h.length+2<=lo->∀{d:D}{a:AV},eX d (λm=>lo<=m) H5 a->eX d (λm=>h.length+2<=m) H6 a:=λlo a7 d a z=>eX.aC _ (λm hm=>by omega) (X6.aE _) _ z;simp only[fF.c,fI,eX];exact⟨_,_,rfl,rfl,_,_,rfl,rfl,_,_,rfl,rfl,_,_,rfl,rfl,_,_,rfl,rfl,_,_,rfl,k6 (w6 _ (by omega) a1),_,_,rfl,k6 (w6 _ (by omega) W),_,_,rfl,k6 (w6 _ (by omega) Z),_,_,rfl,k6 (w6 _ (by omega) a3),_,_,rfl,k6 (eX.aC _ (λm hm=>by omega) (λ_ _ _ y=>y) _ os),rfl⟩
 ·exact ((X5.tr X6).aH (Uy _) _).aH (by omega) _
def DE (P:Program)(f:FuncId):Prop:=fP P f=true/\∀(F:Nat->Prop)(h:eW)(x:fF)(a:List AV),fm F h x.c a->jH x.aA->x.aD.aH (2^40)->x.aG.length<=2^40->(x.aA.es.length<=2^40/\(0<=x.aA.aA/\x.aA.aA<=2^60))->
 fC P f [.aF a] h λv h'=>v=.aF x.v/\h'=h
theorem uk.p {P:Program}{f:FuncId}(hc:uk P f):DE P f:=⟨hc.1,λF h x a ha h1 h2 h3 h4=>(hc.2 F h x a ha h1 h2 h3 h4).aC λ_ _ ⟨b,e,o,X⟩=>⟨X,_,e▸gY.aA (ds:=x.c) (fI.fz _ (λ_ x=>x) _ o),rfl⟩⟩
def qV (P:Program)(f:FuncId):Prop:=fP P f=true/\∀(h:eW)(r:Nat)(x:eZ),np h r x->jH x.aA.aA->x.aA.aD.aH (2^40)->x.aA.aG.length<=2^40->(x.aA.aA.es.length<=2^40/\(0<=x.aA.aA.aA/\x.aA.aA.aA<=2^60))->
 fC P f [.aC r 21 0 0] h λv h'=>∃b,v=.aF b/\fI x.aA.c (λm=>h.length<=m) h' b/\eV eY h h'
theorem QY {P:Program}{f g:FuncId}(hf:Is P f (AN g))(hg:uk P g):qV P f:=by
 refine⟨hf.2,λh r x ⟨gg,ff,rr⟩ h1 h2 h3 h4=>fU hf ?_⟩;have e:=rr;simp only[eZ.aJ]at e;have lr:=(Up.1 rr).1;have R1:∀a,(h++[a])[r]?=_:=λa=>(eV.b1 a).aA e;obtain⟨H,hH⟩:∃H,H=h++[some (e_.aA 10 [[.aA .i64 0,.aA .i64 0,.aA .i64 0,.aA .i64 0,.aA .i64 0,.aD,.aD,.aD,.aD,.aD]] false)]:=⟨_,rfl⟩;have X1:eV eY h H:=by rw[hH];exact eV.b1 _
 have lH:H.length=h.length+1:=by rw[hH];simp
 have C0:H[h.length]?=some (some (e_.aA 10 [[.aA .i64 0,.aA .i64 0,.aA .i64 0,.aA .i64 0,.aA .i64 0,.aD,.aD,.aD,.aD,.aD]] false)):=by rw[hH];exact gH _ _
 simp only[AN,go_sem,R1];rw[<-hH];clear hH R1;have fr:=hg.2 eY H x.aA _ (CB x.aA H) h1 h2 h3 h4;refine fA ⟨hg.1,fr⟩ ?_;rintro _ H2 ⟨b,rfl,o,X2⟩;have x2:=X2.1;have D0:=X2.aA C0;have l2:h.length<H2.length:=by omega
 obtain⟨e1,o1,n1,c1,s1,rfl,he,ho,hn,hl,u⟩:=m9 (fI.rd _ (F':=λm=>H.length<=m) (λ_ y=>y) _ o);simp only[fF.aH]at o ⊢;simp only[go_sem,D0,he.aA,ho.aA,hn.aA,hl.aA,u.aA,l2];refine⟨_,rfl,?_,(X1.tr X2).aH (Uy _) _⟩;exact fI.aA _ (λm hm=>by omega) (λm hm y hy=>(Uq (by omega)).trans hy) _ o
def um (P:Program)(f:FuncId):Prop:=fP P f=true/\∀(F:Nat->Prop)(h:eW)(id:Int)(x:fF)(a:List AV)(draw:Int),fm F h x.c a->jH x.aA->x.aD.aH (2^40)->x.aG.length<=2^40->(x.aA.es.length<=2^40/\(0<=x.aA.aA/\x.aA.aA<=2^60))->
 fC P f [.aA .i64 id,.aF a,.aA .i64 draw] h λv h'=>∃r,v=.aC r 21 0 0/\h.length<=r/\h'[r]?=some (some (.aA 21 [(eZ.aU id x draw).aJ .aD .aD] false))/\eV eY h h'
theorem Rf {P:Program}{f f1 f2:FuncId}(hf:Is P f (AL f1 f2))(u1:DE P f1)(u2:wu P f2):um P f:=by
 refine⟨hf.2,λF h id x a E ha h1 h2 h3 h4=>fU hf ?_⟩;obtain⟨e,o,n,l,s,rfl,he,ho,hn,hl,M⟩:=m9 ha;obtain⟨H,hH⟩:∃H,H=h++[some (e_.aA 10 [[.aA .i64 x.aE,.aA .i64 x.aC,.aA .i64 x.aF,.aA .i64 x.aA.aA,.aA .i64 x.aA.aD,e,o,n,l,s]] false)]:=⟨_,rfl⟩;have X1:eV eY h H:=by rw[hH];exact eV.b1 _
 have C0:H[h.length]?=some (some (e_.aA 10 [[.aA .i64 x.aE,.aA .i64 x.aC,.aA .i64 x.aF,.aA .i64 x.aA.aA,.aA .i64 x.aA.aD,e,o,n,l,s]] false)):=by rw[hH];exact gH _ _
 have lH:H.length=h.length+1:=by rw[hH];simp
 have I:=ha.up (X1.tr (eV.b1 none));simp only[fF.aH]at I;have fr:=u1.2 F (H++[none]) x _ I h1 h2 h3 h4;simp only[AL,fF.aH,go_sem,he.aA,ho.aA,hn.aA,hl.aA,M.aA];rw[<-hH];clear hH;have C1:(H++[none])[h.length]?=_:=(eV.b1 none).aA C0;have u:∀a b:Option e_,(H++[a]).set (h.length+1) b=H++[b]:=λa b=>by rw[WC _ _ (by omega),lH];simp
 have C2:(H++[none])[h.length+1]?=some none:=by rw[<-lH];exact gH _ _
 have l2:h.length+1<(H++[none]).length:=by simp[lH]
 refine gh u1.1 fr ?_;simp only[go_sem,C1,C2];refine gh u2.1 (u2.2 _ E) ?_;simp only[go_sem,C1,C2,fF.aL,rV,rW,vC,u];refine⟨_,rfl,by omega,?_,X1.tr (eV.b1 _)⟩;rw[<-lH];exact gH _ _
theorem Gn {h:eW}{r:Nat}{id e:Int}{x:fF} (hr:h[r]?=some (some (.aA 21 [(eZ.aU id x e).aJ .aD .aD] false))):iN (λm=>if m=r then 6 else 0) h r (eZ.aU id x e):=by
 refine⟨⟨.aD,.aD,hr,eX.aD 1,UF,eX.aD 4,UF,Uv rfl⟩,λm hm=>?_⟩;by_cases c:m=r;·subst c;exact⟨(Up.1 hr).1,.inr (.inr (Uv rfl))⟩
 ·exact absurd (Uw c) hm
structure DI (A B C:Nat->Prop)(h:eW)(x:kT)(v:AV):Prop where
 ex:∃ma ca aa,v=.aF [ma,ca,aa,.aA .i64 x.aE,.aE x.aC]/\eX (td x.aD) A h ma/\eX (nV x.aA) B h ca/\eX (gN x.aF) C h aa/\gP h ma/\gP h ca
def mu (L:Nat->Nat):Nat->Nat:=λm=>if L m=1\/L m=2\/L m=6 then L m else 0
theorem jT.aA {L h r x0 x v h'}(a:iN L h r x0)(b:jT L h r x v h'):∃L',iN (mu L') h' r x.r/\(∀m,m<h.length->mu L' m=L m) /\
  DI (λm=>(h.length<=m/\m<h'.length)/\L' m=3) (λm=>(h.length<=m/\m<h'.length)/\L' m=4) (λm=>(h.length<=m/\m<h'.length)/\L' m=5) h' x.o v/\eV (λm=>wA (L m)) h h':=by
 obtain⟨L',o,ma,ca,aa,rfl,⟨g,f,ra⟩,oa,hl,ho,he,hx⟩:=b;have k1:∀m,L' m=1->mu L' m=L' m:=λm e=>by unfold mu;rw[Uv (.inl e)]
 have k2:∀m,L' m=2->mu L' m=L' m:=λm e=>by unfold mu;rw[Uv (.inr (.inl e))]
 have k6:∀m,L' m=6->mu L' m=L' m:=λm e=>by unfold mu;rw[Uv (.inr (.inr e))]
 have kk:∀m,mu L' m≠0->L' m=1\/L' m=2\/L' m=6:=λm e=>by unfold mu at e;exact UC λz=>e (Uw z)
 have u:∀k,k=3\/k=4\/k=5->∀m,L' m=k->(h.length<=m/\m<h'.length)/\L' m=k:=by intro k hk m e;refine⟨⟨?_,hl m (by omega)⟩,e⟩;apply UC;intro z;have e1:=he m (by omega);have e2:=(a.aA m (by omega)).2;omega
 refine⟨L',⟨⟨g,f,?_⟩,λm hm=>?_⟩,λm hm=>?_,⟨ma,ca,aa,rfl,?_,?_,?_,oa.mc,oa.cc⟩,hx⟩;·exact⟨ra.aA,eX.aC _ (λm e=>by rw[k1 m e];exact e) (λ_ _ _ y=>y) _ ra.go,ra.gc,eX.aC _ (λm e=>by rw[k2 m e];exact e) (λ_ _ _ y=>y) _ ra.fo,ra.fc,by rw[k6 _ ra.lr];exact ra.lr⟩
 ·have e:=kk m hm;refine⟨hl m (by omega),?_⟩;unfold mu;rw[Uv e];exact e
 ·by_cases c:L' m=1\/L' m=2\/L' m=6
  ·unfold mu;rw[Uv c];exact he m hm
  ·have e1:=he m hm;unfold mu;rw[Uw c];apply UC;intro z;have e2:=(a.aA m (by omega)).2;omega
 ·exact eX.aC _ (u 3 (by omega)) (λ_ _ _ y=>y) _ oa.m
 ·exact eX.aC _ (u 4 (by omega)) (λ_ _ _ y=>y) _ oa.c
 ·exact eX.aC _ (u 5 (by omega)) (λ_ _ _ y=>y) _ oa.a
theorem iN.up {L h r x h'}(a:iN L h r x)(hx:eV eY h h'):iN L h' r x:=by obtain⟨⟨g,f,ra⟩,lab⟩:=a;exact⟨⟨g,f,ra.aC (λ_ _ _=>rfl) λm hm _=>hx.2 m hm (λy=>y)⟩,λm hm=>⟨by have:=(lab m hm).1;have:=hx.1;omega,(lab m hm).2⟩⟩
theorem iN.aC {L h r x h'}(a:iN L h r x)(hl:h.length<=h'.length) (hk:∀m,L m≠0->h'[m]?=h[m]?):iN L h' r x:=by obtain⟨⟨g,f,ra⟩,lab⟩:=a;refine⟨⟨g,f,ra.aC (λ_ _ _=>rfl) λm hm e=>hk m (by rcases e with e | e | e<;>omega)⟩,λm hm=>⟨by have:=(lab m hm).1;omega,(lab m hm).2⟩⟩
theorem iN.aE {L h r x}(a:iN L h r x):np h r x:=let⟨g,f,ra⟩:=a.r;⟨g,f,ra.aA⟩
abbrev IL:=yq
abbrev IK:=yp
end Glb
