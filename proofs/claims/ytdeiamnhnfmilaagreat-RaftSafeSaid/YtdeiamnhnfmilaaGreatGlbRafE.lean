/-
  A library of its own.
-/
import Derived.Test.YtdeiamnhnfmilaaGreatGlbRafD
set_option linter.unusedSimpArgs false
set_option linter.unusedVariables false
set_option maxRecDepth 10000
set_option maxHeartbeats 8000000
namespace Glb
open Go
def sF (P:Program)(f:FuncId):Prop:=fK P f=true/\∀(L:Nat->Nat)(h:eX)(r:Nat)(x:fj)(k:Nat)(draw:Int),iI L h r x->x.aD k->k+2<2^28->
 fC P f [.aC r 21 0 0,.aA .i64 draw] h λv h'=>jU L h r (x.aR draw) v h'
theorem Sb {P:Program}{f f1 f2 f3 f4 f5 f6 f7:FuncId}(hf:wa P f (qj f1 f2 f3 f4 f5 f6 f7))(u1:rZ P f1)(u2:wx P f2)(u3:qU P f3)(u4:qI P f4)(u5:uG P f5)(u6:pt P f6)(u7:yY P f7):sF P f:=by
 refine⟨hf.1,λL h r x k draw hx hfit hk=>F8 hf.2 (V3 rfl) ?_⟩;show oK P (qj f1 f2 f3 f4 f5 f6 f7).aA ⟨[(0,.aC r 21 0 0),(1,.aA .i64 draw)],[],h⟩ (p8 P (qj f1 f2 f3 f4 f5 f6 f7).aC _);simp only[qj,go_sem];refine fy ⟨u1.1,u1.2 _ r h.length⟩ ?_;rintro _ H3 ⟨rfl,X3⟩;simp only[go_sem];obtain⟨H,hH⟩:∃H,H=H3++[some (e_.aA 2 [[.aC r 21 0 0,.aC h.length 5 0 0]] false)]:=⟨_,rfl⟩;obtain⟨n5,hn5⟩:∃n5,n5=H3.length:=⟨_,rfl⟩;have l3:=X3.1;simp only[U1,Vf,Ve]at l3;have X:eW eZ h H:=by rw[hH];exact ((eW.b1 _).tr X3).tr (eW.b1 _)
 have B1:H[h.length]?=some (some (e_.aA 5 [[.aD,.aD,.aD,.aA .i64 0,.aE false]] false)):=by rw[hH];exact (eW.b1 _).aA (X3.aA (gJ _ _))
 have B5:H[n5]?=some (some (e_.aA 2 [[.aC r 21 0 0,.aC h.length 5 0 0]] false)):=by rw[hH,hn5];exact gJ _ _
 have n5l:h.length+1<=n5:=by omega
 rw[<-hH,<-hn5];clear hH;have hx0:=hx.aD X B1 (U8 _);have hlr:=hx.lt;obtain⟨o,ho⟩:∃o,o=h.length:=⟨_,rfl⟩;obtain⟨L0,hL0⟩:∃L0:Nat->Nat,L0=λm=>if m=o then 7 else L m:=⟨_,rfl⟩
 rw[<-ho]at B1 B5 hx0 ⊢;rw[<-hL0]at hx0;have zL:∀n,h.length<=n->n≠o->¬wA (L0 n):=λn hn hno=>by rw[hL0];show ¬wA (if n=o then 7 else L n);rw[U6 hno,hx.ge hn];exact jJ
 have fin:∀(Le:fX)(H':eX)(y:RX),x.aR draw=y.aA->y.r.aD (k+2)->lk 4 Le=.aC o 5 0 0->fB wA eZ L0 H r o y H'->
   ta P f2 [.aF [.aC r 21 0 0,.aC o 5 0 0]] H' (tG (qj f1 f2 f3 f4 f5 f6 f7).aC Le λv h'=>jU L h r (x.aR draw) v h'):=by
  intro Le H' y ey yf k4 T;obtain⟨L1,x1,l1,e1⟩:=T;refine Ce ⟨u2.1,u2.2 L1 H' r o y (k+2) x1 yf (by omega)⟩ ?_;intro _ h'' T2;have T3:=fB.aE l1 e1 (λ_ _ y=>y) T2;rw[hL0]at T3;obtain⟨ma,ca,aa,row,s1,s2,s3,out⟩:=T3.aJ hx X (by omega);rw[ey];simp only[qj,go_sem,k4,row];exact out
 simp only[qj]at fin;obtain⟨g,ff,rr⟩:=hx0.aA;have e1:x.aG.r=x:=rfl;rw[e1]at rr;have rr':=rr;simp only[fj.aJ]at rr';have lr:=(UY.1 rr).1;have w5:(r=n5)=False:=Vm (by omega);have w0:(n5=r)=False:=Vm (by omega);have hb:=hfit.bu;have he:=hfit.aX;have ewb:IntKind.i64.wrap (x.aN+1)=x.aN+1:=gj (by omega);have ewe:IntKind.i64.wrap (x.aK+1)=x.aK+1:=gj (by omega);simp only[go_sem,rr'];by_cases c1:x.aI=2
 ·simp only[go_sem,rr',U3 c1,lr,ewb];by_cases c2:2<=x.aN+1
  ·have et:x.aR draw=(({x with aN:=0}:fj).aG.on).aA:=by unfold fj.aR;rw[U4 c1,U4 c2]
   have T1:=fB.aH (R:=x) (out:=mu.aG) (R':={x with aN:=0}) (hx0.to (W:=wA) (Q:=eZ)) rr rfl rfl (λ_ z=>z);simp only[fj.aJ]at T1;simp only[go_sem,rr',B5,U3 c2,lr,w5,VX];have f0:({x with aN:=0}:fj).aD k:=by obtain⟨g1,g2,g3,g4,g5,g6,g7,g8,g9,g10,g11,g12,g13,g14,g15⟩:=hfit;exact⟨g1,g2,g3,g4,g5,g6,g7,g8,g9,g10,⟨Vi _,by show (0:Int)<=1;omega⟩,g12,g13,g14,g15⟩
   have ech:=fB.aD (Q':=eZ) T1 (eW.aC _ _) (λ_ _ y=>y) λL1 x1=>(Ch u4 u3 x1 f0 (by omega) (mR _) (by omega)).aA λ_ _ b=>b.aG m8;refine fy ⟨u4.1,ech⟩ ?_;intro _ H4 T4;simp only[go_sem];exact fin _ H4 _ et ((CN (x:=({x with aN:=0}:fj).aG) f0 (mR _)).1.aA (by omega)) (by simp[fm]) T4
  ·have et:x.aR draw=(({x with aN:=x.aN+1}:fj).aG).aA:=by unfold fj.aR;rw[U4 c1,U6 c2]
   have T1:=fB.aH (R:=x) (out:=mu.aG) (R':={x with aN:=x.aN+1}) (hx0.to (W:=wA) (Q:=eZ)) rr rfl rfl (λ_ z=>z);simp only[fj.aJ]at T1;simp only[go_sem,U2 c2];refine fin _ _ _ et ?_ (by simp[fm]) T1;obtain⟨g1,g2,g3,g4,g5,g6,g7,g8,g9,g10,g11,g12,g13,g14,g15⟩:=hfit.aA (show k<=k+2 by omega);exact⟨g1,g2,g3,g4,g5,g6,g7,g8,g9,g10,⟨by show 0<=x.aN+1;omega,by show x.aN+1<=1;omega⟩,g12,g13,g14,g15⟩
 ·have T1:=fB.aH (R:=x) (out:=mu.aG) (R':={x with aK:=x.aK+1}) (hx0.to (W:=wA) (Q:=eZ)) rr rfl rfl (λ_ z=>z);have r1:(H.set r (some (.aA 21 [({x with aK:=x.aK+1}:fj).aJ g ff] false)))[r]?=some (some (.aA 21 [({x with aK:=x.aK+1}:fj).aJ g ff] false)):=U5 lr;simp only[fj.aJ]at T1 r1;have f1:({x with aK:=x.aK+1}:fj).aD (k+1):=by obtain⟨g1,g2,g3,g4,g5,g6,g7,g8,g9,g10,g11,g12,g13,g14,g15⟩:=hfit.aA (WQ k);exact⟨g1,g2,g3,g4,g5,g6,g7,g8,g9,⟨by show 0<=x.aK+1;omega,by show x.aK+1<=((k+1:Nat):Int);omega⟩,g11,g12,g13,g14,g15⟩
  simp only[go_sem,rr',U2 c1,lr,U9,ewe];have lr1:r<(H.set r (some (.aA 21 [({x with aK:=x.aK+1}:fj).aJ g ff] false))).length:=by rw[U9];exact lr
  have F5:=T1.aA (zL n5 (by omega) (by omega)) (λz=>z) B5;obtain⟨s,hs⟩:∃s:fj,s={x with aK:=x.aK+1}:=⟨_,rfl⟩;have et:x.aR draw=(if s.aX<=s.aK/\s.aZ s.id=true/\s.aA.aC<2^40/\s.aL<2^40 then s.aG.aW draw else s.aG).aA:=by rw[hs];unfold fj.aR;rw[U6 c1]
  have eq1:s.aX=x.aX/\s.aK=x.aK+1/\s.id=x.id/\s.aA=x.aA:=by rw[hs];exact⟨rfl,rfl,rfl,rfl⟩
  obtain⟨q1,q2,q3,q4⟩:=eq1;have eb:({r:={x with aK:=x.aK+1},o:=mu.aG}:RX)=s.aG:=by rw[hs];rfl
  rw[<-hs]at f1;rw[eb]at T1;generalize hH1:H.set r _=H1 at *;have rw1:mv H1 r s:=T1.aF;have no:¬(s.aX<=s.aK/\s.aZ s.id=true/\s.aA.aC<2^40/\s.aL<2^40)->x.aR draw=s.aG.aA:=λc=>by rw[et,U6 c]
  have eL:(2:Int)^40=1099511627776:=by decide
  rw[q1,q2,q3,q4,eL]at no et;by_cases c2:x.aX<=x.aK+1
  ·simp only[go_sem,r1,U3 c2];refine fZ u5.1 (u5.2 H1 r s x.id rw1 (f1.aJ (by omega)) (f1.aO (by decide))) ?_;rw[iG];cases c3:s.aZ x.id;·simp only[go_sem,r1];exact fin _ H1 _ (no (λz=>by rw[c3]at z;cases z.2.1)) (f1.aA (by omega)) (by simp[fm]) T1
   ·simp only[go_sem,r1];by_cases c4:x.aA.aC<1099511627776
    ·simp only[go_sem,U3 c4];refine fZ u6.1 (u6.2 H1 r s rw1 (f1.aD (by omega))) ?_;rw[iG];by_cases c5:s.aL<1099511627776;·rw[U4 ⟨c2,c3,c4,c5⟩]at et;simp only[go_sem,r1,F5,U3 c5];have st:=fB.aD (Q':=eZ) T1 (eW.aC _ _) (λ_ _ y=>y) λL1 x1=>u7.2 L1 H1 r o s.aG (k+1) 0 draw x1 f1 (by omega) (mR _) (by omega) (by show s.aA.aC<2^40;rw[q4,eL];exact c4);refine fy ⟨u7.1,st⟩ ?_;intro _ H4 T4;simp only[go_sem];exact fin _ H4 _ et ((Ix (x:=s.aG) f1 (by omega) (mR _) (by show s.aA.aC<2^40;rw[q4,eL];exact c4) draw).1) (by simp[fm]) T4
     ·simp only[go_sem,r1,U2 c5];exact fin _ H1 _ (no (λz=>c5 z.2.2.2)) (f1.aA (by omega)) (by simp[fm]) T1
    ·simp only[go_sem,U2 c4];exact fin _ H1 _ (no (λz=>c4 z.2.2.1)) (f1.aA (by omega)) (by simp[fm]) T1
  ·simp only[go_sem,U2 c2];exact fin _ H1 _ (no (λz=>c2 z.1)) (f1.aA (by omega)) (by simp[fm]) T1
theorem Ip {h:eX}{n:Nat}{v:Option e_} (hn:h[n]?=some v):h.set n v=h:=by
 apply VM;intro i;rw[Wl];have:=(UY.1 hn).1;split;·rename_i e;subst e;first | exact hn.symm | (rw[if_pos this];exact hn.symm)
 ·rfl
theorem fB.aM {L h r x h0 o X h' n}(a:iI L h r x)(hx:eW eZ h h0)(E:h.length<=o)(T:fB wA eZ (λm=>if m=o then 7 else L m) h0 r o X h')(hn:h.length<=n/\n<h0.length)(u:n≠o):
  ∃ma ca aa,h'[o]?=some (some (.aA 5 [[ma,ca,aa,.aA .i64 X.o.aE,.aE X.o.aA]] false))/\ma.aH=true/\ca.aH=true/\aa.aH=true/\∀b:Option e_,jU L h r X (.aF [ma,ca,aa,.aA .i64 X.o.aE,.aE X.o.aA]) (h'.set n b):=by
 obtain⟨L1,x1,l1,e1⟩:=T;obtain⟨ma,ca,aa,oa⟩:=x1.o;obtain⟨g,f,ra⟩:=x1.r;have hl:=hx.1;have e:∀m,m<h.length->(if m=o then 7 else L m)=L m:=λm hm=>U6 (by omega);have C:L1 n=0:=by rw[l1 n hn.2 (.inr (λz=>z))];show (if n=o then 7 else L n)=0;rw[U6 u,a.ge hn.1]
 have ne:∀(b:Option e_)(m:Nat),L1 m≠0->(h'.set n b)[m]?=h'[m]?:=λb m hm=>UZ (by rintro rfl;exact hm C);refine⟨ma,ca,aa,oa.aA,oa.m.aA,oa.c.aA,oa.a.aA,λb=>⟨L1,o,ma,ca,aa,rfl,⟨g,f,ra.aC (λ_ _ _=>rfl) λm _ hm=>ne b m (by omega)⟩,oa.aC (λ_ _ _=>rfl) (λm _ hm=>ne b m (by omega)),λm hm=>by rw[U9];exact x1.lt m hm,E,λm hm=>(l1 m (by omega) (.inr (λz=>z))).trans (e m hm),?_⟩⟩;refine⟨by rw[U9];have:=e1.1;omega,λm hm hw=>(UZ (by omega)).trans ((e1.2 m (by omega) ?_).trans (hx.2 m hm (λz=>z)))⟩;rintro (z | z);·exact hw (by have z':wA (if m=o then 7 else L m):=z;rw[e m hm]at z';exact z')
 ·exact z
def um (L:Nat->Nat)(h:eX)(d:D)(a:AV):Prop:=∃G:Nat->Prop,Rd G h d a/\∀n,G n->L n=0/\n<h.length
def qR (P:Program)(f:FuncId):Prop:=fK P f=true/\∀(L:Nat->Nat)(h:eX)(r:Nat)(x:fj)(k:Nat)(kind:Int)(data:List Int)(d:AV),iI L h r x->x.aD k->k+1<2^28->um L h (gq data) d->gF data/\data.length<=2^16->ia kind->
 fC P f [.aC r 21 0 0,.aA .i64 kind,d] h λv h'=>∃w,v=.aI [.aA .i64 (x.aP kind data).1,w,.aA .i64 (x.aP kind data).2.2]/\jU L h r (x.aP kind data).2.1 w h'
theorem RW {P:Program}{f f1 f2 f3 f4 f5 f6 f7 f8:FuncId}(hf:Is P f (mz f1 f2 f3 f4 f5 f6 f7 f8))(u1:yG P f1)(u2:pt P f2)(u3:rZ P f3)(u4:wC P f4)(u5:qU P f5)(u6:qI P f6)(u7:uA P f7)(u8:wy P f8):qR P f:=by
 refine⟨hf.2,λL h r x k kind data d hx C hk hd u M=>fS hf ?_⟩;obtain⟨G,a8,hG⟩:=hd;obtain⟨H,hH⟩:∃H,H=h++[some (e_.aA 5 [[.aD,.aD,.aD,.aA .i64 0,.aE false]] false)]++[some (e_.aA 5 [[.aD,.aD,.aD,.aA .i64 0,.aE false]] false)]:=⟨_,rfl⟩;have X2:eW eZ h H:=by rw[hH];exact eW.b2 _ _
 have l2:H.length=h.length+2:=by rw[hH];simp
 have C0:H[h.length]?=some (some (e_.aA 5 [[.aD,.aD,.aD,.aA .i64 0,.aE false]] false)):=by rw[hH];exact jx _ _ _
 have C1:H[h.length+1]?=some (some (e_.aA 5 [[.aD,.aD,.aD,.aA .i64 0,.aE false]] false)):=by rw[hH];exact iF _ _ _
 have ll:=C.aF;have ab:∀{y:RX}{B H':eX}{L':Nat->Nat},eW eZ h B->(∀n,n<h.length->L' n=L n)->fB wA eZ L' B r (h.length+1) y H'->Rd G H' (gq data) d:=λX hl T=>Rd.aE (F:=λn=>G n/\n<h.length) (λ_ y=>y.1) (λn hn y hy=>T.aA (by rw[hl n hn.2,(hG n hn.1).1];exact jJ) (λz=>z) (X.aA hy)) _ _ (Rd.lt _ _ a8);have e:∀(o:Nat)(L0:Nat->Nat)(H3:eX)(Le:fX),o=h.length+1->L0=(λm=>if m=o then 7 else L m)->eW eZ h H3->h.length+2<=H3.length->h_ L0 H3 r o x.aG->H3[h.length]?=some (some (.aA 5 [[.aD,.aD,.aD,.aA .i64 0,.aE false]] false))->lk 0 Le=.aC r 21 0 0->lk 1 Le=.aA .i64 kind->lk 2 Le=d->lk 7 Le=.aC h.length 5 0 0->lk 9 Le=.aC o 5 0 0->
   x.aP kind data=(x.aL+1,(((x.aG.aF kind data).on).aK).aA,0)->
   vc P (mz f1 f2 f3 f4 f5 f6 f7 f8).aA.tl.tl.tl.tl ⟨Le,[],H3⟩ (iE (mz f1 f2 f3 f4 f5 f6 f7 f8).aC λv h'=>∃w,v=.aI [.aA .i64 (x.aP kind data).1,w,.aA .i64 (x.aP kind data).2.2]/\jU L h r (x.aP kind data).2.1 w h'):=by
  intro o L0 H3 Le ho E X3 l3 I D0 k0 k1 k2 k7 k9 ep;rw[ep];have e1:x.aG.r=x:=rfl;simp only[mz,AC.aC,go_sem,k0,k9];refine fy ⟨u3.1,u3.2 H3 r o⟩ ?_;rintro _ H4 ⟨rfl,X4⟩;simp only[go_sem,k1,k2];obtain⟨H5,Z⟩:∃H5,H5=H4++[some (e_.aA 2 [[.aC r 21 0 0,.aC o 5 0 0]] false)]:=⟨_,rfl⟩;have X5:eW eZ H3 H5:=by rw[Z];exact X4.tr (eW.b1 _)
  have x4:=X4.1;have B5:H5[H4.length]?=some (some (e_.aA 2 [[.aC r 21 0 0,.aC o 5 0 0]] false)):=by rw[Z];exact gJ _ _
  have D5:=X5.aA D0;have a6:=I.up X5;obtain⟨n5,a7⟩:∃n5,n5=H4.length:=⟨_,rfl⟩;rw[<-Z,<-a7];rw[<-a7]at B5;clear Z;have zL:∀n,h.length<=n->n≠o->¬wA (L0 n):=λn hn a2=>by rw[E];show ¬wA (if n=o then 7 else L n);rw[U6 a2,hx.ge hn];exact jJ
  have a9:eW eZ h H5:=X3.tr X5;have ac:∀n,n<h.length->L0 n=L n:=λn hn=>by rw[E];exact U6 (by omega)
  subst ho;have d5:=ab a9 ac (a6.to (W:=wA) (Q:=eZ));have ly:=u4.2 (λn=>G n) L0 H5 r (h.length+1) x.aG k 0 kind data d a6 C (by omega) (mR _) (by omega) d5 u M;refine fy ⟨u4.1,ly⟩ ?_;rintro _ H6 ⟨rfl,T6⟩;have f6:(x.aG.aF kind data).r.aD (k+1):=fj.aD.aT (x:=x.aG) C (by omega) u M;have w6:(x.aG.aF kind data).aC 1:=RX.aC.aE (x:=x.aG) (mR _) kind data;have M6:=T6.aA (zL _ (by omega) (by omega)) (λz=>z) B5;simp only[go_sem,k0,M6];have ea:=fB.aD (Q':=eZ) T6 (eW.aC _ _) (λ_ _ y=>y) λL1 x1=>(Ch u6 u5 x1 f6 (by omega) w6 (by omega)).aA λ_ _ b=>b.aG m8;refine fy ⟨u6.1,ea⟩ ?_;intro _ H7 T7;have f7:(x.aG.aF kind data).on.r.aD (k+1):=(CN f6 w6).1;have M7:=T7.aA (zL _ (by omega) (by omega)) (λz=>z) B5;simp only[go_sem,M7];have se:=fB.aD (Q':=eZ) T7 (eW.aC _ _) (λ_ _ y=>y) λL1 x1=>u7.2 L1 H7 r _ _ (k+1) x1 f7 (by omega);refine fy ⟨u7.1,se⟩ ?_;intro _ H8 T8;have f8:(x.aG.aF kind data).on.aK.r.aD (k+1):=f7.aR;have M8:=T8.aA (zL _ (by omega) (by omega)) (λz=>z) B5;simp only[go_sem,M8];have en:=fB.aD (Q':=eZ) T8 (eW.aC _ _) (λ_ _ y=>y) λL1 x1=>u8.2 L1 H8 r _ _ (k+1) x1 f8 (by omega);refine fy ⟨u8.1,en⟩ ?_;intro _ H9 T9;have M9:=T9.aA (zL _ (U8 _) (by omega)) (λz=>z) D5;rw[E]at T9;have x5:=X5.1;obtain⟨ma,ca,aa,row,s1,s2,s3,out⟩:=T9.aM (n:=h.length) hx a9 (by omega) ⟨U8 _,by omega⟩ (by omega);have lh:=(UY.1 M9).1;have w0:(h.length+1=h.length)=False:=Vm (by omega);simp only[go_sem,k7,k9,row,M9,s1,s2,s3,lh];exact⟨_,rfl,out _⟩
 have e0:(mz f1 f2 f3 f4 f5 f6 f7 f8).aA=.aA (mz f1 f2 f3 f4 f5 f6 f7 f8).aA.hd (.aA (mz f1 f2 f3 f4 f5 f6 f7 f8).aA.tl.hd (.aA (mz f1 f2 f3 f4 f5 f6 f7 f8).aA.tl.tl.hd (.aA (mz f1 f2 f3 f4 f5 f6 f7 f8).aA.tl.tl.tl.hd (mz f1 f2 f3 f4 f5 f6 f7 f8).aA.tl.tl.tl.tl))):=rfl;rw[e0];generalize (mz f1 f2 f3 f4 f5 f6 f7 f8).aA.tl.tl.tl.tl=D at e ⊢;have a1:=e;simp only[mz]at a1;clear e;simp only[mz,AC.aH,AC.aC,go_sem];rw[<-hH];clear hH;refine fZ u1.1 (u1.2 G H data d (Rd.aE (λ_ y=>y) (X2.aE _) _ _ a8) u.1 (by omega)) ?_;simp only[go_sem,fq.aP,nH];obtain⟨cf,a3⟩:∃cf,cf=im data:=⟨_,rfl⟩;rw[<-a3];obtain⟨H3,O⟩:∃H3,H3=H++[some (e_.aA 3 [[ga cf.1.aA,ga cf.1.aC,ga cf.1.aD]] false)]:=⟨_,rfl⟩;have X3:eW eZ h H3:=by rw[O];exact X2.tr (eW.b1 _)
 have l3:H3.length=h.length+3:=by rw[O];simp[l2]
 have D0:H3[h.length]?=some (some (e_.aA 5 [[.aD,.aD,.aD,.aA .i64 0,.aE false]] false)):=by rw[O];exact (eW.b1 _).aA C0
 have D1:H3[h.length+1]?=some (some (e_.aA 5 [[.aD,.aD,.aD,.aA .i64 0,.aE false]] false)):=by rw[O];exact (eW.b1 _).aA C1
 rw[<-O];clear O;have I:=hx.aD X3 D1 (by omega);have hlr:=hx.lt;obtain⟨o,ho⟩:∃o,o=h.length+1:=⟨_,rfl⟩;obtain⟨L0,E⟩:∃L0:Nat->Nat,L0=λm=>if m=o then 7 else L m:=⟨_,rfl⟩
 rw[<-ho]at D1 I ⊢;rw[<-E]at I;have zL:∀n,h.length<=n->n≠o->L0 n=0:=λn hn a2=>by rw[E];show (if n=o then 7 else L n)=0;rw[U6 a2,hx.ge hn]
 obtain⟨g,ff,rr⟩:=I.aA;have e1:x.aG.r=x:=rfl;rw[e1]at rr;have a4:=rr;simp only[fj.aJ]at a4;have lh:=(UY.1 D0).1;have bad:jU L h r x.aG (.aF [.aD,.aD,.aD,.aA .i64 0,.aE false]) (H3.set h.length (some (.aA 5 [[.aD,.aD,.aD,.aA .i64 0,.aE false]] false))):=by rw[Ip D0];have T:=I.to (W:=wA) (Q:=eZ);rw[E]at T;obtain⟨ma,ca,aa,row,s1,s2,s3,out⟩:=T.aJ hx X3 (by omega);rw[row]at D1;simp only[U_,e_.aA.injEq,Wc]at D1;obtain⟨-,⟨⟨rfl,rfl,rfl,-⟩,-⟩,-⟩:=D1;exact out
 have w0:(o=h.length)=False:=Vm (by omega);simp only[go_sem,a4];by_cases c1:x.aI=2
 ·simp only[go_sem,U3 c1,VF];by_cases c2:¬kind=1/\¬kind=2
  ·have ep:x.aP kind data=(0,x.aG,13):=by unfold fj.aP;rw[U6 (by simpa using c1),U4 c2]
   rw[ep];simp only[go_sem,D0,D1,U2 c2.1,U2 c2.2,VN,lh];exact⟨_,rfl,bad⟩
  ·by_cases c3:kind=2/\¬cf.2=0
   ·have ep:x.aP kind data=(0,x.aG,4):=by unfold fj.aP;rw[U6 (by simpa using c1),U6 c2,<-a3,U4 c3]
    have ad:¬kind=1:=by rw[c3.1];decide
    rw[ep];simp only[go_sem,D0,D1,U2 ad,U3 c3.1,U2 c3.2,VN,VF,lh];exact⟨_,rfl,bad⟩
   ·have p1:x.aP kind data=if 2^40<=x.aL then (0,x.aG,17) else (x.aL+1,(((x.aG.aF kind data).on).aK).aA,0):=by unfold fj.aP;rw[U6 (by simpa using c1),U6 c2,<-a3,U6 c3]
    have eL:(2:Int)^40=1099511627776:=by decide
    rw[eL]at p1;have a5:=u2.2 H3 r x ⟨g,ff,rr⟩ (C.aD (by omega));by_cases k1':kind=1
    ·have U:¬kind=2:=by rw[k1'];decide
     simp only[go_sem,U3 k1',U2 U,VF];refine fZ u2.1 a5 ?_;by_cases c4:(1099511627776:Int)<=x.aL;·rw[U4 c4]at p1;rw[p1];simp only[go_sem,D0,D1,U3 c4,lh];exact⟨_,rfl,bad⟩
     ·rw[U6 c4]at p1;simp only[go_sem,U2 c4];refine a1 o L0 H3 _ ho E X3 (by omega) I D0 ?_ ?_ ?_ ?_ ?_ p1<;>simp[fm,g_]
    ·have U:kind=2:=Vb λz=>c2 ⟨k1',z⟩;have c0:cf.2=0:=Vb λz=>c3 ⟨U,z⟩;simp only[go_sem,U2 k1',U3 U,U3 c0,VN,VF];refine fZ u2.1 a5 ?_;by_cases c4:(1099511627776:Int)<=x.aL;·rw[U4 c4]at p1;rw[p1];simp only[go_sem,D0,D1,U3 c4,lh];exact⟨_,rfl,bad⟩
     ·rw[U6 c4]at p1;simp only[go_sem,U2 c4];refine a1 o L0 H3 _ ho E X3 (by omega) I D0 ?_ ?_ ?_ ?_ ?_ p1<;>simp[fm,g_]
 ·have ep:x.aP kind data=(0,x.aG,30):=by unfold fj.aP;rw[U4 (by simpa using c1)]
  rw[ep];simp only[go_sem,D0,D1,U2 c1,VN,lh];exact⟨_,rfl,bad⟩
theorem Iz {k:Nat}{x:fj}(h:x.aD k)(i:Int):ia (x.aA.aA.aH i):=by
 unfold fA.aH;split
 ·split;·exact h.aN.2.2
  ·split;·rename_i e he;exact (h.aH _ (WN he)).2.1
   ·exact⟨by omega,by omega⟩
 ·exact⟨by omega,by omega⟩
theorem FU {k:Nat}{x:fj}(h:x.aD k){index:Int}{snap:List Int}(hs:gF snap/\snap.length<=2^16)(h1:x.aA.aA.aA<index/\index<=x.aF){cf:fq}(hc:cf.aE=true):
  (x.aG.aQ index (x.aA.aA.aH index) cf snap).r.aD k:=by
 have ha:=h.aM;have hb:=h.aC;have hl:=h.aF;have hh:x.aA.aA.aF index=true:=ky.2 ⟨by omega,by omega⟩;have hi:0<=index/\index<=2^40+k:=⟨by omega,by omega⟩;obtain⟨-,-,-,-,-,-,s7⟩:=Dl h hi (Iz h index);have:=h.bt (c:=x.aE) (a:=x.aF) (cf:=cf) (snap:=snap) hi (Iz h index) hc hs ⟨h1.2,ha.2.1,by rw[s7 ⟨hh,rfl⟩];exact ha.2.2⟩;exact this
theorem SY (l:List fU){k:Int}(h:0<=k/\k<=l.length):ie 3 (jv l) none (some k) none=some (jv (l.take k.toNat)):=by rw[EJ,EJ];simp only[ie,V0,Vu,Vg];rw[U4 ⟨Vd,by omega,by omega,h.2,by omega,h.2⟩];simp[pM,Wv]
def wv (P:Program)(f:FuncId):Prop:=fK P f=true/\∀(L:Nat->Nat)(h:eX)(r:Nat)(x:fj)(k:Nat)(index:Int)(snap:List Int)(s:AV),iI L h r x->x.aD k->k<2^28->um L h (gq snap) s->gF snap/\snap.length<=2^16->
 fC P f [.aC r 21 0 0,.aA .i64 index,s] h λv h'=>∃w,v=.aI [w,.aA .i64 (x.aT index snap).2]/\jU L h r (x.aT index snap).1 w h'
theorem QQ {P:Program}{f f1 f2 f3 f4 f5:FuncId}(hf:Is P f (Bj f1 f2 f3 f4 f5))(u1:qM P f1)(u2:nQ P f2)(u3:rZ P f3)(u4:wu P f4)(u5:wy P f5):wv P f:=by
 refine⟨hf.2,λL h r x k index snap s hx hfit hk hd hsnap=>fS hf ?_⟩;obtain⟨G,hd1,hG⟩:=hd;obtain⟨H3,hH⟩:∃H,H=h++[some (e_.aA 5 [[.aD,.aD,.aD,.aA .i64 0,.aE false]] false)]++[some (e_.aA 5 [[.aD,.aD,.aD,.aA .i64 0,.aE false]] false)]:=⟨_,rfl⟩;have X3:eW eZ h H3:=by rw[hH];exact eW.b2 _ _
 have l3:H3.length=h.length+2:=by rw[hH];simp
 have D0:H3[h.length]?=some (some (e_.aA 5 [[.aD,.aD,.aD,.aA .i64 0,.aE false]] false)):=by rw[hH];exact jx _ _ _
 have D1:H3[h.length+1]?=some (some (e_.aA 5 [[.aD,.aD,.aD,.aA .i64 0,.aE false]] false)):=by rw[hH];exact iF _ _ _
 simp only[Bj,go_sem];rw[<-hH];clear hH;have hx0:=hx.aD X3 D1 (by omega);have hlr:=hx.lt;obtain⟨o,ho⟩:∃o,o=h.length+1:=⟨_,rfl⟩;obtain⟨L0,hL0⟩:∃L0:Nat->Nat,L0=λm=>if m=o then 7 else L m:=⟨_,rfl⟩
 rw[<-ho]at D1 hx0 ⊢;rw[<-hL0]at hx0;have zL0:∀n,h.length<=n->n≠o->L0 n=0:=λn hn hno=>by rw[hL0];show (if n=o then 7 else L n)=0;rw[U6 hno,hx.ge hn]
 have zL:∀n,h.length<=n->n≠o->¬wA (L0 n):=λn hn hno=>by rw[zL0 n hn hno];exact jJ
 obtain⟨g,ff,rr⟩:=hx0.aA;have e1:x.aG.r=x:=rfl;rw[e1]at rr;have rr':=rr;simp only[fj.aJ]at rr';have lr:=(UY.1 rr).1;have lh:=(UY.1 D0).1;have w0:(o=h.length)=False:=Vm (by omega);have bad:jU L h r x.aG (.aF [.aD,.aD,.aD,.aA .i64 0,.aE false]) (H3.set h.length (some (.aA 5 [[.aD,.aD,.aD,.aA .i64 0,.aE false]] false))):=by rw[Ip D0];have T:=hx0.to (W:=wA) (Q:=eZ);rw[hL0]at T;obtain⟨ma,ca,aa,row,s1,s2,s3,out⟩:=T.aJ hx X3 (by omega);rw[row]at D1;simp only[U_,e_.aA.injEq,Wc]at D1;obtain⟨-,⟨⟨rfl,rfl,rfl,-⟩,-⟩,-⟩:=D1;exact out
 have hat:=hfit.aM;have hb:=hfit.aC;have hl:=hfit.aF;simp only[go_sem,rr'];by_cases c1:index<=x.aA.aA.aA
 ·have ep:x.aT index snap=(x.aG,3):=by unfold fj.aT;rw[U4 (.inl c1)]
  rw[ep];simp only[go_sem,D0,D1,U3 c1,lh];exact⟨_,rfl,bad⟩
 ·by_cases c2:x.aF<index
  ·have ep:x.aT index snap=(x.aG,3):=by unfold fj.aT;rw[U4 (.inr c2)]
   rw[ep];simp only[go_sem,rr',D0,D1,U2 c1,U3 c2,lh];exact⟨_,rfl,bad⟩
  ·have hl2:x.aA.aA.aC=x.aA.aA.aA+x.aA.aA.es.length:=rfl;have ewi:IntKind.i64.wrap (index-x.aA.aA.aA)=index-x.aA.aA.aA:=gj (by omega);simp only[go_sem,rr',U2 c1,U2 c2,qA,nH,tX,ewi];rw[SY _ (by omega)];obtain⟨up,hup⟩:∃up:fF,up={x.aA with aA:={x.aA.aA with es:=x.aA.aA.es.take (index-x.aA.aA.aA).toNat}}:=⟨_,rfl⟩;have hupc:up.aD.aE=true:=by rw[hup];exact hfit.aE
   have hupR:up.aN:=by obtain⟨g1,g2,g3,g4⟩:=hfit.aJ (Nat.le_of_lt hk);rw[hup];exact⟨g1,by simp only[Va];omega,λe he=>g3 e (VR he),g4⟩
   have ep:x.aT index snap=((x.aG.aQ index (x.aA.aA.aH index) up.of.1 snap).aA,0):=by unfold fj.aT;rw[U6 (by omega)];subst hup;rfl
   rw[ep];have eset:∀a b:Option e_,(H3++[a]).set H3.length b=H3++[b]:=λa b=>by rw[W0 _ _ (U8 _)];simp
   have bget:∀a:Option e_,(H3++[a])[H3.length]?=some a:=λa=>by simp
   have blt:∀a:Option e_,H3.length<(H3++[a]).length:=λa=>by simp
   have hc5:=xQ up (H3++[some (e_.aA 10 [[AV.aA IntKind.i64 up.aE,AV.aA IntKind.i64 up.aC,AV.aA IntKind.i64 up.aF,AV.aA IntKind.i64 up.aA.aA,AV.aA IntKind.i64 up.aA.aD,jv up.aA.es,ga up.aD.aA,ga up.aD.aC,ga up.aD.aD,iS up.aG]] false)]);have ofc:=u1.2 eZ _ up _ hc5 hupR;rw[hup]at ofc;simp only at ofc;rw[<-hup]at ofc;obtain⟨H5,hH5⟩:∃H5,H5=H3++[some (e_.aA 10 [[AV.aA IntKind.i64 x.aA.aE,AV.aA IntKind.i64 x.aA.aC,AV.aA IntKind.i64 x.aA.aF,AV.aA IntKind.i64 x.aA.aA.aA,AV.aA IntKind.i64 x.aA.aA.aD,jv (x.aA.aA.es.take (index-x.aA.aA.aA).toNat),ga x.aA.aD.aA,ga x.aA.aD.aC,ga x.aA.aD.aD,iS x.aA.aG]] false)]:=⟨_,rfl⟩;have B5:H5[H3.length]?=some (some (e_.aA 10 [[AV.aA IntKind.i64 x.aA.aE,AV.aA IntKind.i64 x.aA.aC,AV.aA IntKind.i64 x.aA.aF,AV.aA IntKind.i64 x.aA.aA.aA,AV.aA IntKind.i64 x.aA.aA.aD,jv (x.aA.aA.es.take (index-x.aA.aA.aA).toNat),ga x.aA.aD.aA,ga x.aA.aD.aC,ga x.aA.aD.aD,iS x.aA.aG]] false)):=by rw[hH5];exact bget _
   have X5:eW eZ H3 H5:=by rw[hH5];exact eW.b1 _
   have l5:H5.length=H3.length+1:=by rw[hH5];simp
   simp only[go_sem,bget,eset];rw[<-hH5]at ofc ⊢;clear hH5;refine fZ u1.1 ofc ?_;obtain⟨cf,hcf⟩:∃cf,cf=up.of.1:=⟨_,rfl⟩;have hcfr:cf.aE=true:=by rw[hcf];exact (fF.aO hupc).1
   rw[<-hcf];obtain⟨H6,hH6⟩:∃H6,H6=H5++[some (e_.aA 3 [[ga cf.aA,ga cf.aC,ga cf.aD]] false)]:=⟨_,rfl⟩;have B6:H6[H5.length]?=some (some (e_.aA 3 [[ga cf.aA,ga cf.aC,ga cf.aD]] false)):=by rw[hH6];exact gJ _ _
   have X6:eW eZ H3 H6:=by rw[hH6];exact X5.tr (eW.b1 _)
   have rr6:=X6.aA rr';have l6:H6.length=H3.length+2:=by rw[hH6];simp[l5]
   simp only[go_sem,fq.aP,nH];rw[<-hH6];clear hH6;simp only[go_sem,rr6];refine fZ u2.1 (u2.2 eZ H6 x.aA.aA _ index (mX x.aA.aA H6) (hfit.aD (by omega))) ?_;simp only[go_sem];refine fy ⟨u3.1,u3.2 H6 r o⟩ ?_;rintro _ H7 ⟨rfl,X7⟩;have x7:=X7.1;simp only[go_sem];obtain⟨H8,hH8⟩:∃H8,H8=H7++[some (e_.aA 2 [[.aC r 21 0 0,.aC o 5 0 0]] false)]:=⟨_,rfl⟩;have B8:H8[H7.length]?=some (some (e_.aA 2 [[.aC r 21 0 0,.aC o 5 0 0]] false)):=by rw[hH8];exact gJ _ _
   have X8:eW eZ H3 H8:=by rw[hH8];exact (X6.tr X7).tr (eW.b1 _)
   have l8:H8.length=H7.length+1:=by rw[hH8];simp
   have C8:H8[H5.length]?=some (some (e_.aA 3 [[ga cf.aA,ga cf.aC,ga cf.aD]] false)):=by rw[hH8];exact (eW.b1 _).aA (X7.aA B6)
   rw[<-hH8];clear hH8;simp only[go_sem,C8];have D8:=X8.aA D0;have hx8:=hx0.up X8;have d8:Rd G H8 (gq snap) s:=Rd.aE (λ_ y=>y) ((X3.tr X8).aE _) _ _ hd1;have ba:=u4.2 G L0 H8 r o x.aG 0 index (x.aA.aA.aH index) cf _ snap s hx8 (hfit.aD (by omega)) (mR _) (by omega) (fu.aA (λ_ y=>y.elim) (λ_ hn=>hn.elim) _ _ (tP cf H8)) d8 (λn hn=>by have:=hG n hn;rw[hL0];show (if n=o then 7 else L n)=0;rw[U6 (by omega)];exact this.1) ((lA hcfr).le (by omega)) (by omega);refine fy ⟨u4.1,ba⟩ ?_;intro _ H9 T9;have M9:=T9.aA (zL _ (by omega) (by omega)) (λz=>z) B8;have E9:=T9.aA (zL _ (U8 _) (by omega)) (λz=>z) D8;simp only[go_sem,M9];have f9:=FU hfit (index:=index) (snap:=snap) hsnap (by omega) hcfr;have en:=fB.aD (Q':=eZ) T9 (eW.aC _ _) (λ_ _ y=>y) λL1 x1=>u5.2 L1 H9 r o _ k x1 f9 (by omega);refine fy ⟨u5.1,en⟩ ?_;intro _ H10 T10;have o10:=T10.aA (zL _ (U8 _) (by omega)) (λz=>z) D8;rw[hL0]at T10;obtain⟨ma,ca,aa,row,s1,s2,s3,out⟩:=T10.aM (n:=h.length) hx (X3.tr X8) (by have:=X8.1;omega) ⟨U8 _,by omega⟩ (by omega);have lh10:=(UY.1 o10).1;simp only[go_sem,row,o10,s1,s2,s3,lh10];exact⟨_,rfl,out _⟩

theorem Hv {F F':Nat->Prop}{h:eX}:∀{l:List fV} {es:List (List AV)},fY F h (l.map fV.c) es->fG (l.map fV.c) F' h es
 | [],es,hh=>by simpa [fY,fG] using hh
 | w :: l,es,hh=>by simp only[Vv,fY]at hh;obtain⟨a,r,rfl,h1,h2⟩:=hh;simp only[Vv,fG];exact⟨_,_,rfl,by rw[tQ h1];simp[fV.c,fV.aA,fI,eY],Hv h2⟩
def yv (P:Program)(f:FuncId):Prop:=
 fK P f=true/\∀(F:Nat->Prop)(h:eX)(l:List fV)(a:AV),Rd F h (jN l) a->l.length<=2^40->fC P f [a] h λr h'=>eY (jN l) (λm=>h.length<=m) h' r/\eW eZ h h'
theorem I4 {P:Program}{f:FuncId}(hf:Is P f xh)(hk:r_ P f):yv P f:=by
 refine⟨hf.2,λF h l a ha hl=>?_⟩;by_cases h0:l=[]
 ·subst h0;intro G w vs g hv;obtain⟨v,rfl,hV⟩:=CO hv;have hz:v=.slice none 0 0\/∃p c,v=.slice (some p) 0 c:=by
   simp only[jN,VO,Rd,fY]at ha;obtain⟨es,he,rfl⟩:=ha;rcases he with⟨rfl,_⟩ | ⟨t,c,rfl⟩ | ⟨n,off,len,cap,row,gr,rfl,_,C,a1,a3,E⟩
   ·cases hV;exact .inl rfl
   ·generalize hee:([]:List (List AV))=es at hV;cases hV with
    | aF=>exact .inl rfl
    | aE=>subst hee;exact .inr ⟨_,_,rfl⟩
   ·have h1:len=0:=by have:=W_ List.length E;simp at this;omega
    subst h1;cases hV with
    | aH=>exact .inl rfl
    | aC=>exact .inr ⟨_,_,rfl⟩
  rcases hz with rfl | ⟨p,c,rfl⟩
  ·have:fC P f [.aD] h λr h'=>eY (jN []) (λm=>h.length<=m) h' r/\eW eZ h h':=by refine fS hf ?_;have an:mP false .aD=some (.aE true):=rfl;simp only[xh,go_sem,tU,an];exact⟨eY.aD 4,eW.aC _ _⟩
   exact this G w _ g (CP .aO)
  ·refine (hk.aA p c w).mono ?_;rintro e w' ⟨a',c',rfl,U,hr,hs⟩;obtain⟨g',s'⟩:=g.aZ hr hs;refine⟨_,.aM 0 false 4 [],h,G,rfl,⟨?_,eW.aC _ _⟩,g',?_,s'⟩;·simp only[jN,VO,eY];exact .inr (.inl ⟨0,false,rfl,Vd⟩)
   ·exact V.aE (G:=G) (w:=w') 0 false 4 [] a' c' (λ_ _=>undef) (Vk _) (λe=>by cases e) (λ_=>U) (λZ=>absurd rfl Z) (λe he=>by simp at he) (λi j c hj=>by simp[gw]at hj) (λi j c hj=>by simp[gw]at hj)
 ·refine fS hf ?_;have an:mP false a=some (.aE false):=by
   have hpos:0<l.length:=W9.2 h0;simp only[jN,Rd]at ha;obtain⟨es,he,E⟩:=ha;have u:=kM E;rw[Vg]at u;rcases he with⟨rfl,rfl⟩ | ⟨t,c,rfl⟩ | ⟨n,off,len,cap,row,gr,rfl,_,C,a1,a3,rfl⟩;·simp at u;omega
   ·simp only[mP,oW,jW,VS];rw[U4 (by omega)];rfl
   ·simp only[Va,Vo]at u;simp only[mP,oW,jW,VS];rw[U4 (by omega)];rfl
  obtain⟨ys,M,O⟩:=(ha.up (eW.b1 (some (.aA 4 [] false)))).aH;obtain⟨o,h',a4,W,hc',a2⟩:=l_ (lo:=h.length) (sz:=4) (bytes:=32) (ds:=[]) (h0:=h++[some (.aA 4 [] false)]) (h:=h++[some (.aA 4 [] false)]) (av:=.aG h.length 4 0 0 (some 0))
   (by simp only[eY];exact .inr (.inr ⟨_,0,some 0,[],false,rfl,U8 _,gJ _ _,by simp,(λc hc=>by cases hc;simp),by simp[fG]⟩))
   ⟨[],false,gJ _ _,(λh=>by cases h),λc hc=>by cases hc;simp⟩ (eW.aC eZ _) (Hv O) (by simp) (by simp;omega)
  have I:=iv M 32 (.aG h.length 4 0 0 (some 0));rw[a4]at I;simp only[xh,go_sem,tU,an,I];exact⟨by simpa [jN] using W,(eW.b1 _).aJ a2 (λm hm hm'=>by omega)⟩
def pf (P:Program)(f:FuncId)(t:fj->Int):Prop:=fK P f=true/\∀(h:eX)(r:Nat)(x:fj),mv h r x->fC P f [.aC r 21 0 0] h λres h'=>res=.aA .i64 (t x)/\h'=h
theorem RZ {P:Program}{f:FuncId}(hf:Is P f Bm):pf P f fj.aI:=by refine⟨hf.2,λh r x ⟨g,ff,rr⟩=>fS hf ?_⟩;simp only[fj.aJ]at rr;simp only[Bm,go_sem,rr]
theorem QP {P:Program}{f:FuncId}(hf:Is P f Bi):pf P f fj.aE:=by refine⟨hf.2,λh r x ⟨g,ff,rr⟩=>fS hf ?_⟩;simp only[fj.aJ]at rr;simp only[Bi,go_sem,rr]
def yU (P:Program)(f:FuncId):Prop:=fK P f=true/\∀(L:Nat->Nat)(h:eX)(r:Nat)(x:fj),iI L h r x->x.aC.length<=2^20->fC P f [.aC r 21 0 0] h λres h'=>eY (jN x.aC) (λm=>h.length<=m) h' res/\eW eZ h h'
theorem Ry {P:Program}{f g:FuncId}(hf:Is P f (Bk g))(hg:yv P g):yU P f:=by refine⟨hf.2,λL h r x hx hl=>fS hf ?_⟩;obtain⟨gg,ff,ra⟩:=hx.r;have rr:=ra.aA;have u:=eY.rd _ (F':=λm=>L m=2) (λ_ y=>y) _ ra.fo;simp only[fj.aJ]at rr;simp only[Bk,go_sem,rr];refine fy ⟨hg.1,hg.2 _ h x.aC ff u (by omega)⟩ ?_;rintro v h' ⟨o,e⟩;simp only[go_sem];exact⟨o,e⟩
theorem SZ (l:fA):l.aJ (l.aA+1) l.es.length=l.es:=by
 unfold fA.aJ;by_cases c:l.es.length=0;·have:l.es=[]:=List.length_eq_zero_iff.1 c;simp[this]
 ·rw[U6 (by unfold fA.aC;omega)];rw[show (l.aA+1-l.aA-1).toNat=0 by omega];simp
def uz (P:Program)(f:FuncId):Prop:=fK P f=true/\∀(F:Nat->Prop)(h:eX)(x:fF)(a:List AV),fu F h x.c a->jL x.aA->x.aD.aG (2^40)->x.aG.length<=2^40->(x.aA.es.length<=2^40/\(0<=x.aA.aA/\x.aA.aA<=2^60))->
 fC P f [.aF a] h λv h'=>∃b,v=.aF b/\fI x.c (λm=>h.length<=m) h' b/\eW eZ h h'
theorem Rz {P:Program}{f f1 f2 f3:FuncId}(hf:Is P f (BH f1 f2 f3))(u1:nP P f1)(u2:sw P f2)(u3:qF P f3):uz P f:=by
 refine⟨hf.2,λF h x a ha E hc hs hb=>fS hf ?_⟩;obtain⟨e,o,n,l,s,rfl,he,ho,hn,hl,O⟩:=lO ha;obtain⟨H,hH⟩:∃H,H=h++[some (e_.aA 10 [[.aA .i64 x.aE,.aA .i64 x.aC,.aA .i64 x.aF,.aA .i64 x.aA.aA,.aA .i64 x.aA.aD,e,o,n,l,s]] false)]++[some (e_.aA 10 [[.aA .i64 0,.aA .i64 0,.aA .i64 0,.aA .i64 0,.aA .i64 0,.aD,.aD,.aD,.aD,.aD]] false)]:=⟨_,rfl⟩;have X1:eW eZ h H:=by rw[hH];exact eW.b2 _ _
 have lH:H.length=h.length+2:=by rw[hH];simp
 have C0:H[h.length]?=some (some (e_.aA 10 [[.aA .i64 x.aE,.aA .i64 x.aC,.aA .i64 x.aF,.aA .i64 x.aA.aA,.aA .i64 x.aA.aD,e,o,n,l,s]] false)):=by rw[hH];exact jx _ _ _
 have C1:H[h.length+1]?=some (some (e_.aA 10 [[.aA .i64 0,.aA .i64 0,.aA .i64 0,.aA .i64 0,.aA .i64 0,.aD,.aD,.aD,.aD,.aD]] false)):=by rw[hH];exact iF _ _ _
 have len:ik e=some (.aA .i64 x.aA.es.length):=by have:=he.aC;simpa [gK] using this
 have ew:IntKind.i64.wrap (x.aA.aA+1)=x.aA.aA+1:=gj (by omega);have rl:fu F H x.aA.c [.aA .i64 x.aA.aA,.aA .i64 x.aA.aD,e]:=by have a7:=he.up X1;simp only[fA.c,fu,Rd];exact⟨_,_,rfl,rfl,_,_,rfl,rfl,_,_,rfl,a7,rfl⟩
 simp only[BH,fF.aH,go_sem,he.aA,ho.aA,hn.aA,hl.aA,O.aA];rw[<-hH];clear hH;simp only[go_sem,len,ew];have sl:=u1.2 F H x.aA _ (x.aA.aA+1) x.aA.es.length rl E;rw[SZ]at sl;refine fy ⟨u1.1,sl⟩ ?_;rintro e1 H2 ⟨oe,-,X2⟩;have D0:=X2.aA C0;have D1:=X2.aA C1;have x2:=X2.1;have M:h.length<H2.length:=by omega
 have l21:h.length+1<H2.length:=by omega
 simp only[go_sem,D0,oe.aA,gz oe.aA,M];obtain⟨H3,C⟩:∃H3,H3=H2.set h.length (some (e_.aA 10 [[.aA .i64 x.aE,.aA .i64 x.aC,.aA .i64 x.aF,.aA .i64 x.aA.aA,.aA .i64 x.aA.aD,e1,o,n,l,s]] false)):=⟨_,rfl⟩;have X3:eW eZ h H3:=by rw[C];exact (X1.tr X2).aG (U8 _) _
 have K3:∀m,m≠h.length->H3[m]?=H2[m]?:=λm hm=>by rw[C];exact UZ (λz=>hm z.symm)
 have l3:H3.length=H2.length:=by rw[C];simp
 have E0:H3[h.length]?=some (some (e_.aA 10 [[.aA .i64 x.aE,.aA .i64 x.aC,.aA .i64 x.aF,.aA .i64 x.aA.aA,.aA .i64 x.aA.aD,e1,o,n,l,s]] false)):=by rw[C];exact U5 M
 have E1:=(K3 (h.length+1) (by omega)).trans D1;have a1:eY (gK x.aA.es) (λm=>H.length<=m) H3 e1:=eY.aC _ (λ_ y=>y) (λm hm y hy=>(K3 m (by omega)).trans hy) _ oe;rw[<-C];clear C;have rc:fu F H3 x.aD.c [o,n,l]:=by simp only[fq.c,fu];exact⟨_,_,rfl,ho.up X3,_,_,rfl,hn.up X3,_,_,rfl,hl.up X3,rfl⟩
 refine fy ⟨u2.1,u2.2 F H3 x.aD _ rc hc⟩ ?_;rintro _ H4 ⟨o1,n1,c1,rfl,oo,on,oc,X4⟩;have x4:=X4.1;have F0:=X4.aA E0;have F1:=X4.aA E1;have I:h.length<H4.length:=by omega
 simp only[go_sem,F0,oo.aA,on.aA,oc.aA,I];obtain⟨H5,u⟩:∃H5,H5=H4.set h.length (some (e_.aA 10 [[.aA .i64 x.aE,.aA .i64 x.aC,.aA .i64 x.aF,.aA .i64 x.aA.aA,.aA .i64 x.aA.aD,e1,o1,n1,c1,s]] false)):=⟨_,rfl⟩;have X5:eW eZ h H5:=by rw[u];exact (X3.tr X4).aG (U8 _) _
 have K5:∀m,m≠h.length->H5[m]?=H4[m]?:=λm hm=>by rw[u];exact UZ (λz=>hm z.symm)
 have l5:H5.length=H4.length:=by rw[u];simp
 have G0:H5[h.length]?=some (some (e_.aA 10 [[.aA .i64 x.aE,.aA .i64 x.aC,.aA .i64 x.aF,.aA .i64 x.aA.aA,.aA .i64 x.aA.aD,e1,o1,n1,c1,s]] false)):=by rw[u];exact U5 I
 have G1:=(K5 (h.length+1) (by omega)).trans F1;have k5:∀lo,h.length+2<=lo->∀{d:D}{a:AV},eY d (λm=>lo<=m) H4 a->eY d (λm=>lo<=m) H5 a:=λlo a6 d a z=>eY.aC _ (λ_ y=>y) (λm hm y hy=>(K5 m (by omega)).trans hy) _ z;have Z:=k5 _ (by omega) (eY.aC _ (λ_ y=>y) (X4.aE _) _ a1);have U:=k5 _ (by omega) oo;have W:=k5 _ (by omega) on;have a2:=k5 _ (by omega) oc;rw[<-u];clear u;refine fy ⟨u3.1,u3.2 F H5 x.aG s (O.up X5) hs⟩ ?_;rintro s1 H6 ⟨os,X6⟩;have x6:=X6.1;have I0:=X6.aA G0;have I1:=X6.aA G1;have a5:h.length<H6.length:=by omega
 have a4:h.length+1<H6.length:=by omega
 have a3:(h.length=h.length+1)=False:=Vm (by omega);simp only[go_sem,I0,I1,oe.aA,oo.aA,on.aA,oc.aA,os.aA,gz os.aA,a5,a4,a3,U9];refine⟨_,rfl,?_,?_⟩
 ·have k6:∀{d:D}{a:AV},eY d (λm=>h.length+2<=m) H6 a->eY d (λm=>h.length<=m) ((H6.set h.length (some (e_.aA 10 [[.aA .i64 x.aE,.aA .i64 x.aC,.aA .i64 x.aF,.aA .i64 x.aA.aA,.aA .i64 x.aA.aD,e1,o1,n1,c1,s1]] false))).set (h.length+1) (some (e_.aA 10 [[.aA .i64 x.aE,.aA .i64 x.aC,.aA .i64 x.aF,.aA .i64 x.aA.aA,.aA .i64 x.aA.aD,e1,o1,n1,c1,s1]] false))) a:=
   λz=>eY.aC _ (λm hm=>by omega) (λm hm y hy=>(UZ (by omega)).trans ((UZ (by omega)).trans hy)) _ z
  have w6:∀lo,h.length+2<=lo->∀{d:D}{a:AV},eY d (λm=>lo<=m) H5 a->eY d (λm=>h.length+2<=m) H6 a:=λlo a6 d a z=>eY.aC _ (λm hm=>by omega) (X6.aE _) _ z;simp only[fF.c,fI,eY];exact⟨_,_,rfl,rfl,_,_,rfl,rfl,_,_,rfl,rfl,_,_,rfl,rfl,_,_,rfl,rfl,_,_,rfl,k6 (w6 _ (by omega) Z),_,_,rfl,k6 (w6 _ (by omega) U),_,_,rfl,k6 (w6 _ (by omega) W),_,_,rfl,k6 (w6 _ (by omega) a2),_,_,rfl,k6 (eY.aC _ (λm hm=>by omega) (λ_ _ _ y=>y) _ os),rfl⟩
 ·exact ((X5.tr X6).aG (U8 _) _).aG (by omega) _
def Ep (P:Program)(f:FuncId):Prop:=fK P f=true/\∀(F:Nat->Prop)(h:eX)(x:fF)(a:List AV),fu F h x.c a->jL x.aA->x.aD.aG (2^40)->x.aG.length<=2^40->(x.aA.es.length<=2^40/\(0<=x.aA.aA/\x.aA.aA<=2^60))->
 fC P f [.aF a] h λv h'=>v=.aF x.v/\h'=h
theorem uz.p {P:Program}{f:FuncId}(hc:uz P f):Ep P f:=⟨hc.1,λF h x a ha h1 h2 h3 h4=>(hc.2 F h x a ha h1 h2 h3 h4).aC λ_ _ ⟨b,e,o,X⟩=>⟨X,_,e▸gU.aA (ds:=x.c) (fI.fz _ (λ_ x=>x) _ o),rfl⟩⟩
def wB (P:Program)(f:FuncId):Prop:=fK P f=true/\∀(h:eX)(r:Nat)(x:fj),mv h r x->jL x.aA.aA->x.aA.aD.aG (2^40)->x.aA.aG.length<=2^40->(x.aA.aA.es.length<=2^40/\(0<=x.aA.aA.aA/\x.aA.aA.aA<=2^60))->
 fC P f [.aC r 21 0 0] h λv h'=>∃b,v=.aF b/\fI x.aA.c (λm=>h.length<=m) h' b/\eW eZ h h'
theorem RB {P:Program}{f g:FuncId}(hf:Is P f (Bl g))(hg:uz P g):wB P f:=by
 refine⟨hf.2,λh r x ⟨gg,ff,rr⟩ h1 h2 h3 h4=>fS hf ?_⟩;have e:=rr;simp only[fj.aJ]at e;have lr:=(UY.1 rr).1;have R1:∀a,(h++[a])[r]?=_:=λa=>(eW.b1 a).aA e;obtain⟨H,hH⟩:∃H,H=h++[some (e_.aA 10 [[.aA .i64 0,.aA .i64 0,.aA .i64 0,.aA .i64 0,.aA .i64 0,.aD,.aD,.aD,.aD,.aD]] false)]:=⟨_,rfl⟩;have X1:eW eZ h H:=by rw[hH];exact eW.b1 _
 have lH:H.length=h.length+1:=by rw[hH];simp
 have C0:H[h.length]?=some (some (e_.aA 10 [[.aA .i64 0,.aA .i64 0,.aA .i64 0,.aA .i64 0,.aA .i64 0,.aD,.aD,.aD,.aD,.aD]] false)):=by rw[hH];exact gJ _ _
 simp only[Bl,go_sem,R1];rw[<-hH];clear hH R1;have fr:=hg.2 eZ H x.aA _ (xQ x.aA H) h1 h2 h3 h4;refine fy ⟨hg.1,fr⟩ ?_;rintro _ H2 ⟨b,rfl,o,X2⟩;have x2:=X2.1;have D0:=X2.aA C0;have l2:h.length<H2.length:=by omega
 obtain⟨e1,o1,n1,c1,s1,rfl,he,ho,hn,hl,u⟩:=lO (fI.rd _ (F':=λm=>H.length<=m) (λ_ y=>y) _ o);simp only[fF.aH]at o ⊢;simp only[go_sem,D0,he.aA,ho.aA,hn.aA,hl.aA,u.aA,l2];refine⟨_,rfl,?_,(X1.tr X2).aG (U8 _) _⟩;exact fI.aA _ (λm hm=>by omega) (λm hm y hy=>(UZ (by omega)).trans hy) _ o
def qQ (P:Program)(f:FuncId):Prop:=fK P f=true/\∀(F:Nat->Prop)(h:eX)(id:Int)(x:fF)(a:List AV)(draw:Int),fu F h x.c a->jL x.aA->x.aD.aG (2^40)->x.aG.length<=2^40->(x.aA.es.length<=2^40/\(0<=x.aA.aA/\x.aA.aA<=2^60))->
 fC P f [.aA .i64 id,.aF a,.aA .i64 draw] h λv h'=>∃r,v=.aC r 21 0 0/\h.length<=r/\h'[r]?=some (some (.aA 21 [(fj.aQ id x draw).aJ .aD .aD] false))/\eW eZ h h'
theorem RT {P:Program}{f f1 f2:FuncId}(hf:Is P f (Bh f1 f2))(u1:Ep P f1)(u2:wI P f2):qQ P f:=by
 refine⟨hf.2,λF h id x a C ha h1 h2 h3 h4=>fS hf ?_⟩;obtain⟨e,o,n,l,s,rfl,he,ho,hn,hl,I⟩:=lO ha;obtain⟨H,hH⟩:∃H,H=h++[some (e_.aA 10 [[.aA .i64 x.aE,.aA .i64 x.aC,.aA .i64 x.aF,.aA .i64 x.aA.aA,.aA .i64 x.aA.aD,e,o,n,l,s]] false)]:=⟨_,rfl⟩;have X1:eW eZ h H:=by rw[hH];exact eW.b1 _
 have C0:H[h.length]?=some (some (e_.aA 10 [[.aA .i64 x.aE,.aA .i64 x.aC,.aA .i64 x.aF,.aA .i64 x.aA.aA,.aA .i64 x.aA.aD,e,o,n,l,s]] false)):=by rw[hH];exact gJ _ _
 have lH:H.length=h.length+1:=by rw[hH];simp
 have E:=ha.up (X1.tr (eW.b1 none));simp only[fF.aH]at E;have fr:=u1.2 F (H++[none]) x _ E h1 h2 h3 h4;simp only[Bh,fF.aH,go_sem,he.aA,ho.aA,hn.aA,hl.aA,I.aA];rw[<-hH];clear hH;have C1:(H++[none])[h.length]?=_:=(eW.b1 none).aA C0;have u:∀a b:Option e_,(H++[a]).set (h.length+1) b=H++[b]:=λa b=>by rw[W0 _ _ (by omega),lH];simp
 have C2:(H++[none])[h.length+1]?=some none:=by rw[<-lH];exact gJ _ _
 have l2:h.length+1<(H++[none]).length:=by simp[lH]
 refine fZ u1.1 fr ?_;simp only[go_sem,C1,C2];refine fZ u2.1 (u2.2 _ C) ?_;simp only[go_sem,C1,C2,fF.aM,qA,nH,tX,u];refine⟨_,rfl,by omega,?_,X1.tr (eW.b1 _)⟩;rw[<-lH];exact gJ _ _
theorem CI {h:eX}{r:Nat}{id e:Int}{x:fF} (hr:h[r]?=some (some (.aA 21 [(fj.aQ id x e).aJ .aD .aD] false))):iI (λm=>if m=r then 6 else 0) h r (fj.aQ id x e):=by
 refine⟨⟨.aD,.aD,hr,eY.aD 1,Vd,eY.aD 4,Vd,U4 rfl⟩,λm hm=>?_⟩;by_cases c:m=r;·subst c;exact⟨(UY.1 hr).1,.inr (.inr (U4 rfl))⟩
 ·exact absurd (U6 c) hm
structure Eu (A B C:Nat->Prop)(h:eX)(x:mu)(v:AV):Prop where
 ex:∃ma ca aa,v=.aF [ma,ca,aa,.aA .i64 x.aE,.aE x.aA]/\eY (td x.aD) A h ma/\eY (nS x.aC) B h ca/\eY (gK x.aF) C h aa/\gV h ma/\gV h ca
def l9 (L:Nat->Nat):Nat->Nat:=λm=>if L m=1\/L m=2\/L m=6 then L m else 0
theorem jU.aA {L h r x0 x v h'}(a:iI L h r x0)(b:jU L h r x v h'):∃L',iI (l9 L') h' r x.r/\(∀m,m<h.length->l9 L' m=L m) /\
  Eu (λm=>(h.length<=m/\m<h'.length)/\L' m=3) (λm=>(h.length<=m/\m<h'.length)/\L' m=4) (λm=>(h.length<=m/\m<h'.length)/\L' m=5) h' x.o v/\eW (λm=>wA (L m)) h h':=by
 obtain⟨L',o,ma,ca,aa,rfl,⟨g,f,ra⟩,oa,hl,ho,he,hx⟩:=b;have k1:∀m,L' m=1->l9 L' m=L' m:=λm e=>by unfold l9;rw[U4 (.inl e)]
 have k2:∀m,L' m=2->l9 L' m=L' m:=λm e=>by unfold l9;rw[U4 (.inr (.inl e))]
 have k6:∀m,L' m=6->l9 L' m=L' m:=λm e=>by unfold l9;rw[U4 (.inr (.inr e))]
 have kk:∀m,l9 L' m≠0->L' m=1\/L' m=2\/L' m=6:=λm e=>by unfold l9 at e;exact Vb λz=>e (U6 z)
 have u:∀k,k=3\/k=4\/k=5->∀m,L' m=k->(h.length<=m/\m<h'.length)/\L' m=k:=by intro k hk m e;refine⟨⟨?_,hl m (by omega)⟩,e⟩;apply Vb;intro z;have e1:=he m (by omega);have e2:=(a.aA m (by omega)).2;omega
 refine⟨L',⟨⟨g,f,?_⟩,λm hm=>?_⟩,λm hm=>?_,⟨ma,ca,aa,rfl,?_,?_,?_,oa.mc,oa.cc⟩,hx⟩;·exact⟨ra.aA,eY.aC _ (λm e=>by rw[k1 m e];exact e) (λ_ _ _ y=>y) _ ra.go,ra.gc,eY.aC _ (λm e=>by rw[k2 m e];exact e) (λ_ _ _ y=>y) _ ra.fo,ra.fc,by rw[k6 _ ra.lr];exact ra.lr⟩
 ·have e:=kk m hm;refine⟨hl m (by omega),?_⟩;unfold l9;rw[U4 e];exact e
 ·by_cases c:L' m=1\/L' m=2\/L' m=6
  ·unfold l9;rw[U4 c];exact he m hm
  ·have e1:=he m hm;unfold l9;rw[U6 c];apply Vb;intro z;have e2:=(a.aA m (by omega)).2;omega
 ·exact eY.aC _ (u 3 (by omega)) (λ_ _ _ y=>y) _ oa.m
 ·exact eY.aC _ (u 4 (by omega)) (λ_ _ _ y=>y) _ oa.c
 ·exact eY.aC _ (u 5 (by omega)) (λ_ _ _ y=>y) _ oa.a
theorem iI.up {L h r x h'}(a:iI L h r x)(hx:eW eZ h h'):iI L h' r x:=by obtain⟨⟨g,f,ra⟩,lab⟩:=a;exact⟨⟨g,f,ra.aC (λ_ _ _=>rfl) λm hm _=>hx.2 m hm (λy=>y)⟩,λm hm=>⟨by have:=(lab m hm).1;have:=hx.1;omega,(lab m hm).2⟩⟩
theorem iI.aC {L h r x h'}(a:iI L h r x)(hl:h.length<=h'.length) (hk:∀m,L m≠0->h'[m]?=h[m]?):iI L h' r x:=by obtain⟨⟨g,f,ra⟩,lab⟩:=a;refine⟨⟨g,f,ra.aC (λ_ _ _=>rfl) λm hm e=>hk m (by rcases e with e | e | e<;>omega)⟩,λm hm=>⟨by have:=(lab m hm).1;omega,(lab m hm).2⟩⟩
theorem iI.aE {L h r x}(a:iI L h r x):mv h r x:=let⟨g,f,ra⟩:=a.r;⟨g,f,ra.aA⟩
abbrev Jx:=yC
abbrev Jw:=yB
end Glb
