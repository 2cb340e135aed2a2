/-
  A library of its own.
-/
import Derived.Test.YtdeiamnhnfmilaaGreatGlbRafD
set_option linter.unusedSimpArgs false
set_option linter.unusedVariables false
set_option maxRecDepth 10000
set_option maxHeartbeats 8000000
namespace Glb
open Go
def tO (P:Program)(f:FuncId):Prop:=fI P f=true/\∀(L:Nat->Nat)(h:eZ)(r:Nat)(x:fm)(k:Nat)(draw:Int),iu L h r x->x.aD k->k+2<2^28->
 fy P f [.aC r 21 0 0,.aA .i64 draw] h λv h'=>jI L h r (x.aQ draw) v h'
theorem SG {P:Program}{f f1 f2 f3 f4 f5 f6 f7:FuncId}(hf:vT P f (pO f1 f2 f3 f4 f5 f6 f7))(u1:p8 P f1)(u2:v8 P f2)(u3:pA P f3)(u4:oB P f4)(u5:tV P f5)(u6:oJ P f6)(u7:yL P f7):tO P f:=by
 refine⟨hf.1,λL h r x k draw hx hfit hk=>GJ hf.2 (Wd rfl) ?_⟩;show nV P (pO f1 f2 f3 f4 f5 f6 f7).aA ⟨[(0,.aC r 21 0 0),(1,.aA .i64 draw)],[],h⟩ (pD P (pO f1 f2 f3 f4 f5 f6 f7).aB _);simp only[pO,go_sem];refine fq ⟨u1.1,u1.2 _ r h.length⟩ ?_;rintro _ H3 ⟨rfl,X3⟩;simp only[go_sem];obtain⟨H,hH⟩:∃H,H=H3++[some (fh.aA 2 [[.aC r 21 0 0,.aC h.length 5 0 0]] false)]:=⟨_,rfl⟩;obtain⟨n5,hn5⟩:∃n5,n5=H3.length:=⟨_,rfl⟩;have l3:=X3.1;simp only[Vj,VD,VN]at l3;have X:eY fj h H:=by rw[hH];exact ((eY.b1 _).tr X3).tr (eY.b1 _)
 have B1:H[h.length]?=some (some (fh.aA 5 [[.aB,.aB,.aB,.aA .i64 0,.aD false]] false)):=by rw[hH];exact (eY.b1 _).aA (X3.aA (gh _ _))
 have B5:H[n5]?=some (some (fh.aA 2 [[.aC r 21 0 0,.aC h.length 5 0 0]] false)):=by rw[hH,hn5];exact gh _ _
 have n5l:h.length+1<=n5:=by omega
 rw[<-hH,<-hn5];clear hH;have hx0:=hx.aB X B1 (Vg _);have hlr:=hx.lt;obtain⟨o,ho⟩:∃o,o=h.length:=⟨_,rfl⟩;obtain⟨L0,hL0⟩:∃L0:Nat->Nat,L0=λm=>if m=o then 7 else L m:=⟨_,rfl⟩
 rw[<-ho]at B1 B5 hx0 ⊢;rw[<-hL0]at hx0;have zL:∀n,h.length<=n->n≠o->¬wA (L0 n):=λn hn hno=>by rw[hL0];show ¬wA (if n=o then 7 else L n);rw[Ve hno,hx.ge hn];exact iZ
 have fin:∀(Le:fY)(H':eZ)(y:RX),x.aQ draw=y.aD->y.r.aD (k+2)->lk 4 Le=.aC o 5 0 0->fF wA fj L0 H r o y H'->
   sj P f2 [.aE [.aC r 21 0 0,.aC o 5 0 0]] H' (sJ (pO f1 f2 f3 f4 f5 f6 f7).aB Le λv h'=>jI L h r (x.aQ draw) v h'):=by
  intro Le H' y ey yf k4 T;obtain⟨L1,x1,l1,e1⟩:=T;refine Cq ⟨u2.1,u2.2 L1 H' r o y (k+2) x1 yf (by omega)⟩ ?_;intro _ h'' T2;have T3:=fF.aE l1 e1 (λ_ _ y=>y) T2;rw[hL0]at T3;obtain⟨ma,ca,aa,row,s1,s2,s3,out⟩:=T3.aI hx X (by omega);rw[ey];simp only[pO,go_sem,k4,row];exact out
 simp only[pO]at fin;obtain⟨g,ff,rr⟩:=hx0.aA;have e1:x.aC.r=x:=rfl;rw[e1]at rr;have rr':=rr;simp only[fm.aJ]at rr';have lr:=(U_.1 rr).1;have w5:(r=n5)=False:=Vs (by omega);have w0:(n5=r)=False:=Vs (by omega);have hb:=hfit.aY;have he:=hfit.aZ;have ewb:IntKind.i64.wrap (x.aN+1)=x.aN+1:=fQ (by omega);have ewe:IntKind.i64.wrap (x.aF+1)=x.aF+1:=fQ (by omega);simp only[go_sem,rr'];by_cases c1:x.aM=2
 ·simp only[go_sem,rr',Vc c1,lr,ewb];by_cases c2:2<=x.aN+1
  ·have et:x.aQ draw=(({x with aN:=0}:fm).aC.on).aD:=by unfold fm.aQ;rw[Vf c1,Vf c2]
   have T1:=fF.aG (R:=x) (out:=hM.aE) (R':={x with aN:=0}) (hx0.to (W:=wA) (Q:=fj)) rr rfl rfl (λ_ z=>z);simp only[fm.aJ]at T1;simp only[go_sem,rr',B5,Vc c2,lr,w5,V8];have f0:({x with aN:=0}:fm).aD k:=by obtain⟨g1,g2,g3,g4,g5,g6,g7,g8,g9,g10,g11,g12,g13,g14,g15⟩:=hfit;exact⟨g1,g2,g3,g4,g5,g6,g7,g8,g9,g10,⟨Wm _,by show (0:Int)<=1;omega⟩,g12,g13,g14,g15⟩
   have ech:=fF.aC (Q':=fj) T1 (eY.aC _ _) (λ_ _ y=>y) λL1 x1=>(xd u4 u3 x1 f0 (by omega) (iM _) (by omega)).aA λ_ _ b=>b.aF me;refine fq ⟨u4.1,ech⟩ ?_;intro _ H4 T4;simp only[go_sem];exact fin _ H4 _ et ((sN (x:=({x with aN:=0}:fm).aC) f0 (iM _)).1.aA (by omega)) (by simp[fi]) T4
  ·have et:x.aQ draw=(({x with aN:=x.aN+1}:fm).aC).aD:=by unfold fm.aQ;rw[Vf c1,Ve c2]
   have T1:=fF.aG (R:=x) (out:=hM.aE) (R':={x with aN:=x.aN+1}) (hx0.to (W:=wA) (Q:=fj)) rr rfl rfl (λ_ z=>z);simp only[fm.aJ]at T1;simp only[go_sem,Va c2];refine fin _ _ _ et ?_ (by simp[fi]) T1;obtain⟨g1,g2,g3,g4,g5,g6,g7,g8,g9,g10,g11,g12,g13,g14,g15⟩:=hfit.aA (show k<=k+2 by omega);exact⟨g1,g2,g3,g4,g5,g6,g7,g8,g9,g10,⟨by show 0<=x.aN+1;omega,by show x.aN+1<=1;omega⟩,g12,g13,g14,g15⟩
 ·have T1:=fF.aG (R:=x) (out:=hM.aE) (R':={x with aF:=x.aF+1}) (hx0.to (W:=wA) (Q:=fj)) rr rfl rfl (λ_ z=>z);have r1:(H.set r (some (.aA 21 [({x with aF:=x.aF+1}:fm).aJ g ff] false)))[r]?=some (some (.aA 21 [({x with aF:=x.aF+1}:fm).aJ g ff] false)):=Vd lr;simp only[fm.aJ]at T1 r1;have f1:({x with aF:=x.aF+1}:fm).aD (k+1):=by obtain⟨g1,g2,g3,g4,g5,g6,g7,g8,g9,g10,g11,g12,g13,g14,g15⟩:=hfit.aA (WB k);exact⟨g1,g2,g3,g4,g5,g6,g7,g8,g9,⟨by show 0<=x.aF+1;omega,by show x.aF+1<=((k+1:Nat):Int);omega⟩,g11,g12,g13,g14,g15⟩
  simp only[go_sem,rr',Va c1,lr,Vh,ewe];have lr1:r<(H.set r (some (.aA 21 [({x with aF:=x.aF+1}:fm).aJ g ff] false))).length:=by rw[Vh];exact lr
  have F5:=T1.aA (zL n5 (by omega) (by omega)) (λz=>z) B5;obtain⟨s,hs⟩:∃s:fm,s={x with aF:=x.aF+1}:=⟨_,rfl⟩;have et:x.aQ draw=(if s.aT<=s.aF/\s.aV s.id=true/\s.aA.aB<2^40/\s.aK<2^40 then s.aC.aW draw else s.aC).aD:=by rw[hs];unfold fm.aQ;rw[Ve c1]
  have eq1:s.aT=x.aT/\s.aF=x.aF+1/\s.id=x.id/\s.aA=x.aA:=by rw[hs];exact⟨rfl,rfl,rfl,rfl⟩
  obtain⟨q1,q2,q3,q4⟩:=eq1;have eb:({r:={x with aF:=x.aF+1},o:=hM.aE}:RX)=s.aC:=by rw[hs];rfl
  rw[<-hs]at f1;rw[eb]at T1;generalize hH1:H.set r _=H1 at *;have rw1:nP H1 r s:=T1.aD;have no:¬(s.aT<=s.aF/\s.aV s.id=true/\s.aA.aB<2^40/\s.aK<2^40)->x.aQ draw=s.aC.aD:=λc=>by rw[et,Ve c]
  have eL:(2:Int)^40=1099511627776:=by decide
  rw[q1,q2,q3,q4,eL]at no et;by_cases c2:x.aT<=x.aF+1
  ·simp only[go_sem,r1,Vc c2];refine fR u5.1 (u5.2 H1 r s x.id rw1 (f1.aI (by omega)) (f1.aG (by decide))) ?_;rw[gF];cases c3:s.aV x.id;·simp only[go_sem,r1];exact fin _ H1 _ (no (λz=>by rw[c3]at z;cases z.2.1)) (f1.aA (by omega)) (by simp[fi]) T1
   ·simp only[go_sem,r1];by_cases c4:x.aA.aB<1099511627776
    ·simp only[go_sem,Vc c4];refine fR u6.1 (u6.2 H1 r s rw1 (f1.aB (by omega))) ?_;rw[gF];by_cases c5:s.aK<1099511627776;·rw[Vf ⟨c2,c3,c4,c5⟩]at et;simp only[go_sem,r1,F5,Vc c5];have st:=fF.aC (Q':=fj) T1 (eY.aC _ _) (λ_ _ y=>y) λL1 x1=>u7.2 L1 H1 r o s.aC (k+1) 0 draw x1 f1 (by omega) (iM _) (by omega) (by show s.aA.aB<2^40;rw[q4,eL];exact c4);refine fq ⟨u7.1,st⟩ ?_;intro _ H4 T4;simp only[go_sem];exact fin _ H4 _ et ((xJ (x:=s.aC) f1 (by omega) (iM _) (by show s.aA.aB<2^40;rw[q4,eL];exact c4) draw).1) (by simp[fi]) T4
     ·simp only[go_sem,r1,Va c5];exact fin _ H1 _ (no (λz=>c5 z.2.2.2)) (f1.aA (by omega)) (by simp[fi]) T1
    ·simp only[go_sem,Va c4];exact fin _ H1 _ (no (λz=>c4 z.2.2.1)) (f1.aA (by omega)) (by simp[fi]) T1
  ·simp only[go_sem,Va c2];exact fin _ H1 _ (no (λz=>c2 z.1)) (f1.aA (by omega)) (by simp[fi]) T1
theorem Dk {h:eZ}{n:Nat}{v:Option fh} (hn:h[n]?=some v):h.set n v=h:=by
 apply VT;intro i;rw[WD];have:=(U_.1 hn).1;split;·rename_i e;subst e;first | exact hn.symm | (rw[if_pos this];exact hn.symm)
 ·rfl
theorem fF.aK {L h r x h0 o X h' n}(a:iu L h r x)(hx:eY fj h h0)(C:h.length<=o)(T:fF wA fj (λm=>if m=o then 7 else L m) h0 r o X h')(hn:h.length<=n/\n<h0.length)(t:n≠o):
  ∃ma ca aa,h'[o]?=some (some (.aA 5 [[ma,ca,aa,.aA .i64 X.o.aA,.aD X.o.aB]] false))/\ma.aG=true/\ca.aG=true/\aa.aG=true/\∀b:Option fh,jI L h r X (.aE [ma,ca,aa,.aA .i64 X.o.aA,.aD X.o.aB]) (h'.set n b):=by
 obtain⟨L1,x1,l1,e1⟩:=T;obtain⟨ma,ca,aa,oa⟩:=x1.o;obtain⟨g,f,ra⟩:=x1.r;have hl:=hx.1;have e:∀m,m<h.length->(if m=o then 7 else L m)=L m:=λm hm=>Ve (by omega);have u:L1 n=0:=by rw[l1 n hn.2 (.inr (λz=>z))];show (if n=o then 7 else L n)=0;rw[Ve t,a.ge hn.1]
 have ne:∀(b:Option fh)(m:Nat),L1 m≠0->(h'.set n b)[m]?=h'[m]?:=λb m hm=>Vb (by rintro rfl;exact hm u);refine⟨ma,ca,aa,oa.aA,oa.m.aA,oa.c.aA,oa.a.aA,λb=>⟨L1,o,ma,ca,aa,rfl,⟨g,f,ra.aB (λ_ _ _=>rfl) λm _ hm=>ne b m (by omega)⟩,oa.aB (λ_ _ _=>rfl) (λm _ hm=>ne b m (by omega)),λm hm=>by rw[Vh];exact x1.lt m hm,C,λm hm=>(l1 m (by omega) (.inr (λz=>z))).trans (e m hm),?_⟩⟩;refine⟨by rw[Vh];have:=e1.1;omega,λm hm hw=>(Vb (by omega)).trans ((e1.2 m (by omega) ?_).trans (hx.2 m hm (λz=>z)))⟩;rintro (z | z);·exact hw (by have z':wA (if m=o then 7 else L m):=z;rw[e m hm]at z';exact z')
 ·exact z
def vI (L:Nat->Nat)(h:eZ)(d:D)(a:AV):Prop:=∃G:Nat->Prop,Rd G h d a/\∀n,G n->L n=0/\n<h.length
def tM (P:Program)(f:FuncId):Prop:=fI P f=true/\∀(L:Nat->Nat)(h:eZ)(r:Nat)(x:fm)(k:Nat)(kind:Int)(data:List Int)(d:AV),iu L h r x->x.aD k->k+1<2^28->vI L h (fT data) d->gK data/\data.length<=2^16->gO kind->
 fy P f [.aC r 21 0 0,.aA .i64 kind,d] h λv h'=>∃w,v=.aI [.aA .i64 (x.aP kind data).1,w,.aA .i64 (x.aP kind data).2.2]/\jI L h r (x.aP kind data).2.1 w h'
theorem Sv {P:Program}{f f1 f2 f3 f4 f5 f6 f7 f8:FuncId}(hf:Is P f (lO f1 f2 f3 f4 f5 f6 f7 f8))(u1:oC P f1)(u2:oJ P f2)(u3:p8 P f3)(u4:wc P f4)(u5:pA P f5)(u6:oB P f6)(u7:tN P f7)(u8:v_ P f8):tM P f:=by
 refine⟨hf.2,λL h r x k kind data d hx C hk hd u M=>fN hf ?_⟩;obtain⟨G,a8,hG⟩:=hd;obtain⟨H,hH⟩:∃H,H=h++[some (fh.aA 5 [[.aB,.aB,.aB,.aA .i64 0,.aD false]] false)]++[some (fh.aA 5 [[.aB,.aB,.aB,.aA .i64 0,.aD false]] false)]:=⟨_,rfl⟩;have X2:eY fj h H:=by rw[hH];exact eY.b2 _ _
 have l2:H.length=h.length+2:=by rw[hH];simp
 have C0:H[h.length]?=some (some (fh.aA 5 [[.aB,.aB,.aB,.aA .i64 0,.aD false]] false)):=by rw[hH];exact iE _ _ _
 have C1:H[h.length+1]?=some (some (fh.aA 5 [[.aB,.aB,.aB,.aA .i64 0,.aD false]] false)):=by rw[hH];exact iq _ _ _
 have ll:=C.aE;have ab:∀{y:RX}{B H':eZ}{L':Nat->Nat},eY fj h B->(∀n,n<h.length->L' n=L n)->fF wA fj L' B r (h.length+1) y H'->Rd G H' (fT data) d:=λX hl T=>Rd.aC (F:=λn=>G n/\n<h.length) (λ_ y=>y.1) (λn hn y hy=>T.aA (by rw[hl n hn.2,(hG n hn.1).1];exact iZ) (λz=>z) (X.aA hy)) _ _ (Rd.lt _ _ a8);have t:∀(o:Nat)(L0:Nat->Nat)(H3:eZ)(Le:fY),o=h.length+1->L0=(λm=>if m=o then 7 else L m)->eY fj h H3->h.length+2<=H3.length->gS L0 H3 r o x.aC->H3[h.length]?=some (some (.aA 5 [[.aB,.aB,.aB,.aA .i64 0,.aD false]] false))->lk 0 Le=.aC r 21 0 0->lk 1 Le=.aA .i64 kind->lk 2 Le=d->lk 7 Le=.aC h.length 5 0 0->lk 9 Le=.aC o 5 0 0->
   x.aP kind data=(x.aK+1,(((x.aC.aC kind data).on).aI).aD,0)->
   vc P (lO f1 f2 f3 f4 f5 f6 f7 f8).aA.tl.tl.tl.tl ⟨Le,[],H3⟩ (ia (lO f1 f2 f3 f4 f5 f6 f7 f8).aB λv h'=>∃w,v=.aI [.aA .i64 (x.aP kind data).1,w,.aA .i64 (x.aP kind data).2.2]/\jI L h r (x.aP kind data).2.1 w h'):=by
  intro o L0 H3 Le ho E X3 l3 I D0 k0 k1 k2 k7 k9 ep;rw[ep];have e1:x.aC.r=x:=rfl;simp only[lO,AC.aA,go_sem,k0,k9];refine fq ⟨u3.1,u3.2 H3 r o⟩ ?_;rintro _ H4 ⟨rfl,X4⟩;simp only[go_sem,k1,k2];obtain⟨H5,a0⟩:∃H5,H5=H4++[some (fh.aA 2 [[.aC r 21 0 0,.aC o 5 0 0]] false)]:=⟨_,rfl⟩;have X5:eY fj H3 H5:=by rw[a0];exact X4.tr (eY.b1 _)
  have x4:=X4.1;have B5:H5[H4.length]?=some (some (fh.aA 2 [[.aC r 21 0 0,.aC o 5 0 0]] false)):=by rw[a0];exact gh _ _
  have D5:=X5.aA D0;have a6:=I.up X5;obtain⟨n5,a7⟩:∃n5,n5=H4.length:=⟨_,rfl⟩;rw[<-a0,<-a7];rw[<-a7]at B5;clear a0;have zL:∀n,h.length<=n->n≠o->¬wA (L0 n):=λn hn a2=>by rw[E];show ¬wA (if n=o then 7 else L n);rw[Ve a2,hx.ge hn];exact iZ
  have a9:eY fj h H5:=X3.tr X5;have ac:∀n,n<h.length->L0 n=L n:=λn hn=>by rw[E];exact Ve (by omega)
  subst ho;have d5:=ab a9 ac (a6.to (W:=wA) (Q:=fj));have ly:=u4.2 (λn=>G n) L0 H5 r (h.length+1) x.aC k 0 kind data d a6 C (by omega) (iM _) (by omega) d5 u M;refine fq ⟨u4.1,ly⟩ ?_;rintro _ H6 ⟨rfl,T6⟩;have f6:(x.aC.aC kind data).r.aD (k+1):=fm.aD.aP (x:=x.aC) C (by omega) u M;have w6:(x.aC.aC kind data).aA 1:=RX.aA.aD (x:=x.aC) (iM _) kind data;have M6:=T6.aA (zL _ (by omega) (by omega)) (λz=>z) B5;simp only[go_sem,k0,M6];have ea:=fF.aC (Q':=fj) T6 (eY.aC _ _) (λ_ _ y=>y) λL1 x1=>(xd u6 u5 x1 f6 (by omega) w6 (by omega)).aA λ_ _ b=>b.aF me;refine fq ⟨u6.1,ea⟩ ?_;intro _ H7 T7;have f7:(x.aC.aC kind data).on.r.aD (k+1):=(sN f6 w6).1;have M7:=T7.aA (zL _ (by omega) (by omega)) (λz=>z) B5;simp only[go_sem,M7];have se:=fF.aC (Q':=fj) T7 (eY.aC _ _) (λ_ _ y=>y) λL1 x1=>u7.2 L1 H7 r _ _ (k+1) x1 f7 (by omega);refine fq ⟨u7.1,se⟩ ?_;intro _ H8 T8;have f8:(x.aC.aC kind data).on.aI.r.aD (k+1):=f7.aN;have M8:=T8.aA (zL _ (by omega) (by omega)) (λz=>z) B5;simp only[go_sem,M8];have en:=fF.aC (Q':=fj) T8 (eY.aC _ _) (λ_ _ y=>y) λL1 x1=>u8.2 L1 H8 r _ _ (k+1) x1 f8 (by omega);refine fq ⟨u8.1,en⟩ ?_;intro _ H9 T9;have M9:=T9.aA (zL _ (Vg _) (by omega)) (λz=>z) D5;rw[E]at T9;have x5:=X5.1;obtain⟨ma,ca,aa,row,s1,s2,s3,out⟩:=T9.aK (n:=h.length) hx a9 (by omega) ⟨Vg _,by omega⟩ (by omega);have lh:=(U_.1 M9).1;have w0:(h.length+1=h.length)=False:=Vs (by omega);simp only[go_sem,k7,k9,row,M9,s1,s2,s3,lh];exact⟨_,rfl,out _⟩
 have e0:(lO f1 f2 f3 f4 f5 f6 f7 f8).aA=.aB (lO f1 f2 f3 f4 f5 f6 f7 f8).aA.hd (.aB (lO f1 f2 f3 f4 f5 f6 f7 f8).aA.tl.hd (.aB (lO f1 f2 f3 f4 f5 f6 f7 f8).aA.tl.tl.hd (.aB (lO f1 f2 f3 f4 f5 f6 f7 f8).aA.tl.tl.tl.hd (lO f1 f2 f3 f4 f5 f6 f7 f8).aA.tl.tl.tl.tl))):=rfl;rw[e0];generalize (lO f1 f2 f3 f4 f5 f6 f7 f8).aA.tl.tl.tl.tl=D at t ⊢;have a1:=t;simp only[lO,fC]at a1;clear t;simp only[lO,AC.aG,AC.aA,go_sem];rw[<-hH];clear hH;refine fR u1.1 (u1.2 G H data d (Rd.aC (λ_ y=>y) (X2.aF _) _ _ a8) u.1 (by omega)) ?_;simp only[go_sem,fG.aD,iB];obtain⟨cf,a3⟩:∃cf,cf=gZ data:=⟨_,rfl⟩;rw[<-a3];obtain⟨H3,O⟩:∃H3,H3=H++[some (fh.aA 3 [[fA cf.1.aA,fA cf.1.aB,fA cf.1.aC]] false)]:=⟨_,rfl⟩;have X3:eY fj h H3:=by rw[O];exact X2.tr (eY.b1 _)
 have l3:H3.length=h.length+3:=by rw[O];simp[l2]
 have D0:H3[h.length]?=some (some (fh.aA 5 [[.aB,.aB,.aB,.aA .i64 0,.aD false]] false)):=by rw[O];exact (eY.b1 _).aA C0
 have D1:H3[h.length+1]?=some (some (fh.aA 5 [[.aB,.aB,.aB,.aA .i64 0,.aD false]] false)):=by rw[O];exact (eY.b1 _).aA C1
 rw[<-O];clear O;have I:=hx.aB X3 D1 (by omega);have hlr:=hx.lt;obtain⟨o,ho⟩:∃o,o=h.length+1:=⟨_,rfl⟩;obtain⟨L0,E⟩:∃L0:Nat->Nat,L0=λm=>if m=o then 7 else L m:=⟨_,rfl⟩
 rw[<-ho]at D1 I ⊢;rw[<-E]at I;have zL:∀n,h.length<=n->n≠o->L0 n=0:=λn hn a2=>by rw[E];show (if n=o then 7 else L n)=0;rw[Ve a2,hx.ge hn]
 obtain⟨g,ff,rr⟩:=I.aA;have e1:x.aC.r=x:=rfl;rw[e1]at rr;have a4:=rr;simp only[fm.aJ]at a4;have lh:=(U_.1 D0).1;have bad:jI L h r x.aC (.aE [.aB,.aB,.aB,.aA .i64 0,.aD false]) (H3.set h.length (some (.aA 5 [[.aB,.aB,.aB,.aA .i64 0,.aD false]] false))):=by rw[Dk D0];have T:=I.to (W:=wA) (Q:=fj);rw[E]at T;obtain⟨ma,ca,aa,row,s1,s2,s3,out⟩:=T.aI hx X3 (by omega);rw[row]at D1;simp only[Vk,fh.aA.injEq,Wr]at D1;obtain⟨-,⟨⟨rfl,rfl,rfl,-⟩,-⟩,-⟩:=D1;exact out
 have w0:(o=h.length)=False:=Vs (by omega);simp only[go_sem,a4];by_cases c1:x.aM=2
 ·simp only[go_sem,Vc c1,Vq];by_cases c2:¬kind=1/\¬kind=2
  ·have ep:x.aP kind data=(0,x.aC,13):=by unfold fm.aP;rw[Ve (by simpa using c1),Vf c2]
   rw[ep];simp only[go_sem,D0,D1,Va c2.1,Va c2.2,Vt,lh];exact⟨_,rfl,bad⟩
  ·by_cases c3:kind=2/\¬cf.2=0
   ·have ep:x.aP kind data=(0,x.aC,4):=by unfold fm.aP;rw[Ve (by simpa using c1),Ve c2,<-a3,Vf c3]
    have ad:¬kind=1:=by rw[c3.1];decide
    rw[ep];simp only[go_sem,D0,D1,Va ad,Vc c3.1,Va c3.2,Vt,Vq,lh];exact⟨_,rfl,bad⟩
   ·have p1:x.aP kind data=if 2^40<=x.aK then (0,x.aC,17) else (x.aK+1,(((x.aC.aC kind data).on).aI).aD,0):=by unfold fm.aP;rw[Ve (by simpa using c1),Ve c2,<-a3,Ve c3]
    have eL:(2:Int)^40=1099511627776:=by decide
    rw[eL]at p1;have a5:=u2.2 H3 r x ⟨g,ff,rr⟩ (C.aB (by omega));by_cases k1':kind=1
    ·have U:¬kind=2:=by rw[k1'];decide
     simp only[go_sem,Vc k1',Va U,Vq];refine fR u2.1 a5 ?_;by_cases c4:(1099511627776:Int)<=x.aK;·rw[Vf c4]at p1;rw[p1];simp only[go_sem,D0,D1,Vc c4,lh];exact⟨_,rfl,bad⟩
     ·rw[Ve c4]at p1;simp only[go_sem,Va c4];refine a1 o L0 H3 _ ho E X3 (by omega) I D0 ?_ ?_ ?_ ?_ ?_ p1<;>simp[fi,ga]
    ·have U:kind=2:=Vm λz=>c2 ⟨k1',z⟩;have c0:cf.2=0:=Vm λz=>c3 ⟨U,z⟩;simp only[go_sem,Va k1',Vc U,Vc c0,Vt,Vq];refine fR u2.1 a5 ?_;by_cases c4:(1099511627776:Int)<=x.aK;·rw[Vf c4]at p1;rw[p1];simp only[go_sem,D0,D1,Vc c4,lh];exact⟨_,rfl,bad⟩
     ·rw[Ve c4]at p1;simp only[go_sem,Va c4];refine a1 o L0 H3 _ ho E X3 (by omega) I D0 ?_ ?_ ?_ ?_ ?_ p1<;>simp[fi,ga]
 ·have ep:x.aP kind data=(0,x.aC,30):=by unfold fm.aP;rw[Vf (by simpa using c1)]
  rw[ep];simp only[go_sem,D0,D1,Va c1,Vt,lh];exact⟨_,rfl,bad⟩
def wj (P:Program)(f:FuncId):Prop:=fI P f=true/\∀(L:Nat->Nat)(h:eZ)(r:Nat)(x:fm)(k:Nat),iu L h r x->x.aD k->k+1<2^28->
 fy P f [.aC r 21 0 0] h λv h'=>∃w,v=.aI [.aA .i64 x.aX.1,w,.aA .i64 x.aX.2.2]/\jI L h r x.aX.2.1 w h'
theorem Sw {P:Program}{f f1 f2 f3 f4:FuncId}(hf:Is P f (By f1 f2 f3 f4))(u1:jP P f1)(u2:p8 P f2)(u3:pA P f3)(u4:oB P f4):wj P f:=by
 refine⟨hf.2,λL h r x k hx hfit hk=>fN hf ?_⟩;obtain⟨H3,hH⟩:∃H,H=h++[some (fh.aA 5 [[.aB,.aB,.aB,.aA .i64 0,.aD false]] false)]++[some (fh.aA 5 [[.aB,.aB,.aB,.aA .i64 0,.aD false]] false)]:=⟨_,rfl⟩;have X3:eY fj h H3:=by rw[hH];exact eY.b2 _ _
 have l3:H3.length=h.length+2:=by rw[hH];simp
 have D0:H3[h.length]?=some (some (fh.aA 5 [[.aB,.aB,.aB,.aA .i64 0,.aD false]] false)):=by rw[hH];exact iE _ _ _
 have D1:H3[h.length+1]?=some (some (fh.aA 5 [[.aB,.aB,.aB,.aA .i64 0,.aD false]] false)):=by rw[hH];exact iq _ _ _
 simp only[By,go_sem];rw[<-hH];clear hH;have hx0:=hx.aB X3 D1 (by omega);have hlr:=hx.lt;obtain⟨o,ho⟩:∃o,o=h.length+1:=⟨_,rfl⟩;obtain⟨L0,hL0⟩:∃L0:Nat->Nat,L0=λm=>if m=o then 7 else L m:=⟨_,rfl⟩
 rw[<-ho]at D1 hx0 ⊢;rw[<-hL0]at hx0;have zL:∀n,h.length<=n->n≠o->¬wA (L0 n):=λn hn hno=>by rw[hL0];show ¬wA (if n=o then 7 else L n);rw[Ve hno,hx.ge hn];exact iZ
 obtain⟨g,ff,rr⟩:=hx0.aA;have e1:x.aC.r=x:=rfl;rw[e1]at rr;have rr':=rr;simp only[fm.aJ]at rr';have lr:=(U_.1 rr).1;have lh:=(U_.1 D0).1;have w0:(o=h.length)=False:=Vs (by omega);have bad:jI L h r x.aC (.aE [.aB,.aB,.aB,.aA .i64 0,.aD false]) (H3.set h.length (some (.aA 5 [[.aB,.aB,.aB,.aA .i64 0,.aD false]] false))):=by rw[Dk D0];have T:=hx0.to (W:=wA) (Q:=fj);rw[hL0]at T;obtain⟨ma,ca,aa,row,s1,s2,s3,out⟩:=T.aI hx X3 (by omega);rw[row]at D1;simp only[Vk,fh.aA.injEq,Wr]at D1;obtain⟨-,⟨⟨rfl,rfl,rfl,-⟩,-⟩,-⟩:=D1;exact out
 have ro:=hfit.bA;have ewr:IntKind.i64.wrap (x.aL+1)=x.aL+1:=fQ (by omega);have tc:=u1.2 fj H3 x.aA.aA _ x.aI (lY x.aA.aA H3) (hfit.aB (by omega));simp only[go_sem,rr'];by_cases c1:x.aM=2
 ·simp only[go_sem,rr',Vc c1,Vq];refine fR u1.1 tc ?_;rw[gF];cases c2:x.aA.aA.aD x.aI
  ·have ep:x.aX=(0,x.aC,11):=by unfold fm.aX;rw[Ve (by simpa using c1),Vf (.inl c2)]
   rw[ep];simp only[go_sem,rr',D0,D1,Vt,lh];exact⟨_,rfl,bad⟩
  ·by_cases c3:x.aA.aA.aG x.aI=x.aA.aB
   ·have ep:x.aX=(x.aL+1,({x with aL:=x.aL+1}:fm).aC.on,0):=by unfold fm.aX;rw[Ve (by simpa using c1),Ve (by rintro (z | z);rw[c2]at z;cases z;exact z c3)]
    rw[ep];have T1:=fF.aG (R:=x) (out:=hM.aE) (R':={x with aL:=x.aL+1}) (hx0.to (W:=wA) (Q:=fj)) rr rfl rfl (λ_ z=>z);have r1:(H3.set r (some (.aA 21 [({x with aL:=x.aL+1}:fm).aJ g ff] false)))[r]?=some (some (.aA 21 [({x with aL:=x.aL+1}:fm).aJ g ff] false)):=Vd lr;simp only[fm.aJ]at T1 r1;simp only[go_sem,rr',Vq,Vc c3,ewr];have ob:({r:={x with aL:=x.aL+1},o:=hM.aE}:RX)=({x with aL:=x.aL+1}:fm).aC:=rfl;rw[ob]at T1;have f1:({x with aL:=x.aL+1}:fm).aD (k+1):=by obtain⟨g1,g2,g3,g4,g5,g6,g7,g8,g9,g10,g11,g12,g13,g14,g15⟩:=hfit.aA (WB k);exact⟨g1,g2,g3,g4,g5,g6,g7,g8,g9,g10,g11,⟨by show 0<=x.aL+1;omega,by show x.aL+1<=((k+1:Nat):Int);omega⟩,g13,g14,g15⟩
    have o1:=T1.aA (zL h.length (Vg _) (by omega)) (λz=>z) D0;generalize hH1:H3.set r _=H1 at *;refine fq ⟨u2.1,u2.2 H1 r o⟩ ?_;rintro _ H4 ⟨rfl,X4⟩;simp only[go_sem];have ea:=fF.aC (Q':=fj) T1 X4 (λ_ _ y=>y) λL1 x1=>(xd u4 u3 (x1.up X4) f1 (by omega) (iM _) (by omega)).aA λ_ _ b=>b.aF me;refine fq ⟨u4.1,ea⟩ ?_;intro _ H5 T5;have o5:=T5.aA (zL h.length (Vg _) (by omega)) (λz=>z) D0;obtain⟨g5,f5,r5⟩:=T5.aD;have er5:({x with aL:=x.aL+1}:fm).aC.on.r={x with aL:=x.aL+1}:=(nW _ _).1;rw[er5]at r5;simp only[fm.aJ]at r5;rw[hL0]at T5;obtain⟨ma,ca,aa,row,s1,s2,s3,out⟩:=T5.aK (n:=h.length) hx X3 (by omega) ⟨Vg _,by omega⟩ (by omega);have lh5:=(U_.1 o5).1;simp only[go_sem,r5,row,o5,s1,s2,s3,lh5];exact⟨_,rfl,out _⟩
   ·have ep:x.aX=(0,x.aC,11):=by unfold fm.aX;rw[Ve (by simpa using c1),Vf (.inr c3)]
    rw[ep];simp only[go_sem,rr',D0,D1,Vq,Va c3,Vt,lh];exact⟨_,rfl,bad⟩
 ·have ep:x.aX=(0,x.aC,30):=by unfold fm.aX;rw[Vf (by simpa using c1)]
  rw[ep];simp only[go_sem,D0,D1,Va c1,Vt,lh];exact⟨_,rfl,bad⟩
theorem II {k:Nat}{x:fm}(h:x.aD k)(i:Int):gO (x.aA.aA.aG i):=by
 unfold fE.aG;split
 ·split;·exact h.bG.2.2
  ·split;·rename_i e he;exact (h.aS _ (WQ he)).2.1
   ·exact⟨by omega,by omega⟩
 ·exact⟨by omega,by omega⟩
theorem Cp {k:Nat}{x:fm}(h:x.aD k){index:Int}{snap:List Int}(hs:gK snap/\snap.length<=2^16)(h1:x.aA.aA.aA<index/\index<=x.aO){cf:fG}(hc:cf.aI=true):
  (x.aC.aV index (x.aA.aA.aG index) cf snap).r.aD k:=by
 have ha:=h.aK;have hb:=h.aC;have hl:=h.aE;have hh:x.aA.aA.aD index=true:=oX.2 ⟨by omega,by omega⟩;have hi:0<=index/\index<=2^40+k:=⟨by omega,by omega⟩;obtain⟨-,-,-,-,-,-,s7⟩:=Dp h hi (II h index);have:=h.bD (c:=x.aI) (a:=x.aO) (cf:=cf) (snap:=snap) hi (II h index) hc hs ⟨h1.2,ha.2.1,by rw[s7 ⟨hh,rfl⟩];exact ha.2.2⟩;exact this
theorem Tu (l:List gj){k:Int}(h:0<=k/\k<=l.length):iR 3 (iD l) none (some k) none=some (iD (l.take k.toNat)):=by rw[EJ,EJ];simp only[iR,Wh,VG,Vo];rw[Vf ⟨Vp,by omega,by omega,h.2,by omega,h.2⟩];simp[pf,WL]
def v7 (P:Program)(f:FuncId):Prop:=fI P f=true/\∀(L:Nat->Nat)(h:eZ)(r:Nat)(x:fm)(k:Nat)(index:Int)(snap:List Int)(s:AV),iu L h r x->x.aD k->k<2^28->vI L h (fT snap) s->gK snap/\snap.length<=2^16->
 fy P f [.aC r 21 0 0,.aA .i64 index,s] h λv h'=>∃w,v=.aI [w,.aA .i64 (x.a_ index snap).2]/\jI L h r (x.a_ index snap).1 w h'
theorem Rj {P:Program}{f f1 f2 f3 f4 f5:FuncId}(hf:Is P f (Bu f1 f2 f3 f4 f5))(u1:nM P f1)(u2:jP P f2)(u3:p8 P f3)(u4:vZ P f4)(u5:v_ P f5):v7 P f:=by
 refine⟨hf.2,λL h r x k index snap s hx hfit hk hd hsnap=>fN hf ?_⟩;obtain⟨G,hd1,hG⟩:=hd;obtain⟨H3,hH⟩:∃H,H=h++[some (fh.aA 5 [[.aB,.aB,.aB,.aA .i64 0,.aD false]] false)]++[some (fh.aA 5 [[.aB,.aB,.aB,.aA .i64 0,.aD false]] false)]:=⟨_,rfl⟩;have X3:eY fj h H3:=by rw[hH];exact eY.b2 _ _
 have l3:H3.length=h.length+2:=by rw[hH];simp
 have D0:H3[h.length]?=some (some (fh.aA 5 [[.aB,.aB,.aB,.aA .i64 0,.aD false]] false)):=by rw[hH];exact iE _ _ _
 have D1:H3[h.length+1]?=some (some (fh.aA 5 [[.aB,.aB,.aB,.aA .i64 0,.aD false]] false)):=by rw[hH];exact iq _ _ _
 simp only[Bu,go_sem];rw[<-hH];clear hH;have hx0:=hx.aB X3 D1 (by omega);have hlr:=hx.lt;obtain⟨o,ho⟩:∃o,o=h.length+1:=⟨_,rfl⟩;obtain⟨L0,hL0⟩:∃L0:Nat->Nat,L0=λm=>if m=o then 7 else L m:=⟨_,rfl⟩
 rw[<-ho]at D1 hx0 ⊢;rw[<-hL0]at hx0;have zL0:∀n,h.length<=n->n≠o->L0 n=0:=λn hn hno=>by rw[hL0];show (if n=o then 7 else L n)=0;rw[Ve hno,hx.ge hn]
 have zL:∀n,h.length<=n->n≠o->¬wA (L0 n):=λn hn hno=>by rw[zL0 n hn hno];exact iZ
 obtain⟨g,ff,rr⟩:=hx0.aA;have e1:x.aC.r=x:=rfl;rw[e1]at rr;have rr':=rr;simp only[fm.aJ]at rr';have lr:=(U_.1 rr).1;have lh:=(U_.1 D0).1;have w0:(o=h.length)=False:=Vs (by omega);have bad:jI L h r x.aC (.aE [.aB,.aB,.aB,.aA .i64 0,.aD false]) (H3.set h.length (some (.aA 5 [[.aB,.aB,.aB,.aA .i64 0,.aD false]] false))):=by rw[Dk D0];have T:=hx0.to (W:=wA) (Q:=fj);rw[hL0]at T;obtain⟨ma,ca,aa,row,s1,s2,s3,out⟩:=T.aI hx X3 (by omega);rw[row]at D1;simp only[Vk,fh.aA.injEq,Wr]at D1;obtain⟨-,⟨⟨rfl,rfl,rfl,-⟩,-⟩,-⟩:=D1;exact out
 have hat:=hfit.aK;have hb:=hfit.aC;have hl:=hfit.aE;simp only[go_sem,rr'];by_cases c1:index<=x.aA.aA.aA
 ·have ep:x.a_ index snap=(x.aC,3):=by unfold fm.a_;rw[Vf (.inl c1)]
  rw[ep];simp only[go_sem,D0,D1,Vc c1,lh];exact⟨_,rfl,bad⟩
 ·by_cases c2:x.aO<index
  ·have ep:x.a_ index snap=(x.aC,3):=by unfold fm.a_;rw[Vf (.inr c2)]
   rw[ep];simp only[go_sem,rr',D0,D1,Va c1,Vc c2,lh];exact⟨_,rfl,bad⟩
  ·have hl2:x.aA.aA.aC=x.aA.aA.aA+x.aA.aA.es.length:=rfl;have ewi:IntKind.i64.wrap (index-x.aA.aA.aA)=index-x.aA.aA.aA:=fQ (by omega);simp only[go_sem,rr',Va c1,Va c2,n7,iB,l7,ewi];rw[Tu _ (by omega)];obtain⟨up,hup⟩:∃up:fV,up={x.aA with aA:={x.aA.aA with es:=x.aA.aA.es.take (index-x.aA.aA.aA).toNat}}:=⟨_,rfl⟩;have hupc:up.aC.aI=true:=by rw[hup];exact hfit.aL
   have hupR:up.aL:=by obtain⟨g1,g2,g3,g4⟩:=hfit.aI (Nat.le_of_lt hk);rw[hup];exact⟨g1,by simp only[Vw];omega,λe he=>g3 e (V0 he),g4⟩
   have ep:x.a_ index snap=((x.aC.aV index (x.aA.aA.aG index) up.of.1 snap).aD,0):=by unfold fm.a_;rw[Ve (by omega)];subst hup;rfl
   rw[ep];have eset:∀a b:Option fh,(H3++[a]).set H3.length b=H3++[b]:=λa b=>by rw[WC _ _ (Vg _)];simp
   have bget:∀a:Option fh,(H3++[a])[H3.length]?=some a:=λa=>by simp
   have blt:∀a:Option fh,H3.length<(H3++[a]).length:=λa=>by simp
   have hc5:=qV up (H3++[some (fh.aA 10 [[AV.aA IntKind.i64 up.aD,AV.aA IntKind.i64 up.aB,AV.aA IntKind.i64 up.aE,AV.aA IntKind.i64 up.aA.aA,AV.aA IntKind.i64 up.aA.aB,iD up.aA.es,fA up.aC.aA,fA up.aC.aB,fA up.aC.aC,gV up.aF]] false)]);have ofc:=u1.2 fj _ up _ hc5 hupR;rw[hup]at ofc;simp only at ofc;rw[<-hup]at ofc;obtain⟨H5,hH5⟩:∃H5,H5=H3++[some (fh.aA 10 [[AV.aA IntKind.i64 x.aA.aD,AV.aA IntKind.i64 x.aA.aB,AV.aA IntKind.i64 x.aA.aE,AV.aA IntKind.i64 x.aA.aA.aA,AV.aA IntKind.i64 x.aA.aA.aB,iD (x.aA.aA.es.take (index-x.aA.aA.aA).toNat),fA x.aA.aC.aA,fA x.aA.aC.aB,fA x.aA.aC.aC,gV x.aA.aF]] false)]:=⟨_,rfl⟩;have B5:H5[H3.length]?=some (some (fh.aA 10 [[AV.aA IntKind.i64 x.aA.aD,AV.aA IntKind.i64 x.aA.aB,AV.aA IntKind.i64 x.aA.aE,AV.aA IntKind.i64 x.aA.aA.aA,AV.aA IntKind.i64 x.aA.aA.aB,iD (x.aA.aA.es.take (index-x.aA.aA.aA).toNat),fA x.aA.aC.aA,fA x.aA.aC.aB,fA x.aA.aC.aC,gV x.aA.aF]] false)):=by rw[hH5];exact bget _
   have X5:eY fj H3 H5:=by rw[hH5];exact eY.b1 _
   have l5:H5.length=H3.length+1:=by rw[hH5];simp
   simp only[go_sem,bget,eset];rw[<-hH5]at ofc ⊢;clear hH5;refine fR u1.1 ofc ?_;obtain⟨cf,hcf⟩:∃cf,cf=up.of.1:=⟨_,rfl⟩;have hcfr:cf.aI=true:=by rw[hcf];exact (fV.aQ hupc).1
   rw[<-hcf];obtain⟨H6,hH6⟩:∃H6,H6=H5++[some (fh.aA 3 [[fA cf.aA,fA cf.aB,fA cf.aC]] false)]:=⟨_,rfl⟩;have B6:H6[H5.length]?=some (some (fh.aA 3 [[fA cf.aA,fA cf.aB,fA cf.aC]] false)):=by rw[hH6];exact gh _ _
   have X6:eY fj H3 H6:=by rw[hH6];exact X5.tr (eY.b1 _)
   have rr6:=X6.aA rr';have l6:H6.length=H3.length+2:=by rw[hH6];simp[l5]
   simp only[go_sem,fG.aD,iB];rw[<-hH6];clear hH6;simp only[go_sem,rr6];refine fR u2.1 (u2.2 fj H6 x.aA.aA _ index (lY x.aA.aA H6) (hfit.aB (by omega))) ?_;simp only[go_sem];refine fq ⟨u3.1,u3.2 H6 r o⟩ ?_;rintro _ H7 ⟨rfl,X7⟩;have x7:=X7.1;simp only[go_sem];obtain⟨H8,hH8⟩:∃H8,H8=H7++[some (fh.aA 2 [[.aC r 21 0 0,.aC o 5 0 0]] false)]:=⟨_,rfl⟩;have B8:H8[H7.length]?=some (some (fh.aA 2 [[.aC r 21 0 0,.aC o 5 0 0]] false)):=by rw[hH8];exact gh _ _
   have X8:eY fj H3 H8:=by rw[hH8];exact (X6.tr X7).tr (eY.b1 _)
   have l8:H8.length=H7.length+1:=by rw[hH8];simp
   have C8:H8[H5.length]?=some (some (fh.aA 3 [[fA cf.aA,fA cf.aB,fA cf.aC]] false)):=by rw[hH8];exact (eY.b1 _).aA (X7.aA B6)
   rw[<-hH8];clear hH8;simp only[go_sem,C8];have D8:=X8.aA D0;have hx8:=hx0.up X8;have d8:Rd G H8 (fT snap) s:=Rd.aC (λ_ y=>y) ((X3.tr X8).aF _) _ _ hd1;have ba:=u4.2 G L0 H8 r o x.aC 0 index (x.aA.aA.aG index) cf _ snap s hx8 (hfit.aB (by omega)) (iM _) (by omega) (fu.aA (λ_ y=>y.elim) (λ_ hn=>hn.elim) _ _ (sS cf H8)) d8 (λn hn=>by have:=hG n hn;rw[hL0];show (if n=o then 7 else L n)=0;rw[Ve (by omega)];exact this.1) ((kP hcfr).le (by omega)) (by omega);refine fq ⟨u4.1,ba⟩ ?_;intro _ H9 T9;have M9:=T9.aA (zL _ (by omega) (by omega)) (λz=>z) B8;have E9:=T9.aA (zL _ (Vg _) (by omega)) (λz=>z) D8;simp only[go_sem,M9];have f9:=Cp hfit (index:=index) (snap:=snap) hsnap (by omega) hcfr;have en:=fF.aC (Q':=fj) T9 (eY.aC _ _) (λ_ _ y=>y) λL1 x1=>u5.2 L1 H9 r o _ k x1 f9 (by omega);refine fq ⟨u5.1,en⟩ ?_;intro _ H10 T10;have o10:=T10.aA (zL _ (Vg _) (by omega)) (λz=>z) D8;rw[hL0]at T10;obtain⟨ma,ca,aa,row,s1,s2,s3,out⟩:=T10.aK (n:=h.length) hx (X3.tr X8) (by have:=X8.1;omega) ⟨Vg _,by omega⟩ (by omega);have lh10:=(U_.1 o10).1;simp only[go_sem,row,o10,s1,s2,s3,lh10];exact⟨_,rfl,out _⟩

structure qj (lo n:Nat)(h:eZ)(l:List Int):Prop where
 ex:∃(a:AV)(A:Nat->Prop),h[n]?=some (some (.aA 1 [[a]] false))/\(∀m,A m->lo<=m/\m≠n)/\e_ (fK l) A h a/\gq h a
 lt:n<h.length/\lo<=n
theorem qj.up {lo n:Nat}{h h':eZ}{l:List Int}(hh:qj lo n h l)(hx:eY fj h h'):qj lo n h' l:=by obtain⟨⟨a,A,e2,hA,oa,ca⟩,lt2,b⟩:=hh;have kA:∀F,gz F h h':=λF m hm y hy=>hx.aA hy;exact⟨⟨a,A,hx.aA e2,hA,e_.aB _ (λ_ y=>y) (kA _) _ oa,ca.aA oa (kA _)⟩,by have:=hx.1;omega,b⟩
theorem S7 {P:Program}{f:FuncId}(hf:Is P f ui){lo n2 n3:Nat}{h:eZ}{l2:List Int}{round:Int}(hh:qj lo n2 h l2) (C:h[n3]?=some (some (.aA 1 [[.aA .i64 round]] false))) (hl:l2.length<=2^20) (w:fO):
  fy P f [.aE w.aA,.aC n3 1 0 0,.aC n2 1 0 0] h λ_ h'=>qj lo n2 h' (if round<=w.aF then l2++[w.aB] else l2)/\eY (λm=>lo<=m) h h':=by
 refine fN hf ?_;obtain⟨a,A,e2,hA,oa,ca⟩:=id hh.ex;obtain⟨lt2,M⟩:=hh.lt;have lt3:=(U_.1 C).1;have E2:∀x,(h++[x])[n2]?=_:=λx=>(eY.b1 x).aA e2;have E3:∀x,(h++[x])[n3]?=_:=λx=>(eY.b1 x).aA C;have sa:=oa.aA;by_cases c1:round<=w.aF
 ·rw[Vf c1];simp only[ui,fO.aA,go_sem,E2,E3,Vc c1];obtain⟨H4,b⟩:∃H4,H4=h++[some (fh.aA 4 [[.aA .i64 w.aB,.aA .i64 w.aD,.aA .i64 w.aC,.aA .i64 w.aF]] false)]++[some (fh.aA 1 [[.aA .i64 w.aB]] false)]:=⟨_,rfl⟩;have X4:eY fj h H4:=by rw[b];exact eY.b2 _ _
  have l4:H4.length=h.length+2:=by rw[b];simp
  have c1:H4[h.length+1]?=some (some (fh.aA 1 [[.aA .i64 w.aB]] false)):=by rw[b];exact iq _ _ _
  have I:e_ (fK l2) (λm=>(A m/\m<h.length)\/H4.length<=m) H4 a:=e_.aB _ (λm hm=>.inl hm) (λm hm y hy=>X4.aA hy) _ (e_.lt _ _ oa);have W:gq H4 a:=ca.aA oa (λm hm y hy=>X4.aA hy);obtain⟨a',h',s1,s2,s3,s4⟩:=sP (bytes:=8) (es:=[[.aA .i64 w.aB]]) (ys:=[[.aA .i64 w.aB]]) I W (eY.aC _ _) (by simp[fP,fW,e_]) (λm hm=>.inr hm) (by simp;omega);have ae:iV H4 1 (.aF (h.length+1) 1 0 1 (some 1))=some [[.aA .i64 w.aB]]:=by simp[iV,c1,go_sem,reduceIte]
  rw[<-ic ae]at s1;rw[<-b,s1];have kk:∀m,m<H4.length->¬(A m/\m<h.length)->h'[m]?=H4[m]?:=λm hm hn=>s4.2 m hm (λz=>by rcases z with z | z;exact hn z;omega);have a0:=(kk n2 (by omega) (λz=>(hA n2 z.1).2 rfl)).trans (X4.aA e2);have l':=s4.1;have O:n2<h'.length:=by omega
  have t:=s2.aA;simp only[go_sem,a0,t,gH t];have e4:fK (l2++[w.aB])=.sl 1 (l2.map (λn=>[D.aA .i64 n])++[[.aA .i64 w.aB]]):=by simp[fK]
  have kA:gz (λm=>((A m/\m<h.length)\/H4.length<=m)/\m<h'.length) h' (h'.set n2 (some (fh.aA 1 [[a']] false))):=by
   rintro m ⟨hm,hlt⟩ y hy;have U:m≠n2:=by
    rcases hm with⟨z,z'⟩ | z;·exact (hA m z).2
    ·omega
   exact (Vb (λe=>U e.symm)).trans hy
  have u:=e_.lt _ _ s2;refine⟨⟨⟨a',λm=>((A m/\m<h.length)\/H4.length<=m)/\m<h'.length,Vd O,?_,?_,s3.aA u kA⟩,by simp;omega,M⟩,?_⟩
  ·rintro m ⟨hm,hlt⟩;rcases hm with⟨z,z'⟩ | z;·exact hA m z
   ·exact⟨by omega,by omega⟩
  ·rw[e4];exact e_.aB _ (λm hm=>hm) kA _ u
  ·refine⟨by simp;omega,λm hm E=>?_⟩;have nA:¬(A m/\m<h.length):=λz=>E (hA m z.1).1;exact (Vb (λe=>E (by omega))).trans ((kk m (by omega) nA).trans (X4.2 m hm (λy=>y)))
 ·rw[Ve c1];simp only[ui,fO.aA,go_sem,E3,Va c1];exact⟨hh.up (eY.b1 _),(eY.b1 _).1,λm hm _=>(eY.b1 _).2 m hm (λz=>z)⟩
theorem S8 (id round:Int)(l:List fO)(w:fO):(if round<=w.aF then (id :: (l.filter λf=>decide (round<=f.aF)).map fO.aB)++[w.aB] else (id :: (l.filter λf=>decide (round<=f.aF)).map fO.aB))=id :: ((l++[w]).filter λf=>decide (round<=f.aF)).map fO.aB:=by
 rw[Wt,VI];by_cases c:round<=w.aF;·rw[Vf c];simp[c]
 ·rw[Ve c];simp[c]
def yK (P:Program)(f:FuncId):Prop:=fI P f=true/\∀(L:Nat->Nat)(h:eZ)(r:Nat)(x:fm)(k:Nat)(round:Int),iu L h r x->x.aD k->k<=2^28->
 fy P f [.aC r 21 0 0,.aA .i64 round] h λv h'=>v=.aD (x.bD round)/\h'=h
theorem Sz {P:Program}{f f1 f2 f3 f4:FuncId}(hf:Is P f (BA f1 f2 f3 f4))(h1:Is P f1 ui)(h2:oB P f2)(h3:px P f3)(h4:nQ P f4):yK P f:=by
 refine⟨hf.2,λL h r x k round hx hfit hk=>fy.aB (K:=λv h'=>v=.aD (x.bD round)/\eY fj h h') (fN hf ?_) (λr _ ⟨e,hx⟩=>⟨hx,r,by rw[e];exact gM.aD _,e⟩)⟩;obtain⟨g,ff,ra⟩:=id hx.r;have rr:=ra.aA;have lt:=hx.lt;have rdf:=e_.rd _ (F':=λm=>L m=2/\m<h.length) (λ_ y=>y) _ (e_.lt _ _ ra.fo);have hfl:=hfit.aD.1;simp only[fm.aJ]at rr;have R1:∀a,(h++[a])[r]?=_:=λa=>(eY.b1 a).aA rr;have B1:=gh h (some (fh.aA 1 [[.aA .i64 round]] false));simp only[BA,go_sem,R1];have no:∀H,eY fj h H->(x.aM≠2\/round<1\/x.aL<round)->AV.aD false=AV.aD (x.bD round)/\eY fj h H:=λH e z=>⟨by unfold fm.bD;rw[Vf z],e⟩;by_cases c1:x.aM=2
 ·by_cases c2:round<1
  ·simp only[go_sem,B1,Vc c1,Vc c2,Vq];exact no _ (eY.b1 _) (.inr (.inl c2))
  ·by_cases c3:x.aL<round
   ·simp only[go_sem,R1,B1,Vc c1,Va c2,Vc c3,Vq];exact no _ (eY.b1 _) (.inr (.inr c3))
   ·simp only[go_sem,R1,B1,Vc c1,Va c2,Va c3,Vq];obtain⟨H3,hH3⟩:∃H3,H3=h++[some (fh.aA 1 [[.aA .i64 round]] false)]++[some (fh.aA 1 [[.aA .i64 x.id]] false)]++[some (fh.aA 1 [[.aF (h.length+1) 1 0 1 (some 1)]] false)]:=⟨_,rfl⟩;have X3:eY fj h H3:=by rw[hH3];exact eY.b3 _ _ _
    have l3:H3.length=h.length+3:=by rw[hH3];simp
    have C0:H3[h.length]?=some (some (fh.aA 1 [[.aA .i64 round]] false)):=by rw[hH3];exact oS _ _ _ _
    have C1:H3[h.length+1]?=some (some (fh.aA 1 [[.aA .i64 x.id]] false)):=by rw[hH3];exact pG _ _ _ _
    have C2:H3[h.length+1+1]?=some (some (fh.aA 1 [[.aF (h.length+1) 1 0 1 (some 1)]] false)):=by rw[hH3];exact rT _ _ _ _
    rw[<-hH3];clear hH3;have T0:qj (h.length+1) (h.length+1+1) H3 [x.id]:=by refine⟨⟨_,λm=>m=h.length+1,C2,λm hm=>⟨by omega,by omega⟩,?_,⟨_,_,C1,(λe=>by cases e),(λc hc=>by cases hc;simp)⟩⟩,by omega,by omega⟩;exact .inr (.inr ⟨_,0,some 1,_,_,rfl,rfl,C1,by simp,(λc hc=>by cases hc;simp),by simp[fP,fW,e_]⟩)
    obtain⟨J,hJ⟩:∃J:Nat->eZ->Prop,∀k h',J k h'↔qj (h.length+1) (h.length+1+1) h' (x.id :: ((x.aB.take k).filter λf=>decide (round<=f.aF)).map fO.aB)/\eY (λm=>h.length+1<=m) H3 h':=⟨_,λ_ _=>Wu⟩;have J1:∀k h',J k h'->Rd (λm=>L m=2/\m<h.length) h' (ig x.aB) ff:=by intro k h' hh;obtain⟨-,e⟩:=(hJ k h').1 hh;exact Rd.aC (λ_ y=>y) (λm hm y hy=>(e.2 m (by omega) (by omega)).trans (X3.aA hy)) _ _ rdf
    have J2:∀k (hk:k<x.aB.length) h' H,J k h'->eY fj h' H->fy P f1 ([]++[.aE (x.aB[k]).aA]++[.aC h.length 1 0 0,.aC (h.length+1+1) 1 0 0]) H λ_ h''=>J (k+1) h'':=by intro k hk h' H hh hX;obtain⟨t,e⟩:=(hJ k h').1 hh;have ek:x.aB.take (k+1)=x.aB.take k++[x.aB[k]]:=Vv hk;have tl:=Wn k x.aB;have tf:=We (λf:fO=>decide (round<=f.aF)) (x.aB.take k);refine (S7 h1 (t.up hX) (hX.aA ((e.2 h.length (by omega) (by omega)).trans C0)) (by simp only[VD,Vo];omega) x.aB[k]).aA λv h'' z=>(hJ _ _).2 ?_;rw[ek,<-S8];exact⟨z.1,(e.aB (hX.aB z.2 (F'':=λm=>h.length+1<=m) (λ_ _ y=>y.elim) (λ_ _ y=>y)) (λ_ _ y=>y) (λ_ _ y=>y))⟩
    refine fq ⟨h2.1,h2.2 (λm=>L m=2/\m<h.length) H3 r x g ff f1 [] [.aC h.length 1 0 0,.aC (h.length+1+1) 1 0 0] J (X3.aA ra.aA) h1.2 (by omega) ((hJ _ _).2 ⟨by simpa using T0,eY.aC _ _⟩) J1 J2⟩ ?_;rintro _ h6 hh;obtain⟨t6,e6⟩:=(hJ _ _).1 hh;rw[VH]at t6;obtain⟨a,A,e2,hA,oa',ca⟩:=t6.ex;have X6:eY fj h h6:=⟨by have:=X3.1;have:=e6.1;omega,λm hm _=>(e6.2 m (by omega) (by omega)).trans (X3.2 m hm (λy=>y))⟩;have r6:=X6.aA rr;have sa:=oa'.aA;have ra':=e_.rd _ (F':=A) (λ_ y=>y) _ oa';have tf:=We (λf:fO=>decide (round<=f.aF)) x.aB;simp only[go_sem,e2];refine fR h3.1 (h3.2 h6 r x ⟨g,ff,r6⟩ (hfit.aI hk)) ?_;simp only[go_sem,e2];refine fR h4.1 (h4.2 fj A h6 x.aE _ _ _ (sR fj h6 x.aE) ra' (hfit.aG (by decide)) (by simp only[VD,Vo];omega)) ?_;simp only[go_sem,e2];refine⟨?_,X6⟩;unfold fm.bD;rw[Ve (by simp[c1];omega)]
 ·simp only[go_sem,Va c1,Vt];exact no _ (eY.b1 _) (.inl c1)
theorem HL {F F':Nat->Prop}{h:eZ}:∀{l:List fO} {es:List (List AV)},gC F h (l.map fO.c) es->fP (l.map fO.c) F' h es
 | [],es,hh=>by simpa [gC,fP] using hh
 | w :: l,es,hh=>by simp only[VS,gC]at hh;obtain⟨a,r,rfl,h1,h2⟩:=hh;simp only[VS,fP];exact⟨_,_,rfl,by rw[mP h1];simp[fO.c,fO.aA,fW,e_],HL h2⟩
def xZ (P:Program)(f:FuncId):Prop:=
 fI P f=true/\∀(F:Nat->Prop)(h:eZ)(l:List fO)(a:AV),Rd F h (ig l) a->l.length<=2^40->fy P f [a] h λr h'=>e_ (ig l) (λm=>h.length<=m) h' r/\eY fj h h'
theorem I_ {P:Program}{f:FuncId}(hf:Is P f wZ)(hk:qZ P f):xZ P f:=by
 refine⟨hf.2,λF h l a ha hl=>?_⟩;by_cases h0:l=[]
 ·subst h0;intro G w vs g hv;obtain⟨v,rfl,hV⟩:=CW hv;have hz:v=.slice none 0 0\/∃p c,v=.slice (some p) 0 c:=by
   simp only[ig,Wg,Rd,gC]at ha;obtain⟨es,he,rfl⟩:=ha;rcases he with⟨rfl,_⟩ | ⟨t,c,rfl⟩ | ⟨n,off,len,cap,row,gr,rfl,_,u,a0,a2,C⟩
   ·cases hV;exact .inl rfl
   ·generalize hee:([]:List (List AV))=es at hV;cases hV with
    | aE=>exact .inl rfl
    | aD=>subst hee;exact .inr ⟨_,_,rfl⟩
   ·have h1:len=0:=by have:=Xq List.length C;simp at this;omega
    subst h1;cases hV with
    | aG=>exact .inl rfl
    | aC=>exact .inr ⟨_,_,rfl⟩
  rcases hz with rfl | ⟨p,c,rfl⟩
  ·have:fy P f [.aB] h λr h'=>e_ (ig []) (λm=>h.length<=m) h' r/\eY fj h h':=by refine fN hf ?_;have an:mj false .aB=some (.aD true):=rfl;simp only[wZ,go_sem,s_,an];exact⟨e_.aC 4,eY.aC _ _⟩
   exact this G w _ g (CX .aO)
  ·refine (hk.aA p c w).mono ?_;rintro e w' ⟨a',c',rfl,O,hr,hs⟩;obtain⟨g',s'⟩:=g.aZ hr hs;refine⟨_,.aL 0 false 4 [],h,G,rfl,⟨?_,eY.aC _ _⟩,g',?_,s'⟩;·simp only[ig,Wg,e_];exact .inr (.inl ⟨0,false,rfl,Vp⟩)
   ·exact V.aD (G:=G) (w:=w') 0 false 4 [] a' c' (λ_ _=>undef) (VP _) (λe=>by cases e) (λ_=>O) (λW=>absurd rfl W) (λe he=>by simp at he) (λi j c hj=>by simp[gi]at hj) (λi j c hj=>by simp[gi]at hj)
 ·refine fN hf ?_;have an:mj false a=some (.aD false):=by
   have hpos:0<l.length:=Xg.2 h0;simp only[ig,Rd]at ha;obtain⟨es,he,C⟩:=ha;have b:=nO C;rw[Vo]at b;rcases he with⟨rfl,rfl⟩ | ⟨t,c,rfl⟩ | ⟨n,off,len,cap,row,gr,rfl,_,u,a0,a2,rfl⟩;·simp at b;omega
   ·simp only[mj,n_,jC,V3];rw[Vf (by omega)];rfl
   ·simp only[Vw,VA]at b;simp only[mj,n_,jC,V3];rw[Vf (by omega)];rfl
  obtain⟨ys,I,M⟩:=(ha.up (eY.b1 (some (.aA 4 [] false)))).aK;obtain⟨o,h',a3,U,hc',a1⟩:=jr (lo:=h.length) (sz:=4) (bytes:=32) (ds:=[]) (h0:=h++[some (.aA 4 [] false)]) (h:=h++[some (.aA 4 [] false)]) (av:=.aF h.length 4 0 0 (some 0))
   (by simp only[e_];exact .inr (.inr ⟨_,0,some 0,[],false,rfl,Vg _,gh _ _,by simp,(λc hc=>by cases hc;simp),by simp[fP]⟩))
   ⟨[],false,gh _ _,(λh=>by cases h),λc hc=>by cases hc;simp⟩ (eY.aC fj _) (HL M) (by simp) (by simp;omega)
  have E:=ic I 32 (.aF h.length 4 0 0 (some 0));rw[a3]at E;simp only[wZ,go_sem,s_,an,E];exact⟨by simpa [ig] using U,(eY.b1 _).aI a1 (λm hm hm'=>by omega)⟩
def mW (P:Program)(f:FuncId)(t:fm->Int):Prop:=fI P f=true/\∀(h:eZ)(r:Nat)(x:fm),nP h r x->fy P f [.aC r 21 0 0] h λres h'=>res=.aA .i64 (t x)/\h'=h
theorem Sy {P:Program}{f:FuncId}(hf:Is P f Bz):mW P f fm.aM:=by refine⟨hf.2,λh r x ⟨g,ff,rr⟩=>fN hf ?_⟩;simp only[fm.aJ]at rr;simp only[Bz,go_sem,rr]
theorem Sh {P:Program}{f:FuncId}(hf:Is P f Bx):mW P f fm.aW:=by refine⟨hf.2,λh r x ⟨g,ff,rr⟩=>fN hf ?_⟩;simp only[fm.aJ]at rr;simp only[Bx,go_sem,rr]
theorem Ri {P:Program}{f:FuncId}(hf:Is P f Bt):mW P f fm.aI:=by refine⟨hf.2,λh r x ⟨g,ff,rr⟩=>fN hf ?_⟩;simp only[fm.aJ]at rr;simp only[Bt,go_sem,rr]
def yF (P:Program)(f:FuncId):Prop:=fI P f=true/\∀(L:Nat->Nat)(h:eZ)(r:Nat)(x:fm),iu L h r x->x.aB.length<=2^20->fy P f [.aC r 21 0 0] h λres h'=>e_ (ig x.aB) (λm=>h.length<=m) h' res/\eY fj h h'
theorem RZ {P:Program}{f g:FuncId}(hf:Is P f (Bv g))(hg:xZ P g):yF P f:=by refine⟨hf.2,λL h r x hx hl=>fN hf ?_⟩;obtain⟨gg,ff,ra⟩:=hx.r;have rr:=ra.aA;have b:=e_.rd _ (F':=λm=>L m=2) (λ_ y=>y) _ ra.fo;simp only[fm.aJ]at rr;simp only[Bv,go_sem,rr];refine fq ⟨hg.1,hg.2 _ h x.aB ff b (by omega)⟩ ?_;rintro v h' ⟨o,e⟩;simp only[go_sem];exact⟨o,e⟩
theorem Tv (l:fE):l.aE (l.aA+1) l.es.length=l.es:=by
 unfold fE.aE;by_cases c:l.es.length=0;·have:l.es=[]:=List.length_eq_zero_iff.1 c;simp[this]
 ·rw[Ve (by unfold fE.aC;omega)];rw[show (l.aA+1-l.aA-1).toNat=0 by omega];simp
def tL (P:Program)(f:FuncId):Prop:=fI P f=true/\∀(F:Nat->Prop)(h:eZ)(x:fV)(a:List AV),fu F h x.c a->jl x.aA->x.aC.aF (2^40)->x.aF.length<=2^40->(x.aA.es.length<=2^40/\(0<=x.aA.aA/\x.aA.aA<=2^60))->
 fy P f [.aE a] h λv h'=>∃b,v=.aE b/\fW x.c (λm=>h.length<=m) h' b/\eY fj h h'
theorem R0 {P:Program}{f f1 f2 f3:FuncId}(hf:Is P f (BX f1 f2 f3))(u1:kS P f1)(u2:rC P f2)(u3:p_ P f3):tL P f:=by
 refine⟨hf.2,λF h x a ha u hc hs hb=>fN hf ?_⟩;obtain⟨e,o,n,l,s,rfl,he,ho,hn,hl,I⟩:=kW ha;obtain⟨H,hH⟩:∃H,H=h++[some (fh.aA 10 [[.aA .i64 x.aD,.aA .i64 x.aB,.aA .i64 x.aE,.aA .i64 x.aA.aA,.aA .i64 x.aA.aB,e,o,n,l,s]] false)]++[some (fh.aA 10 [[.aA .i64 0,.aA .i64 0,.aA .i64 0,.aA .i64 0,.aA .i64 0,.aB,.aB,.aB,.aB,.aB]] false)]:=⟨_,rfl⟩;have X1:eY fj h H:=by rw[hH];exact eY.b2 _ _
 have lH:H.length=h.length+2:=by rw[hH];simp
 have C0:H[h.length]?=some (some (fh.aA 10 [[.aA .i64 x.aD,.aA .i64 x.aB,.aA .i64 x.aE,.aA .i64 x.aA.aA,.aA .i64 x.aA.aB,e,o,n,l,s]] false)):=by rw[hH];exact iE _ _ _
 have C1:H[h.length+1]?=some (some (fh.aA 10 [[.aA .i64 0,.aA .i64 0,.aA .i64 0,.aA .i64 0,.aA .i64 0,.aB,.aB,.aB,.aB,.aB]] false)):=by rw[hH];exact iq _ _ _
 have len:g_ e=some (.aA .i64 x.aA.es.length):=by have:=he.aB;simpa [f_] using this
 have ew:IntKind.i64.wrap (x.aA.aA+1)=x.aA.aA+1:=fQ (by omega);have rl:fu F H x.aA.c [.aA .i64 x.aA.aA,.aA .i64 x.aA.aB,e]:=by have a5:=he.up X1;simp only[fE.c,fu,Rd];exact⟨_,_,rfl,rfl,_,_,rfl,rfl,_,_,rfl,a5,rfl⟩
 simp only[BX,fV.aG,go_sem,he.aA,ho.aA,hn.aA,hl.aA,I.aA];rw[<-hH];clear hH;simp only[go_sem,len,ew];have sl:=u1.2 F H x.aA _ (x.aA.aA+1) x.aA.es.length rl u;rw[Tv]at sl;refine fq ⟨u1.1,sl⟩ ?_;rintro e1 H2 ⟨oe,-,X2⟩;have D0:=X2.aA C0;have D1:=X2.aA C1;have x2:=X2.1;have E:h.length<H2.length:=by omega
 have l21:h.length+1<H2.length:=by omega
 simp only[go_sem,D0,oe.aA,gH oe.aA,E];obtain⟨H3,t⟩:∃H3,H3=H2.set h.length (some (fh.aA 10 [[.aA .i64 x.aD,.aA .i64 x.aB,.aA .i64 x.aE,.aA .i64 x.aA.aA,.aA .i64 x.aA.aB,e1,o,n,l,s]] false)):=⟨_,rfl⟩;have X3:eY fj h H3:=by rw[t];exact (X1.tr X2).aD (Vg _) _
 have K3:∀m,m≠h.length->H3[m]?=H2[m]?:=λm hm=>by rw[t];exact Vb (λz=>hm z.symm)
 have l3:H3.length=H2.length:=by rw[t];simp
 have E0:H3[h.length]?=some (some (fh.aA 10 [[.aA .i64 x.aD,.aA .i64 x.aB,.aA .i64 x.aE,.aA .i64 x.aA.aA,.aA .i64 x.aA.aB,e1,o,n,l,s]] false)):=by rw[t];exact Vd E
 have E1:=(K3 (h.length+1) (by omega)).trans D1;have W:e_ (f_ x.aA.es) (λm=>H.length<=m) H3 e1:=e_.aB _ (λ_ y=>y) (λm hm y hy=>(K3 m (by omega)).trans hy) _ oe;rw[<-t];clear t;have rc:fu F H3 x.aC.c [o,n,l]:=by simp only[fG.c,fu];exact⟨_,_,rfl,ho.up X3,_,_,rfl,hn.up X3,_,_,rfl,hl.up X3,rfl⟩
 refine fq ⟨u2.1,u2.2 F H3 x.aC _ rc hc⟩ ?_;rintro _ H4 ⟨o1,n1,c1,rfl,oo,on,oc,X4⟩;have x4:=X4.1;have F0:=X4.aA E0;have F1:=X4.aA E1;have C:h.length<H4.length:=by omega
 simp only[go_sem,F0,oo.aA,on.aA,oc.aA,C];obtain⟨H5,b⟩:∃H5,H5=H4.set h.length (some (fh.aA 10 [[.aA .i64 x.aD,.aA .i64 x.aB,.aA .i64 x.aE,.aA .i64 x.aA.aA,.aA .i64 x.aA.aB,e1,o1,n1,c1,s]] false)):=⟨_,rfl⟩;have X5:eY fj h H5:=by rw[b];exact (X3.tr X4).aD (Vg _) _
 have K5:∀m,m≠h.length->H5[m]?=H4[m]?:=λm hm=>by rw[b];exact Vb (λz=>hm z.symm)
 have l5:H5.length=H4.length:=by rw[b];simp
 have G0:H5[h.length]?=some (some (fh.aA 10 [[.aA .i64 x.aD,.aA .i64 x.aB,.aA .i64 x.aE,.aA .i64 x.aA.aA,.aA .i64 x.aA.aB,e1,o1,n1,c1,s]] false)):=by rw[b];exact Vd C
 have G1:=(K5 (h.length+1) (by omega)).trans F1;have k5:∀lo,h.length+2<=lo->∀{d:D}{a:AV},e_ d (λm=>lo<=m) H4 a->e_ d (λm=>lo<=m) H5 a:=λlo a4 d a z=>e_.aB _ (λ_ y=>y) (λm hm y hy=>(K5 m (by omega)).trans hy) _ z;have U:=k5 _ (by omega) (e_.aB _ (λ_ y=>y) (X4.aF _) _ W);have M:=k5 _ (by omega) oo;have O:=k5 _ (by omega) on;have a0:=k5 _ (by omega) oc;rw[<-b];clear b;refine fq ⟨u3.1,u3.2 F H5 x.aF s (I.up X5) hs⟩ ?_;rintro s1 H6 ⟨os,X6⟩;have x6:=X6.1;have I0:=X6.aA G0;have I1:=X6.aA G1;have a3:h.length<H6.length:=by omega
 have a2:h.length+1<H6.length:=by omega
 have a1:(h.length=h.length+1)=False:=Vs (by omega);simp only[go_sem,I0,I1,oe.aA,oo.aA,on.aA,oc.aA,os.aA,gH os.aA,a3,a2,a1,Vh];refine⟨_,rfl,?_,?_⟩
 ·have k6:∀{d:D}{a:AV},e_ d (λm=>h.length+2<=m) H6 a->e_ d (λm=>h.length<=m) ((H6.set h.length (some (fh.aA 10 [[.aA .i64 x.aD,.aA .i64 x.aB,.aA .i64 x.aE,.aA .i64 x.aA.aA,.aA .i64 x.aA.aB,e1,o1,n1,c1,s1]] false))).set (h.length+1) (some (fh.aA 10 [[.aA .i64 x.aD,.aA .i64 x.aB,.aA .i64 x.aE,.aA .i64 x.aA.aA,.aA .i64 x.aA.aB,e1,o1,n1,c1,s1]] false))) a:=
   λz=>e_.aB _ (λm hm=>by omega) (λm hm y hy=>(Vb (by omega)).trans ((Vb (by omega)).trans hy)) _ z
  have w6:∀lo,h.length+2<=lo->∀{d:D}{a:AV},e_ d (λm=>lo<=m) H5 a->e_ d (λm=>h.length+2<=m) H6 a:=λlo a4 d a z=>e_.aB _ (λm hm=>by omega) (X6.aF _) _ z;simp only[fV.c,fW,e_];exact⟨_,_,rfl,rfl,_,_,rfl,rfl,_,_,rfl,rfl,_,_,rfl,rfl,_,_,rfl,rfl,_,_,rfl,k6 (w6 _ (by omega) U),_,_,rfl,k6 (w6 _ (by omega) M),_,_,rfl,k6 (w6 _ (by omega) O),_,_,rfl,k6 (w6 _ (by omega) a0),_,_,rfl,k6 (e_.aB _ (λm hm=>by omega) (λ_ _ _ y=>y) _ os),rfl⟩
 ·exact ((X5.tr X6).aD (Vg _) _).aD (by omega) _
def Ej (P:Program)(f:FuncId):Prop:=fI P f=true/\∀(F:Nat->Prop)(h:eZ)(x:fV)(a:List AV),fu F h x.c a->jl x.aA->x.aC.aF (2^40)->x.aF.length<=2^40->(x.aA.es.length<=2^40/\(0<=x.aA.aA/\x.aA.aA<=2^60))->
 fy P f [.aE a] h λv h'=>v=.aE x.v/\h'=h
theorem tL.p {P:Program}{f:FuncId}(hc:tL P f):Ej P f:=⟨hc.1,λF h x a ha h1 h2 h3 h4=>(hc.2 F h x a ha h1 h2 h3 h4).aB λ_ _ ⟨b,e,o,X⟩=>⟨X,_,e▸gM.aA (ds:=x.c) (fW.fz _ (λ_ x=>x) _ o),rfl⟩⟩
def yG (P:Program)(f:FuncId):Prop:=fI P f=true/\∀(h:eZ)(r:Nat)(x:fm),nP h r x->jl x.aA.aA->x.aA.aC.aF (2^40)->x.aA.aF.length<=2^40->(x.aA.aA.es.length<=2^40/\(0<=x.aA.aA.aA/\x.aA.aA.aA<=2^60))->
 fy P f [.aC r 21 0 0] h λv h'=>∃b,v=.aE b/\fW x.aA.c (λm=>h.length<=m) h' b/\eY fj h h'
theorem R9 {P:Program}{f g:FuncId}(hf:Is P f (Bw g))(hg:tL P g):yG P f:=by
 refine⟨hf.2,λh r x ⟨gg,ff,rr⟩ h1 h2 h3 h4=>fN hf ?_⟩;have t:=rr;simp only[fm.aJ]at t;have lr:=(U_.1 rr).1;have R1:∀a,(h++[a])[r]?=_:=λa=>(eY.b1 a).aA t;obtain⟨H,hH⟩:∃H,H=h++[some (fh.aA 10 [[.aA .i64 0,.aA .i64 0,.aA .i64 0,.aA .i64 0,.aA .i64 0,.aB,.aB,.aB,.aB,.aB]] false)]:=⟨_,rfl⟩;have X1:eY fj h H:=by rw[hH];exact eY.b1 _
 have lH:H.length=h.length+1:=by rw[hH];simp
 have C0:H[h.length]?=some (some (fh.aA 10 [[.aA .i64 0,.aA .i64 0,.aA .i64 0,.aA .i64 0,.aA .i64 0,.aB,.aB,.aB,.aB,.aB]] false)):=by rw[hH];exact gh _ _
 simp only[Bw,go_sem,R1];rw[<-hH];clear hH R1;have fr:=hg.2 fj H x.aA _ (qV x.aA H) h1 h2 h3 h4;refine fq ⟨hg.1,fr⟩ ?_;rintro _ H2 ⟨b,rfl,o,X2⟩;have x2:=X2.1;have D0:=X2.aA C0;have l2:h.length<H2.length:=by omega
 obtain⟨e1,o1,n1,c1,s1,rfl,he,ho,hn,hl,u⟩:=kW (fW.rd _ (F':=λm=>H.length<=m) (λ_ y=>y) _ o);simp only[fV.aG]at o ⊢;simp only[go_sem,D0,he.aA,ho.aA,hn.aA,hl.aA,u.aA,l2];refine⟨_,rfl,?_,(X1.tr X2).aD (Vg _) _⟩;exact fW.aA _ (λm hm=>by omega) (λm hm y hy=>(Vb (by omega)).trans hy) _ o
def wh (P:Program)(f:FuncId):Prop:=fI P f=true/\∀(F:Nat->Prop)(h:eZ)(id:Int)(x:fV)(a:List AV)(draw:Int),fu F h x.c a->jl x.aA->x.aC.aF (2^40)->x.aF.length<=2^40->(x.aA.es.length<=2^40/\(0<=x.aA.aA/\x.aA.aA<=2^60))->
 fy P f [.aA .i64 id,.aE a,.aA .i64 draw] h λv h'=>∃r,v=.aC r 21 0 0/\h.length<=r/\h'[r]?=some (some (.aA 21 [(fm.bA id x draw).aJ .aB .aB] false))/\eY fj h h'
theorem Sq {P:Program}{f f1 f2:FuncId}(hf:Is P f (Bs f1 f2))(u1:Ej P f1)(u2:oK P f2):wh P f:=by
 refine⟨hf.2,λF h id x a draw ha h1 h2 h3 h4=>fN hf ?_⟩;obtain⟨e,o,n,l,s,rfl,he,ho,hn,hl,C⟩:=kW ha;obtain⟨H,hH⟩:∃H,H=h++[some (fh.aA 10 [[.aA .i64 x.aD,.aA .i64 x.aB,.aA .i64 x.aE,.aA .i64 x.aA.aA,.aA .i64 x.aA.aB,e,o,n,l,s]] false)]:=⟨_,rfl⟩;have X1:eY fj h H:=by rw[hH];exact eY.b1 _
 have C0:H[h.length]?=some (some (fh.aA 10 [[.aA .i64 x.aD,.aA .i64 x.aB,.aA .i64 x.aE,.aA .i64 x.aA.aA,.aA .i64 x.aA.aB,e,o,n,l,s]] false)):=by rw[hH];exact gh _ _
 have lH:H.length=h.length+1:=by rw[hH];simp
 have u:=ha.up (X1.tr (eY.b1 none));simp only[fV.aG]at u;have fr:=u1.2 F (H++[none]) x _ u h1 h2 h3 h4;simp only[Bs,fV.aG,go_sem,he.aA,ho.aA,hn.aA,hl.aA,C.aA];rw[<-hH];clear hH;have C1:(H++[none])[h.length]?=_:=(eY.b1 none).aA C0;have t:∀a b:Option fh,(H++[a]).set (h.length+1) b=H++[b]:=λa b=>by rw[WC _ _ (by omega),lH];simp
 have C2:(H++[none])[h.length+1]?=some none:=by rw[<-lH];exact gh _ _
 have l2:h.length+1<(H++[none]).length:=by simp[lH]
 refine fR u1.1 fr ?_;simp only[go_sem,C1,C2];refine fR u2.1 (u2.2 _ draw) ?_;simp only[go_sem,C1,C2,fV.aM,n7,iB,l7,t];refine⟨_,rfl,by omega,?_,X1.tr (eY.b1 _)⟩;rw[<-lH];exact gh _ _
theorem Hw {h:eZ}{r:Nat}{id draw:Int}{x:fV} (hr:h[r]?=some (some (.aA 21 [(fm.bA id x draw).aJ .aB .aB] false))):iu (λm=>if m=r then 6 else 0) h r (fm.bA id x draw):=by
 refine⟨⟨.aB,.aB,hr,e_.aC 1,Vp,e_.aC 4,Vp,Vf rfl⟩,λm hm=>?_⟩;by_cases c:m=r;·subst c;exact⟨(U_.1 hr).1,.inr (.inr (Vf rfl))⟩
 ·exact absurd (Ve c) hm
structure Em (A B C:Nat->Prop)(h:eZ)(x:hM)(v:AV):Prop where
 ex:∃ma ca aa,v=.aE [ma,ca,aa,.aA .i64 x.aA,.aD x.aB]/\e_ (ks x.aD) A h ma/\e_ (jQ x.aC) B h ca/\e_ (f_ x.aF) C h aa/\gq h ma/\gq h ca
def kL (L:Nat->Nat):Nat->Nat:=λm=>if L m=1\/L m=2\/L m=6 then L m else 0
theorem jI.aA {L h r x0 x v h'}(a:iu L h r x0)(b:jI L h r x v h'):∃L',iu (kL L') h' r x.r/\(∀m,m<h.length->kL L' m=L m) /\
  Em (λm=>(h.length<=m/\m<h'.length)/\L' m=3) (λm=>(h.length<=m/\m<h'.length)/\L' m=4) (λm=>(h.length<=m/\m<h'.length)/\L' m=5) h' x.o v/\eY (λm=>wA (L m)) h h':=by
 obtain⟨L',o,ma,ca,aa,rfl,⟨g,f,ra⟩,oa,hl,ho,he,hx⟩:=b;have k1:∀m,L' m=1->kL L' m=L' m:=λm e=>by unfold kL;rw[Vf (.inl e)]
 have k2:∀m,L' m=2->kL L' m=L' m:=λm e=>by unfold kL;rw[Vf (.inr (.inl e))]
 have k6:∀m,L' m=6->kL L' m=L' m:=λm e=>by unfold kL;rw[Vf (.inr (.inr e))]
 have kk:∀m,kL L' m≠0->L' m=1\/L' m=2\/L' m=6:=λm e=>by unfold kL at e;exact Vm λz=>e (Ve z)
 have low:∀k,k=3\/k=4\/k=5->∀m,L' m=k->(h.length<=m/\m<h'.length)/\L' m=k:=by intro k hk m e;refine⟨⟨?_,hl m (by omega)⟩,e⟩;apply Vm;intro z;have e1:=he m (by omega);have e2:=(a.aA m (by omega)).2;omega
 refine⟨L',⟨⟨g,f,?_⟩,λm hm=>?_⟩,λm hm=>?_,⟨ma,ca,aa,rfl,?_,?_,?_,oa.mc,oa.cc⟩,hx⟩;·exact⟨ra.aA,e_.aB _ (λm e=>by rw[k1 m e];exact e) (λ_ _ _ y=>y) _ ra.go,ra.gc,e_.aB _ (λm e=>by rw[k2 m e];exact e) (λ_ _ _ y=>y) _ ra.fo,ra.fc,by rw[k6 _ ra.lr];exact ra.lr⟩
 ·have e:=kk m hm;refine⟨hl m (by omega),?_⟩;unfold kL;rw[Vf e];exact e
 ·by_cases c:L' m=1\/L' m=2\/L' m=6
  ·unfold kL;rw[Vf c];exact he m hm
  ·have e1:=he m hm;unfold kL;rw[Ve c];apply Vm;intro z;have e2:=(a.aA m (by omega)).2;omega
 ·exact e_.aB _ (low 3 (by omega)) (λ_ _ _ y=>y) _ oa.m
 ·exact e_.aB _ (low 4 (by omega)) (λ_ _ _ y=>y) _ oa.c
 ·exact e_.aB _ (low 5 (by omega)) (λ_ _ _ y=>y) _ oa.a
theorem iu.up {L h r x h'}(a:iu L h r x)(hx:eY fj h h'):iu L h' r x:=by obtain⟨⟨g,f,ra⟩,lab⟩:=a;exact⟨⟨g,f,ra.aB (λ_ _ _=>rfl) λm hm _=>hx.2 m hm (λy=>y)⟩,λm hm=>⟨by have:=(lab m hm).1;have:=hx.1;omega,(lab m hm).2⟩⟩
theorem iu.aC {L h r x h'}(a:iu L h r x)(hl:h.length<=h'.length) (hk:∀m,L m≠0->h'[m]?=h[m]?):iu L h' r x:=by obtain⟨⟨g,f,ra⟩,lab⟩:=a;refine⟨⟨g,f,ra.aB (λ_ _ _=>rfl) λm hm e=>hk m (by rcases e with e | e | e<;>omega)⟩,λm hm=>⟨by have:=(lab m hm).1;omega,(lab m hm).2⟩⟩
theorem iu.aD {L h r x}(a:iu L h r x):nP h r x:=let⟨g,f,ra⟩:=a.r;⟨g,f,ra.aA⟩
abbrev JI:=ym
abbrev JH:=tC
theorem sV {m:fB}{F:Nat->Prop}{h:eZ}{e d:AV}(he:Rd F h (f_ m.es) e)(hd:Rd F h (fT m.aE) d):fu F h m.c (m.aB e d):=by simp only[fB.c,fB.aB,fu];exact⟨_,_,rfl,rfl,_,_,rfl,rfl,_,_,rfl,rfl,_,_,rfl,rfl,_,_,rfl,rfl,_,_,rfl,rfl,_,_,rfl,rfl,_,_,rfl,rfl,_,_,rfl,rfl,_,_,rfl,rfl,_,_,rfl,rfl,_,_,rfl,rfl,_,_,rfl,rfl,_,_,rfl,rfl,_,_,rfl,rfl,_,_,rfl,he,_,_,rfl,hd,rfl⟩
end Glb
