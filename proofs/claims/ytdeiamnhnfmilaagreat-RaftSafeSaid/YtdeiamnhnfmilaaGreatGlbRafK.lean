/-
  A library of its own.
-/
import Derived.Test.YtdeiamnhnfmilaaGreatGlbRafE
set_option linter.unusedSimpArgs false
set_option linter.unusedVariables false
set_option maxRecDepth 10000
set_option maxHeartbeats 8000000
namespace Glb
open Go
def qY:fF:=⟨1,0,0,⟨0,0,[]⟩,⟨[1],[],[]⟩,[]⟩
def jF:Nat->fj
 | 0=>fj.aQ 1 qY 0
 | i+1=>((jF i).aR 0).r
theorem GR:(fj.aQ 1 qY 0).aD 1:=by refine⟨by decide,by decide,by decide,(by intro e he;cases he),by decide,⟨(by intro e he;cases he),by decide⟩,by decide,⟨⟨by decide,by decide⟩,⟨by decide,by decide⟩,⟨by decide,by decide⟩⟩,by decide,by decide,by decide,by decide,by decide,⟨by decide,(by intro e he;cases he)⟩,by decide⟩
theorem xF:∀i,i<=20->(jF i).aD (1+2*i)
 | 0,_=>GR
 | i+1,h=>fj.bC (xF i (by omega)) (by omega) 0
theorem OA:∀i,i<9->((jF i).aR 0).o.aC.length=0/\((jF i).aR 0).r.aI=0:=by decide +kernel
theorem Oy:((jF 9).aR 0).o.aC.length=2/\((jF 9).aR 0).o.aE=1/\((jF 9).aR 0).o.aF.length=1/\((jF 9).aR 0).r.aI=2:=by decide +kernel
theorem Oz:((jF 10).aP 1 [7]).1=2/\((jF 10).aP 1 [7]).2.2=0/\((jF 10).aP 1 [7]).2.1.o.aE=2/\((jF 10).aP 1 [7]).2.1.o.aF.length=1/\((jF 10).aP 1 [7]).2.1.r.aE=2/\((jF 10).aP 1 [7]).2.1.r.aI=2:=by decide +kernel
def yR (P:Program)(f:FuncId):Prop:=fK P f=true/\∀h:eX,fC P f [] h λv h'=>v=.aF qY.v/\h'=h
theorem QJ {P:Program}{f:FuncId}(hf:Is P f Ac):yR P f:=by
 refine⟨hf.2,λh=>fC.aC (K:=λv h'=>(∃b,v=.aF b/\fI qY.c (λm=>h.length<=m) h' b)/\eW eZ h h') (fS hf ?_) (λr _ ⟨⟨b,e,o⟩,hx⟩=>⟨hx,_,e▸gU.aA (ds:=qY.c) (fI.fz _ (λ_ x=>x) _ o),rfl⟩)⟩;simp only[Ac,go_sem];refine⟨⟨_,rfl,?_⟩,eW.b2 _ _⟩;have o1:eY (fN [1]) (λm=>h.length<=m) (h++[some (e_.aA 10 [[.aA .i64 1,.aA .i64 0,.aA .i64 0,.aA .i64 0,.aA .i64 0,.aD,.aG (h.length+1) 1 0 1 (some 1),.aD,.aD,.aD]] false)]++[some (e_.aA 1 [[.aA .i64 1]] false)]) (.aG (h.length+1) 1 0 1 (some 1)):=
  .inr (.inr ⟨_,0,some 1,_,_,rfl,by omega,iF _ _ _,by simp,(λc hc=>by cases hc;simp),by simp[fG,fI,eY]⟩)
 have z:∀{F h}(sz:Nat),eY (.sl sz []) F h .aD:=λsz=>eY.aD sz;show fI [.aA .i64 1,.aA .i64 0,.aA .i64 0,.aA .i64 0,.aA .i64 0,gK [],fN [1],fN [],fN [],gq []] _ _ _;simp only[fI];exact⟨_,_,rfl,rfl,_,_,rfl,rfl,_,_,rfl,rfl,_,_,rfl,rfl,_,_,rfl,rfl,_,_,rfl,eY.aD 3,_,_,rfl,o1,_,_,rfl,eY.aD 1,_,_,rfl,eY.aD 1,_,_,rfl,eY.aD 1,rfl⟩
def o_ (lo:Nat)(h:eX)(r:Nat)(x:fj):Prop:=∃L,iI L h r x/\∀m,L m≠0->lo<=m
theorem o_.aA {L:Nat->Nat}{lo:Nat}{h:eX}{r:Nat}{x0:fj}{x:RX}{v:AV}{h':eX}(a:iI L h r x0)(u:∀m,L m≠0->lo<=m)(hl:lo<=h.length)(b:jU L h r x v h'):o_ lo h' r x.r/\(∃A B C,Eu A B C h' x.o v)/\eW (λm=>lo<=m) h h':=by
 obtain⟨L',m1,e,ra,hx⟩:=b.aA a;refine⟨⟨_,m1,λm hm=>?_⟩,⟨_,_,_,ra⟩,⟨hx.1,λm hm hn=>hx.2 m hm (λz=>hn (u m z))⟩⟩;by_cases c:m<h.length;·rw[e m c]at hm;exact u m hm
 ·omega
theorem o_.up {lo h h' r x}(a:o_ lo h r x)(hx:eW eZ h h'):o_ lo h' r x:=let⟨L,m,e⟩:=a;⟨L,m.up hx,e⟩
theorem Rw (g:fE->AV)(h:eX)(neg:Bool)(x:fE):gG g h (.x (.aD neg x))=(vB (g x)).map λb=>.aE (b != neg):=Vc rfl rfl
theorem Qa (n sz i o:Nat):vB (.aC n sz i o)=some false:=Vc rfl rfl
def yW (P:Program)(f:FuncId):Prop:=fK P f=true/\∀h:eX,fC P f [] h λv h'=>v=.aE true/\h'=h
theorem RJ {P:Program}{f f1 f2 f3 f4 f5 f6:FuncId}(hf:Is P f (Ag f1 f2 f3 f4 f5 f6))(u1:yR P f1)(u2:qQ P f2)(u3:sF P f3)(u4:pf P f4 fj.aI)(u5:qR P f5)(u6:pf P f6 fj.aE):yW P f:=by
 refine⟨hf.2,λh=>fC.aC (K:=λv h'=>v=.aE true/\eW eZ h h') (fS hf ?_) (λr _ ⟨e,hx⟩=>⟨hx,r,by rw[e];exact gU.aE _,e⟩)⟩;simp only[Ag,go_sem];refine fZ u1.1 (u1.2 h) ?_;simp only[go_sem];refine fy ⟨u2.1,u2.2 eZ h 1 qY _ 0 (HO eZ h qY) (GR.aD (by decide)) ((lA (by decide:qY.aD.aE=true)).le (by decide)) (by decide) (by decide)⟩ ?_;rintro _ h1 ⟨r,rfl,hr,row,X1⟩;have m1:o_ h.length h1 r (jF 0):=by
  refine⟨_,CI row,λm hm=>?_⟩;by_cases c:m=r;·omega
  ·exact absurd (U6 c) hm
 simp only[go_sem,Rw,Qa,show (false != false)=false from rfl];obtain⟨I,hI⟩:∃I:Nat->fX->eX->Prop,∀m L h',I m L h'↔∃i:Nat,lk 1 L=.aC r 21 0 0/\lk 2 L=.aA .i64 i/\o_ h.length h' r (jF i)/\eW eZ h h'/\i<=9/\m=9-i:=⟨_,λ_ _ _=>WA⟩;refine iM I 9 ((hI _ _ _).2 ⟨0,by simp[fm],by simp[fm],m1,X1,by omega,by omega⟩) ?_;intro m L h2 hh;obtain⟨i,k1,k2,⟨L2,mm,ml⟩,X2,hi,rfl⟩:=(hI _ _ _).1 hh;have x2:=X2.1;simp only[Fg,go_sem,k2];refine ij (λci=>?_) (λci=>?_)
 ·simp at ci;have ci:i<9:=by omega
  have ew:IntKind.i64.wrap ((i:Int)+1)=((i+1:Nat):Int):=by rw[gj (by omega)];omega
  have ft:=xF i (by omega);simp only[go_sem,k1];refine fy ⟨u3.1,u3.2 L2 h2 r (jF i) _ 0 mm ft (by omega)⟩ ?_;intro v h3 ro;obtain⟨m3,⟨A,B,C,⟨ma,ca,aa,rfl,oa,ob,oc,-,-⟩⟩,X3⟩:=o_.aA mm ml (by omega) ro;have E:eW eZ h h3:=⟨by have:=X3.1;omega,λm hm _=>(X3.2 m (by omega) (by omega)).trans (X2.2 m hm (λz=>z))⟩;obtain⟨s1,s2⟩:=OA i ci;have lc:ik ca=some (.aA .i64 0):=by have:=(eY.rd _ (F':=B) (λ_ y=>y) _ ob).aC;simpa [nS,s1] using this
  simp only[go_sem,k1,oa.aA,ob.aA,oc.aA,lc,show decide ((0:Int)<0)=false from rfl];have m4:=m3.up (eW.b1 (some (e_.aA 5 [[ma,ca,aa,.aA .i64 ((jF i).aR 0).o.aE,.aE ((jF i).aR 0).o.aA]] false)));obtain⟨L4,q4,r4⟩:=id m4;refine fZ u4.1 (u4.2 _ r _ q4.aE) ?_;simp only[go_sem,k2,s2,ew];exact⟨_,by omega,(hI _ _ _).2 ⟨i+1,by simp[fm,k1],by simp[fm],m4,E.tr (eW.b1 _),by omega,rfl⟩⟩
 ·simp at ci;have:i=9:=by omega
  subst this;have ft:=xF 9 (by omega);simp only[go_sem,k1];refine fy ⟨u3.1,u3.2 L2 h2 r (jF 9) _ 0 mm ft (by omega)⟩ ?_;intro v h3 ro;obtain⟨m3,⟨A,B,C,⟨ma,ca,aa,rfl,oa,ob,oc,-,-⟩⟩,X3⟩:=o_.aA mm ml (by omega) ro;have E:eW eZ h h3:=⟨by have:=X3.1;omega,λm hm _=>(X3.2 m (by omega) (by omega)).trans (X2.2 m hm (λz=>z))⟩;have x23:=E.1;obtain⟨t1,t2,t3,t4⟩:=Oy;obtain⟨p1,p2,p3,p4,p5,p6⟩:=Oz;have lc:ik ca=some (.aA .i64 2):=by have:=(eY.rd _ (F':=B) (λ_ y=>y) _ ob).aC;simpa [nS,t1] using this
  have la:ik aa=some (.aA .i64 1):=by have:=(eY.rd _ (F':=C) (λ_ y=>y) _ oc).aC;simpa [gK,t3] using this
  obtain⟨H4,u⟩:∃H4,H4=h3++[some (e_.aA 5 [[ma,ca,aa,.aA .i64 ((jF 9).aR 0).o.aE,.aE ((jF 9).aR 0).o.aA]] false)]++[some (e_.aA 1 [[.aA .u8 7]] false)]:=⟨_,rfl⟩;have X4:eW eZ h3 H4:=by rw[u];exact eW.b2 _ _
  have l4:H4.length=h3.length+2:=by rw[u];simp
  have C0:H4[h3.length]?=some (some (e_.aA 5 [[ma,ca,aa,.aA .i64 ((jF 9).aR 0).o.aE,.aE ((jF 9).aR 0).o.aA]] false)):=by rw[u];exact jx _ _ _
  have C1:H4[h3.length+1]?=some (some (e_.aA 1 [[.aA .u8 7]] false)):=by rw[u];exact iF _ _ _
  simp only[go_sem,k1,oa.aA,ob.aA,oc.aA];rw[<-u];clear u;obtain⟨L4,q3,r4⟩:=m3;have q4:=q3.up X4;have Z:(jF 10).aD 21:=xF 10 (by omega);have dt:um L4 H4 (gq [7]) (.aG (h3.length+1) 1 0 1 (some 1)):=by refine⟨λm=>m=h3.length+1,?_,λm hm=>⟨by rw[hm];exact q3.ge (by omega),by omega⟩⟩;exact⟨_,.inr (.inr ⟨_,_,_,_,_,_,rfl,rfl,C1,by simp,(λc hc=>by cases hc;simp),rfl⟩),by simp[fY,fu,Rd]⟩
  refine fy ⟨u5.1,u5.2 L4 H4 r (jF 10) 21 1 [7] _ q4 Z (by omega) dt ⟨by intro e he;simp at he;subst he;decide,by decide⟩ (by constructor<;>decide)⟩ ?_;rintro _ h5 ⟨w,rfl,O⟩;obtain⟨L5,m5,e5,⟨mb,cb,ab,rfl,W,U,M,-,-⟩,X5⟩:=O.aA q4;have D0:=(X5.2 h3.length (by omega) (by show ¬wA (L4 h3.length);rw[q3.ge (U8 _)];exact jJ)).trans C0;have x5:=X5.1;have lb:ik ab=some (.aA .i64 1):=by have:=(eY.rd _ (F':=λm=>(H4.length<=m/\m<h5.length)/\L5 m=5) (λ_ y=>y) _ M).aC;simpa [gK,p4] using this
  rw[p1,p2,p3]at *;simp only[go_sem,k1,W.aA,U.aA,M.aA];have C6:=λa=>(eW.b1 a).aA D0;have m6:=m5.up (eW.b1 (some (e_.aA 5 [[mb,cb,ab,.aA .i64 2,.aE ((jF 10).aP 1 [7]).2.1.o.aA]] false)));refine fZ u4.1 (u4.2 _ r _ m6.aE) ?_;simp only[go_sem,k1,C6,p6,t2,lc,la,lb];refine fZ u6.1 (u6.2 _ r _ m6.aE) ?_;simp only[go_sem,p5];have a1:eW eZ h h5:=by refine⟨by omega,λm hm _=>(X5.2 m (by omega) (λz=>?_)).trans ((X4.2 m (by omega) (λy=>y)).trans (E.2 m hm (λy=>y)))⟩;have:=r4 m z;omega
  exact a1.tr (eW.b1 _)
instance (l:List Int):Decidable (gF l):=by unfold gF;infer_instance
instance (n:Int):Decidable (ia n):=by unfold ia;infer_instance
instance (e:fU):Decidable e.aG:=by unfold fU.aG;infer_instance
instance (w:fV):Decidable w.aG:=by unfold fV.aG;infer_instance
end Glb
