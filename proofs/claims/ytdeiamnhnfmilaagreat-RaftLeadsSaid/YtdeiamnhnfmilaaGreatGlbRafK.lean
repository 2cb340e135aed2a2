/-
  A library of its own.
-/
import Derived.Test.YtdeiamnhnfmilaaGreatGlbRafE
set_option linter.unusedSimpArgs false
set_option linter.unusedVariables false
set_option maxRecDepth 10000
set_option maxHeartbeats 8000000
namespace Glb
open Go
def sP:fP:=⟨1,0,0,⟨0,0,[]⟩,⟨[1],[],[]⟩,[]⟩
def j8:Nat->fy
 | 0=>fy.aU 1 sP 0
 | i+1=>((j8 i).aV 0).r
theorem Im:(fy.aU 1 sP 0).aG 1:=by refine⟨δ,δ,δ,(by intro e he;cases he),δ,⟨(by intro e he;cases he),δ⟩,δ,⟨⟨δ,δ⟩,⟨δ,δ⟩,⟨δ,δ⟩⟩,δ,δ,δ,δ,δ,⟨δ,(by intro e he;cases he)⟩,δ⟩
theorem zc:∀i,i<=20->(j8 i).aG (1+2*i)
 | 0,_=>Im
 | i+1,h=>fy.bN (zc i ω) ω 0
theorem Qe:∀i,i<9->((j8 i).aV 0).o.aC.length=0/\((j8 i).aV 0).r.aE=0:=by decide +kernel
theorem Qc:((j8 9).aV 0).o.aC.length=2/\((j8 9).aV 0).o.aE=1/\((j8 9).aV 0).o.aF.length=1/\((j8 9).aV 0).r.aE=2:=by decide +kernel
theorem Qd:((j8 10).aP 1 [7]).1=2/\((j8 10).aP 1 [7]).2.2=0/\((j8 10).aP 1 [7]).2.1.o.aE=2/\((j8 10).aP 1 [7]).2.1.o.aF.length=1/\((j8 10).aP 1 [7]).2.1.r.aD=2/\((j8 10).aP 1 [7]).2.1.r.aE=2:=by decide +kernel
def Ay (P:Program)(f:FuncId):Prop:=fZ P f=true/\∀h:fu,fO P f [] h λv h'=>v=.aF sP.v/\h'=h
theorem SJ {P:Program}{f:FuncId}(hf:Is P f Bs):Ay P f:=by
 refine⟨hf.2,λh=>fO.aC (K:=λv h'=>(∃b,v=.aF b/\fU sP.c (λm=>h.length<=m) h' b)/\fq fB h h') (gy hf ?_) (λr _ ⟨⟨b,e,o⟩,hx⟩=>⟨hx,_,e▸iu.aA (ds:=sP.c) (fU.fz _ (λ_ x=>x) _ o),rfl⟩)⟩;simp only[Bs,go_sem];refine⟨⟨_,rfl,?_⟩,fq.b2 _ _⟩;have o1:fA (f_ [1]) (λm=>h.length<=m) (h++[some (fC.aA 10 [[.aD .i64 1,.aD .i64 0,.aD .i64 0,.aD .i64 0,.aD .i64 0,.aC,.aG (h.length+1) 1 0 1 (some 1),.aC,.aC,.aC]] false)]++[some (fC.aA 1 [[.aD .i64 1]] false)]) (.aG (h.length+1) 1 0 1 (some 1)):=
  .inr (.inr ⟨_,0,some 1,_,_,rfl,ω,jy _ _ _,ς,(λc hc=>by cases hc;simp),by simp[fQ,fU,fA]⟩)
 have z:∀{F h}(sz:Nat),fA (.sl sz []) F h .aC:=λsz=>fA.aD sz;show fU [.aA .i64 1,.aA .i64 0,.aA .i64 0,.aA .i64 0,.aA .i64 0,gZ [],f_ [1],f_ [],f_ [],gG []] _ _ _;simp only[fU];exact⟨_,_,rfl,rfl,_,_,rfl,rfl,_,_,rfl,rfl,_,_,rfl,rfl,_,_,rfl,rfl,_,_,rfl,fA.aD 3,_,_,rfl,o1,_,_,rfl,fA.aD 1,_,_,rfl,fA.aD 1,_,_,rfl,fA.aD 1,rfl⟩
def qh (lo:Nat)(h:fu)(r:Nat)(x:fy):Prop:=∃L,jn L h r x/\∀m,L m≠0->lo<=m
theorem qh.aA {L:Nat->Nat}{lo:Nat}{h:fu}{r:Nat}{x0:fy}{x:RX}{v:AV}{h':fu}(a:jn L h r x0)(u:∀m,L m≠0->lo<=m)(hl:lo<=h.length)(b:lA L h r x v h'):qh lo h' r x.r/\(∃A B C,FP A B C h' x.o v)/\fq (λm=>lo<=m) h h':=by
 obtain⟨L',m1,e,ra,hx⟩:=b.aA a;refine⟨⟨_,m1,λm hm=>?_⟩,⟨_,_,_,ra⟩,⟨hx.1,λm hm hn=>hx.2 m hm (λz=>hn (u m z))⟩⟩;by_cases c:m<h.length;·rw[e m c]at hm;exact u m hm
 ·omega
theorem qh.up {lo h h' r x}(a:qh lo h r x)(hx:fq fB h h'):qh lo h' r x:=let⟨L,m,e⟩:=a;⟨L,m.up hx,e⟩
theorem TE (g:fN->AV)(h:fu)(neg:Bool)(x:fN):gM g h (.x (.aD neg x))=(wW (g x)).map λb=>.aE (b != neg):=W_ rfl rfl
theorem RU (n sz i o:Nat):wW (.aA n sz i o)=some false:=W_ rfl rfl
def qZ (P:Program)(f:FuncId):Prop:=fZ P f=true/\∀h:fu,fO P f [] h λv h'=>v=.aE true/\h'=h
theorem TP {P:Program}{f f1 f2 f3 f4 f5 f6:FuncId}(hf:Is P f (Bw f1 f2 f3 f4 f5 f6))(u1:Ay P f1)(u2:sG P f2)(u3:sH P f3)(u4:kK P f4 fy.aE)(u5:qp P f5)(u6:kK P f6 fy.aD):qZ P f:=by
 refine⟨hf.2,λh=>fO.aC (K:=λv h'=>v=.aE true/\fq fB h h') (gy hf ?_) (λr _ ⟨e,hx⟩=>⟨hx,r,by rw[e];exact iu.aE _,e⟩)⟩;simp only[Bw,go_sem];refine gH u1.1 (u1.2 h) ?_;simp only[go_sem];refine fK ⟨u2.1,u2.2 fB h 1 sP _ 0 (Jn fB h sP) (Im.aC δ) ((nE (by decide:sP.aD.aF=true)).le δ) δ δ⟩ ?_;rintro _ h1 ⟨r,rfl,hr,row,X1⟩;have m1:qh h.length h1 r (j8 0):=by
  refine⟨_,Ea row,λm hm=>?_⟩;by_cases c:m=r;·omega
  ·exact absurd (WY c) hm
 simp only[go_sem,TE,RU,show (false != false)=false from rfl];obtain⟨I,hI⟩:∃I:Nat->gx->fu->Prop,∀m L h',I m L h'↔∃i:Nat,lk 1 L=.aA r 21 0 0/\lk 2 L=ι i/\qh h.length h' r (j8 i)/\fq fB h h'/\i<=9/\m=9-i:=⟨_,λ_ _ _=>YD⟩;refine iP I 9 ((hI _ _ _).2 ⟨0,by simp[fE],by simp[fE],m1,X1,ω,ω⟩) ?_;intro m L h2 hh;obtain⟨i,k1,k2,⟨L2,mm,ml⟩,X2,hi,rfl⟩:=(hI _ _ _).1 hh;have x2:=X2.1;simp only[GO,go_sem,k2];refine iQ (λci=>?_) (λci=>?_)
 ·simp at ci;have ci:i<9:=ω;have ew:IntKind.i64.wrap ((i:Int)+1)=((i+1:Nat):Int):=by rw[gF ω];omega
  have ft:=zc i ω;simp only[go_sem,k1];refine fK ⟨u3.1,u3.2 L2 h2 r (j8 i) _ 0 mm ft ω⟩ ?_;intro v h3 ro;obtain⟨m3,⟨A,B,C,⟨ma,ca,aa,rfl,oa,ob,oc,-,-⟩⟩,X3⟩:=qh.aA mm ml ω ro;have E:fq fB h h3:=⟨by have:=X3.1;omega,λm hm _=>(X3.2 m ω ω).trans (X2.2 m hm (λz=>z))⟩;obtain⟨s1,s2⟩:=Qe i ci;have lc:iJ ca=some (ι 0):=by have:=(fA.rd _ (F':=B) (λ_ y=>y) _ ob).aC;simpa [oX,s1] using this
  simp only[go_sem,k1,oa.aA,ob.aA,oc.aA,lc,show decide ((0:Int)<0)=false from rfl];have m4:=m3.up (fq.b1 (some (fC.aA 5 [[ma,ca,aa,ι ((j8 i).aV 0).o.aE,.aE ((j8 i).aV 0).o.aD]] false)));obtain⟨L4,q4,r4⟩:=id m4;refine gH u4.1 (u4.2 _ r _ q4.aE) ?_;simp only[go_sem,k2,s2,ew];exact⟨_,ω,(hI _ _ _).2 ⟨i+1,by simp[fE,k1],by simp[fE],m4,E.tr (fq.b1 _),ω,rfl⟩⟩
 ·simp at ci;have:i=9:=ω;subst this;have ft:=zc 9 ω;simp only[go_sem,k1];refine fK ⟨u3.1,u3.2 L2 h2 r (j8 9) _ 0 mm ft ω⟩ ?_;intro v h3 ro;obtain⟨m3,⟨A,B,C,⟨ma,ca,aa,rfl,oa,ob,oc,-,-⟩⟩,X3⟩:=qh.aA mm ml ω ro;have E:fq fB h h3:=⟨by have:=X3.1;omega,λm hm _=>(X3.2 m ω ω).trans (X2.2 m hm (λz=>z))⟩;have x23:=E.1;obtain⟨t1,t2,t3,t4⟩:=Qc;obtain⟨p1,p2,p3,p4,p5,p6⟩:=Qd;have lc:iJ ca=some (ι 2):=by have:=(fA.rd _ (F':=B) (λ_ y=>y) _ ob).aC;simpa [oX,t1] using this
  have la:iJ aa=some (ι 1):=by have:=(fA.rd _ (F':=C) (λ_ y=>y) _ oc).aC;simpa [gZ,t3] using this
  obtain⟨H4,u⟩:∃H4,H4=h3++[some (fC.aA 5 [[ma,ca,aa,ι ((j8 9).aV 0).o.aE,.aE ((j8 9).aV 0).o.aD]] false)]++[some (fC.aA 1 [[.aD .u8 7]] false)]:=⟨_,rfl⟩;have X4:fq fB h3 H4:=by rw[u];exact fq.b2 _ _
  have l4:H4.length=h3.length+2:=by rw[u];simp
  have C0:H4[h3.length]?=ar 5 [[ma,ca,aa,ι ((j8 9).aV 0).o.aE,.aE ((j8 9).aV 0).o.aD]]:=by rw[u];exact kr _ _ _
  have C1:H4[h3.length+1]?=ar 1 [[.aD .u8 7]]:=by rw[u];exact jy _ _ _
  simp only[go_sem,k1,oa.aA,ob.aA,oc.aA];rw[<-u];clear u;obtain⟨L4,q3,r4⟩:=m3;have q4:=q3.up X4;have f10:(j8 10).aG 21:=zc 10 ω;have dt:xD L4 H4 (gG [7]) (.aG (h3.length+1) 1 0 1 (some 1)):=by refine⟨λm=>m=h3.length+1,?_,λm hm=>⟨by rw[hm];exact q3.ge ω,ω⟩⟩;exact⟨_,.inr (.inr ⟨_,_,_,_,_,_,rfl,rfl,C1,ς,(λc hc=>by cases hc;simp),rfl⟩),by simp[gB,fH,Rd]⟩
  refine fK ⟨u5.1,u5.2 L4 H4 r (j8 10) 21 1 [7] _ q4 f10 ω dt ⟨by intro e he;simp at he;subst he;decide,δ⟩ (by constructor<;>decide)⟩ ?_;rintro _ h5 ⟨w,rfl,U⟩;obtain⟨L5,m5,e5,⟨mb,cb,ab,rfl,Z,W,O,-,-⟩,X5⟩:=U.aA q4;have D0:=(X5.2 h3.length ω (by show ¬wA (L4 h3.length);rw[q3.ge (WX _)];exact kl)).trans C0;have x5:=X5.1;have lb:iJ ab=some (ι 1):=by have:=(fA.rd _ (F':=λm=>(H4.length<=m/\m<h5.length)/\L5 m=5) (λ_ y=>y) _ O).aC;simpa [gZ,p4] using this
  rw[p1,p2,p3]at *;simp only[go_sem,k1,Z.aA,W.aA,O.aA];have C6:=λa=>(fq.b1 a).aA D0;have m6:=m5.up (fq.b1 (some (fC.aA 5 [[mb,cb,ab,ι 2,.aE ((j8 10).aP 1 [7]).2.1.o.aD]] false)));refine gH u4.1 (u4.2 _ r _ m6.aE) ?_;simp only[go_sem,k1,C6,p6,t2,lc,la,lb];refine gH u6.1 (u6.2 _ r _ m6.aE) ?_;simp only[go_sem,p5];have a1:fq fB h h5:=by refine⟨ω,λm hm _=>(X5.2 m ω (λz=>?_)).trans ((X4.2 m ω (λy=>y)).trans (E.2 m hm (λy=>y)))⟩;have:=r4 m z;omega
  exact a1.tr (fq.b1 _)
instance (l:List Int):Decidable (gT l):=by unfold gT;infer_instance
instance (n:Int):Decidable (iA n):=by unfold iA;infer_instance
instance (e:gw):Decidable e.aG:=by unfold gw.aG;infer_instance
instance (w:fS):Decidable w.aG:=by unfold fS.aG;infer_instance
end Glb
