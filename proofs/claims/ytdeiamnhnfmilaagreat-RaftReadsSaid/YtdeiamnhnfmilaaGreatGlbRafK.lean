/-
  A library of its own.
-/
import Derived.Test.YtdeiamnhnfmilaaGreatGlbRafE
set_option linter.unusedSimpArgs false
set_option linter.unusedVariables false
set_option maxRecDepth 10000
set_option maxHeartbeats 8000000
namespace Glb
open Go
def q_:fF:=⟨1,0,0,⟨0,0,[]⟩,⟨[1],[],[]⟩,[]⟩
def jD:Nat->eZ
 | 0=>eZ.aU 1 q_ 0
 | i+1=>((jD i).aQ 0).r
theorem FW:(eZ.aU 1 q_ 0).aD 1:=by refine⟨by decide,by decide,by decide,(by intro e he;cases he),by decide,⟨(by intro e he;cases he),by decide⟩,by decide,⟨⟨by decide,by decide⟩,⟨by decide,by decide⟩,⟨by decide,by decide⟩⟩,by decide,by decide,by decide,by decide,by decide,⟨by decide,(by intro e he;cases he)⟩,by decide⟩
theorem xp:∀i,i<=20->(jD i).aD (1+2*i)
 | 0,_=>FW
 | i+1,h=>eZ.bF (xp i (by omega)) (by omega) 0
theorem NM:∀i,i<9->((jD i).aQ 0).o.aA.length=0/\((jD i).aQ 0).r.aG=0:=by decide +kernel
theorem NK:((jD 9).aQ 0).o.aA.length=2/\((jD 9).aQ 0).o.aE=1/\((jD 9).aQ 0).o.aF.length=1/\((jD 9).aQ 0).r.aG=2:=by decide +kernel
theorem NL:((jD 10).aP 1 [7]).1=2/\((jD 10).aP 1 [7]).2.2=0/\((jD 10).aP 1 [7]).2.1.o.aE=2/\((jD 10).aP 1 [7]).2.1.o.aF.length=1/\((jD 10).aP 1 [7]).2.1.r.aE=2/\((jD 10).aP 1 [7]).2.1.r.aG=2:=by decide +kernel
def yH (P:Program)(f:FuncId):Prop:=fP P f=true/\∀h:eW,fC P f [] h λv h'=>v=.aF q_.v/\h'=h
theorem PV {P:Program}{f:FuncId}(hf:Is P f zJ):yH P f:=by
 refine⟨hf.2,λh=>fC.aC (K:=λv h'=>(∃b,v=.aF b/\fI q_.c (λm=>h.length<=m) h' b)/\eV eY h h') (fU hf ?_) (λr _ ⟨⟨b,e,o⟩,hx⟩=>⟨hx,_,e▸gY.aA (ds:=q_.c) (fI.fz _ (λ_ x=>x) _ o),rfl⟩)⟩;simp only[zJ,go_sem];refine⟨⟨_,rfl,?_⟩,eV.b2 _ _⟩;have o1:eX (fM [1]) (λm=>h.length<=m) (h++[some (e_.aA 10 [[.aA .i64 1,.aA .i64 0,.aA .i64 0,.aA .i64 0,.aA .i64 0,.aD,.aG (h.length+1) 1 0 1 (some 1),.aD,.aD,.aD]] false)]++[some (e_.aA 1 [[.aA .i64 1]] false)]) (.aG (h.length+1) 1 0 1 (some 1)):=
  .inr (.inr ⟨_,0,some 1,_,_,rfl,by omega,iO _ _ _,by simp,(λc hc=>by cases hc;simp),by simp[fG,fI,eX]⟩)
 have z:∀{F h}(sz:Nat),eX (.sl sz []) F h .aD:=λsz=>eX.aD sz;show fI [.aA .i64 1,.aA .i64 0,.aA .i64 0,.aA .i64 0,.aA .i64 0,gN [],fM [1],fM [],fM [],gj []] _ _ _;simp only[fI];exact⟨_,_,rfl,rfl,_,_,rfl,rfl,_,_,rfl,rfl,_,_,rfl,rfl,_,_,rfl,rfl,_,_,rfl,eX.aD 3,_,_,rfl,o1,_,_,rfl,eX.aD 1,_,_,rfl,eX.aD 1,_,_,rfl,eX.aD 1,rfl⟩
def pb (lo:Nat)(h:eW)(r:Nat)(x:eZ):Prop:=∃L,iN L h r x/\∀m,L m≠0->lo<=m
theorem pb.aA {L:Nat->Nat}{lo:Nat}{h:eW}{r:Nat}{x0:eZ}{x:RX}{v:AV}{h':eW}(a:iN L h r x0)(u:∀m,L m≠0->lo<=m)(hl:lo<=h.length)(b:jT L h r x v h'):pb lo h' r x.r/\(∃A B C,DI A B C h' x.o v)/\eV (λm=>lo<=m) h h':=by
 obtain⟨L',m1,e,ra,hx⟩:=b.aA a;refine⟨⟨_,m1,λm hm=>?_⟩,⟨_,_,_,ra⟩,⟨hx.1,λm hm hn=>hx.2 m hm (λz=>hn (u m z))⟩⟩;by_cases c:m<h.length;·rw[e m c]at hm;exact u m hm
 ·omega
theorem pb.up {lo h h' r x}(a:pb lo h r x)(hx:eV eY h h'):pb lo h' r x:=let⟨L,m,e⟩:=a;⟨L,m.up hx,e⟩
theorem QU (g:fB->AV)(h:eW)(neg:Bool)(x:fB):gx g h (.x (.aD neg x))=(vp (g x)).map λb=>.aE (b != neg):=UE rfl rfl
theorem Pk (n sz i o:Nat):vp (.aC n sz i o)=some false:=UE rfl rfl
def yN (P:Program)(f:FuncId):Prop:=fP P f=true/\∀h:eW,fC P f [] h λv h'=>v=.aE true/\h'=h
theorem Q5 {P:Program}{f f1 f2 f3 f4 f5 f6:FuncId}(hf:Is P f (zO f1 f2 f3 f4 f5 f6))(u1:yH P f1)(u2:um P f2)(u3:sG P f3)(u4:ou P f4 eZ.aG)(u5:uq P f5)(u6:ou P f6 eZ.aE):yN P f:=by
 refine⟨hf.2,λh=>fC.aC (K:=λv h'=>v=.aE true/\eV eY h h') (fU hf ?_) (λr _ ⟨e,hx⟩=>⟨hx,r,by rw[e];exact gY.aE _,e⟩)⟩;simp only[zO,go_sem];refine gh u1.1 (u1.2 h) ?_;simp only[go_sem];refine fA ⟨u2.1,u2.2 eY h 1 q_ _ 0 (G8 eY h q_) (FW.aC (by decide)) ((mI (by decide:q_.aD.aE=true)).le (by decide)) (by decide) (by decide)⟩ ?_;rintro _ h1 ⟨r,rfl,hr,row,X1⟩;have m1:pb h.length h1 r (jD 0):=by
  refine⟨_,Gn row,λm hm=>?_⟩;by_cases c:m=r;·omega
  ·exact absurd (Uw c) hm
 simp only[go_sem,QU,Pk,show (false != false)=false from rfl];obtain⟨I,hI⟩:∃I:Nat->fV->eW->Prop,∀m L h',I m L h'↔∃i:Nat,lk 1 L=.aC r 21 0 0/\lk 2 L=.aA .i64 i/\pb h.length h' r (jD i)/\eV eY h h'/\i<=9/\m=9-i:=⟨_,λ_ _ _=>VW⟩;refine iM I 9 ((hI _ _ _).2 ⟨0,by simp[fj],by simp[fj],m1,X1,by omega,by omega⟩) ?_;intro m L h2 hh;obtain⟨i,k1,k2,⟨L2,mm,ml⟩,X2,hi,rfl⟩:=(hI _ _ _).1 hh;have x2:=X2.1;simp only[Ex,go_sem,k2];refine iw (λci=>?_) (λci=>?_)
 ·simp at ci;have ci:i<9:=by omega
  have ew:IntKind.i64.wrap ((i:Int)+1)=((i+1:Nat):Int):=by rw[gi (by omega)];omega
  have ft:=xp i (by omega);simp only[go_sem,k1];refine fA ⟨u3.1,u3.2 L2 h2 r (jD i) _ 0 mm ft (by omega)⟩ ?_;intro v h3 ro;obtain⟨m3,⟨A,B,C,⟨ma,ca,aa,rfl,oa,ob,oc,-,-⟩⟩,X3⟩:=pb.aA mm ml (by omega) ro;have E:eV eY h h3:=⟨by have:=X3.1;omega,λm hm _=>(X3.2 m (by omega) (by omega)).trans (X2.2 m hm (λz=>z))⟩;obtain⟨s1,s2⟩:=NM i ci;have lc:ik ca=some (.aA .i64 0):=by have:=(eX.rd _ (F':=B) (λ_ y=>y) _ ob).aC;simpa [nV,s1] using this
  simp only[go_sem,k1,oa.aA,ob.aA,oc.aA,lc,show decide ((0:Int)<0)=false from rfl];have m4:=m3.up (eV.b1 (some (e_.aA 5 [[ma,ca,aa,.aA .i64 ((jD i).aQ 0).o.aE,.aE ((jD i).aQ 0).o.aC]] false)));obtain⟨L4,q4,r4⟩:=id m4;refine gh u4.1 (u4.2 _ r _ q4.aE) ?_;simp only[go_sem,k2,s2,ew];exact⟨_,by omega,(hI _ _ _).2 ⟨i+1,by simp[fj,k1],by simp[fj],m4,E.tr (eV.b1 _),by omega,rfl⟩⟩
 ·simp at ci;have:i=9:=by omega
  subst this;have ft:=xp 9 (by omega);simp only[go_sem,k1];refine fA ⟨u3.1,u3.2 L2 h2 r (jD 9) _ 0 mm ft (by omega)⟩ ?_;intro v h3 ro;obtain⟨m3,⟨A,B,C,⟨ma,ca,aa,rfl,oa,ob,oc,-,-⟩⟩,X3⟩:=pb.aA mm ml (by omega) ro;have E:eV eY h h3:=⟨by have:=X3.1;omega,λm hm _=>(X3.2 m (by omega) (by omega)).trans (X2.2 m hm (λz=>z))⟩;have x23:=E.1;obtain⟨t1,t2,t3,t4⟩:=NK;obtain⟨p1,p2,p3,p4,p5,p6⟩:=NL;have lc:ik ca=some (.aA .i64 2):=by have:=(eX.rd _ (F':=B) (λ_ y=>y) _ ob).aC;simpa [nV,t1] using this
  have la:ik aa=some (.aA .i64 1):=by have:=(eX.rd _ (F':=C) (λ_ y=>y) _ oc).aC;simpa [gN,t3] using this
  obtain⟨H4,u⟩:∃H4,H4=h3++[some (e_.aA 5 [[ma,ca,aa,.aA .i64 ((jD 9).aQ 0).o.aE,.aE ((jD 9).aQ 0).o.aC]] false)]++[some (e_.aA 1 [[.aA .u8 7]] false)]:=⟨_,rfl⟩;have X4:eV eY h3 H4:=by rw[u];exact eV.b2 _ _
  have l4:H4.length=h3.length+2:=by rw[u];simp
  have C0:H4[h3.length]?=some (some (e_.aA 5 [[ma,ca,aa,.aA .i64 ((jD 9).aQ 0).o.aE,.aE ((jD 9).aQ 0).o.aC]] false)):=by rw[u];exact jJ _ _ _
  have C1:H4[h3.length+1]?=some (some (e_.aA 1 [[.aA .u8 7]] false)):=by rw[u];exact iO _ _ _
  simp only[go_sem,k1,oa.aA,ob.aA,oc.aA];rw[<-u];clear u;obtain⟨L4,q3,r4⟩:=m3;have q4:=q3.up X4;have f10:(jD 10).aD 21:=xp 10 (by omega);have dt:yn L4 H4 (gj [7]) (.aG (h3.length+1) 1 0 1 (some 1)):=by refine⟨λm=>m=h3.length+1,?_,λm hm=>⟨by rw[hm];exact q3.ge (by omega),by omega⟩⟩;exact⟨_,.inr (.inr ⟨_,_,_,_,_,_,rfl,rfl,C1,by simp,(λc hc=>by cases hc;simp),rfl⟩),by simp[fY,fm,Rd]⟩
  refine fA ⟨u5.1,u5.2 L4 H4 r (jD 10) 21 1 [7] _ q4 f10 (by omega) dt ⟨by intro e he;simp at he;subst he;decide,by decide⟩ (by constructor<;>decide)⟩ ?_;rintro _ h5 ⟨w,rfl,O⟩;obtain⟨L5,m5,e5,⟨mb,cb,ab,rfl,W,U,M,-,-⟩,X5⟩:=O.aA q4;have D0:=(X5.2 h3.length (by omega) (by show ¬wA (L4 h3.length);rw[q3.ge (Uy _)];exact jF)).trans C0;have x5:=X5.1;have lb:ik ab=some (.aA .i64 1):=by have:=(eX.rd _ (F':=λm=>(H4.length<=m/\m<h5.length)/\L5 m=5) (λ_ y=>y) _ M).aC;simpa [gN,p4] using this
  rw[p1,p2,p3]at *;simp only[go_sem,k1,W.aA,U.aA,M.aA];have C6:=λa=>(eV.b1 a).aA D0;have m6:=m5.up (eV.b1 (some (e_.aA 5 [[mb,cb,ab,.aA .i64 2,.aE ((jD 10).aP 1 [7]).2.1.o.aC]] false)));refine gh u4.1 (u4.2 _ r _ m6.aE) ?_;simp only[go_sem,k1,C6,p6,t2,lc,la,lb];refine gh u6.1 (u6.2 _ r _ m6.aE) ?_;simp only[go_sem,p5];have Z:eV eY h h5:=by refine⟨by omega,λm hm _=>(X5.2 m (by omega) (λz=>?_)).trans ((X4.2 m (by omega) (λy=>y)).trans (E.2 m hm (λy=>y)))⟩;have:=r4 m z;omega
  exact Z.tr (eV.b1 _)
instance (l:List Int):Decidable (gI l):=by unfold gI;infer_instance
instance (n:Int):Decidable (hU n):=by unfold hU;infer_instance
instance (e:fT):Decidable e.aG:=by unfold fT.aG;infer_instance
instance (w:fR):Decidable w.aH:=by unfold fR.aH;infer_instance
end Glb
