/-
  A library of its own.
-/
import Derived.Test.YtdeiamnhnfmilaaGreatGlbRafK
set_option linter.unusedSimpArgs false
set_option linter.unusedVariables false
set_option maxRecDepth 10000
set_option maxHeartbeats 8000000
namespace Glb
open Go
structure fV.aO (x:fV):Prop where
 aF:0<=x.aB/\x.aB<=2^40
 aA:0<=x.aA.aA/\x.aA.aA<=2^40
 aD:0<=x.aA.aB/\x.aA.aB<=2^40
 aE:x.aR 500 32768
 aB:x.aC.aI=true
def En (P:Program)(f:FuncId):Prop:=fI P f=true/\∀(F:Nat->Prop)(h:eZ)(x:fV)(a:List AV),fu F h x.c a->fy P f [.aE a] h λr h'=>(∃b,r=.aD b/\(b=true->x.aO))/\h'=h
theorem Sa {P:Program}{f f1 f2:FuncId}(hf:Is P f (zP f1 f2))(u1:DH P f1)(u2:p9 P f2):En P f:=by
 refine⟨hf.2,λF h x a ha=>fy.aB (K:=λv h'=>(∃b,v=.aD b/\(b=true->x.aO))/\eY fj h h') (fN hf ?_) (λr _ ⟨⟨b,e,z⟩,hx⟩=>⟨hx,r,by rw[e];exact gM.aD _,b,e,z⟩)⟩;obtain⟨e,o,n,l,s,rfl,he,ho,hn,hl,u⟩:=kW ha;obtain⟨H,hH⟩:∃H,H=h++[some (fh.aA 10 [[.aA .i64 x.aD,.aA .i64 x.aB,.aA .i64 x.aE,.aA .i64 x.aA.aA,.aA .i64 x.aA.aB,e,o,n,l,s]] false)]++[some (fh.aA 3 [[.aA .i64 x.aA.aA,.aA .i64 x.aA.aB,e]] false)]:=⟨_,rfl⟩;have X1:eY fj h H:=by rw[hH];exact eY.b2 _ _
 have C0:H[h.length]?=some (some (fh.aA 10 [[.aA .i64 x.aD,.aA .i64 x.aB,.aA .i64 x.aE,.aA .i64 x.aA.aA,.aA .i64 x.aA.aB,e,o,n,l,s]] false)):=by rw[hH];exact iE _ _ _
 have C1:H[h.length+1]?=some (some (fh.aA 3 [[.aA .i64 x.aA.aA,.aA .i64 x.aA.aB,e]] false)):=by rw[hH];exact iq _ _ _
 have t:=ha.up X1;simp only[fV.aG]at t;have no:(∃b,AV.aD false=.aD b/\(b=true->x.aO))/\eY fj h H:=⟨⟨_,rfl,λe=>by cases e⟩,X1⟩;simp only[zP,fV.aG,go_sem,he.aA,ho.aA,hn.aA,hl.aA,u.aA];rw[<-hH];clear hH;by_cases c1:0<=x.aB
 ·by_cases c2:x.aB<=1099511627776
  ·by_cases c3:0<=x.aA.aA
   ·by_cases c4:x.aA.aA<=1099511627776
    ·by_cases c5:0<=x.aA.aB
     ·by_cases c6:x.aA.aB<=1099511627776
      ·simp only[go_sem,C0,C1,Vc c1,Vc c2,Vc c3,Vc c4,Vc c5,Vc c6];refine fq ⟨u1.1,u1.2 F H x _ 500 32768 t (by omega) (by omega)⟩ ?_;rintro _ H2 ⟨b,rfl,e2,hb⟩;subst e2;cases b
       ·simp only[go_sem,C0,Vt];have sm:=hb rfl;obtain⟨-,⟨k1,k2,k3⟩,-⟩:=id sm;have rc:fu F H2 x.aC.c [o,n,l]:=by simp only[fG.c,fu];exact⟨_,_,rfl,ho.up X1,_,_,rfl,hn.up X1,_,_,rfl,hl.up X1,rfl⟩
        refine fR u2.1 (u2.2 F H2 x.aC _ rc ⟨by omega,by omega,by omega⟩) ?_;simp only[go_sem];refine⟨⟨_,rfl,λe=>?_⟩,X1⟩;cases cr:x.aC.aI;·rw[cr]at e;cases e
        ·exact⟨⟨c1,c2⟩,⟨c3,c4⟩,⟨c5,c6⟩,sm,cr⟩
       ·simp only[go_sem,Vq];exact no
      ·simp only[go_sem,C0,C1,Vc c1,Vc c2,Vc c3,Vc c4,Vc c5,Va c6];exact no
     ·simp only[go_sem,C0,C1,Vc c1,Vc c2,Vc c3,Vc c4,Va c5];exact no
    ·simp only[go_sem,C0,C1,Vc c1,Vc c2,Vc c3,Va c4];exact no
   ·simp only[go_sem,C0,C1,Vc c1,Vc c2,Va c3];exact no
  ·simp only[go_sem,C0,Vc c1,Va c2];exact no
 ·simp only[go_sem,Va c1];exact no
theorem fV.aO.aC {x:fV}(h:x.aO)(hd:∀e∈x.aA.es,gK e.aA/\gO e.aB/\gO e.aC)(hs:gK x.aF)(hn:gO x.aD/\gO x.aE)(draw:Int){id:Int}(u:1<=id/\id<=7):(fm.bA id x draw).aD 500:=by obtain⟨t,b,bt,⟨⟨s1,s2⟩,-,s3⟩,c⟩:=h;have l:x.aA.aC=x.aA.aA+x.aA.es.length:=rfl;refine⟨⟨b.1,by show x.aA.aA<=_;omega⟩,by show x.aA.es.length<=500;omega,by show x.aA.aC<=_;omega,λe he=>⟨⟨(hd e he).1,by have:=s2 e he;omega⟩,(hd e he).2⟩,c,⟨hs,by show x.aF.length<=_;omega⟩,t,⟨hn.1,hn.2,by unfold gO;show _<=x.aA.aB/\x.aA.aB<=_;omega⟩,⟨Wm _,Wm _,by show x.aA.aA<=x.aA.aC;omega⟩,⟨by show (0:Int)<=0;omega,by show (0:Int)<=_;omega⟩,⟨by show (0:Int)<=0;omega,by show (0:Int)<=1;omega⟩,⟨by show (0:Int)<=0;omega,by show (0:Int)<=_;omega⟩,VP _,⟨VP _,λw hw=>by cases hw⟩,u⟩
def fB.R (m:fB):Prop:=gO m.aD/\gO m.aC/\gO m.to/\gO m.aJ/\gO m.aF/\gO m.aA/\gO m.aI/\gO m.aK/\gO m.aM/\gO m.aQ/\gO m.aO/\gO m.aN/\gO m.aR/\gO m.aP/\(∀e∈m.es,e.R)/\gK m.aE
end Glb
