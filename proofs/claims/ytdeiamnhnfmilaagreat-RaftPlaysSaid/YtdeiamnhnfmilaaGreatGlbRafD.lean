/-
  A library of its own.
-/
import Derived.Test.YtdeiamnhnfmilaaGreatGlbRafC
set_option linter.unusedSimpArgs false
set_option linter.unusedVariables false
set_option maxRecDepth 10000
set_option maxHeartbeats 8000000
namespace Glb
open Go
structure fB.aL (m:fB):Prop where
 es:m.es.length<=200/\∀e∈m.es,e.aD
 aA:gK m.aE/\m.aE.length<=2^16
 aE:m.aF<=2^40
 aD:gO m.aC/\gO m.aI
 aB:3<=m.aD->0<=m.aA/\m.aA<=2^40
theorem fB.aL.aC {m:fB}(h:m.aL):iK m.es:=⟨by have:=h.es.1;omega,λe he=>by have:=(h.es.2 e he).1.2;omega⟩
section
variable {k:Nat} {x:fm}
theorem fE.aO {l:fE}{p:Int}{e:List gj}(h0:0<=l.aA)(hp:l.aD p=true)(hc:l.aI p e=0):p+e.length<=l.aC:=by
 have h1:=oX.1 hp;by_cases c:l.aJ (p+1) e<e.length;·rw[(CG hp c).2]at hc;omega
 ·have:=EL (e:=e) hp;have:=EM l e (p+1);omega
theorem fm.aD.a_ (h:x.aD k){m:fB}(hm:m.aL)(hi:0<=m.aA/\m.aA<=2^40)(hp:x.aA.aA.aD m.aA=true)(C:x.aI<x.aA.aA.aI m.aA m.es):({x with aA:={x.aA with aA:=x.aA.aA.aF m.aA m.es}}:fm).aD (k+200)/\(x.aA.aA.aF m.aA m.es).aC=m.aA+m.es.length:=by
 have hb:=h.aC;have h0:=h.aK;have b:x.aA.aA.aJ (m.aA+1) m.es<m.es.length:=by
  apply Vm;intro c;have:x.aA.aA.aI m.aA m.es=0:=by unfold fE.aI;rw[Ve (λz=>c z.2)]
  omega
 have e1:=CG hp b;have e2:=Pv hp b;have hl:=hm.es.1;rw[e1.2]at C;obtain⟨g1,g2,g3,g4,g5,g6,g7,g8,g9,u,O,t,M,I,E⟩:=h;refine⟨⟨?_,?_,?_,?_,g5,g6,g7,?_,⟨?_,g9.2.1,?_⟩,⟨u.1,Int.le_trans u.2 (by omega)⟩,O,⟨t.1,Int.le_trans t.2 (by omega)⟩,Vr M (by omega),I,E⟩,e2⟩;·show 0<=(x.aA.aA.aF m.aA m.es).aA/\(x.aA.aA.aF m.aA m.es).aA<=2^40+((k+200:Nat):Int);rw[(CF _ _ _).1];exact⟨g1.1,by omega⟩
 ·show (x.aA.aA.aF m.aA m.es).es.length<=k+200;rw[e1.1];simp only[Vj,Vw,VA];omega
 ·show (x.aA.aA.aF m.aA m.es).aC<=2^40+((k+200:Nat):Int);rw[e2];omega
 ·show ∀e∈(x.aA.aA.aF m.aA m.es).es,e.aD;rw[e1.1];intro e he;simp only[V7]at he;rcases he with he | he;·exact g4 e (V0 he)
  ·exact hm.es.2 e (VM he)
 ·show gO x.aA.aD/\gO x.aA.aE/\gO (x.aA.aA.aF m.aA m.es).aB;rw[(CF _ _ _).2];exact g8
 ·show (x.aA.aA.aF m.aA m.es).aA<=x.aO;rw[(CF _ _ _).1];exact g9.1
 ·show x.aI<=(x.aA.aA.aF m.aA m.es).aC;rw[e2];omega
theorem LX {l:fE}{b:Int}(hb:l.aD b=true):l.aK b=⟨b,l.aG b,l.es.drop (b-l.aA).toNat⟩/\(l.aK b).aC=l.aC:=by
 have h1:=oX.1 hb;have e:l.aK b=⟨b,l.aG b,l.es.drop (b-l.aA).toNat⟩:=by simp only[fE.aK,hb,V3]
 refine⟨e,?_⟩;rw[e];unfold fE.aC at *;simp only[VA];omega
theorem Dp (h:x.aD k){base term:Int}(hb:0<=base/\base<=2^40+k)(ht:gO term):
  (x.aS base term).aA=base/\(x.aS base term).aB=term/\(x.aS base term).es.length<=k/\(x.aS base term).aC<=2^40+k/\(∀e∈(x.aS base term).es,e.aD)/\base<=(x.aS base term).aC /\
   (x.aA.aA.aD base=true/\x.aA.aA.aG base=term->(x.aS base term).aC=x.aA.aA.aC):=by
 unfold fm.aS;split;·rename_i c;obtain⟨e1,e2⟩:=LX c.1;have h1:=oX.1 c.1;rw[e2,e1];refine⟨rfl,c.2,?_,h.aE,λe he=>h.aS e (VM he),h1.2,λ_=>rfl⟩;have:=h.aR;simp only[VA];omega
 ·rename_i c;refine⟨rfl,rfl,by simp,?_,by simp,by unfold fE.aC;simp,λz=>absurd z c⟩;unfold fE.aC;simp;omega
theorem fm.aD.bD (h:x.aD k){base term c a:Int}{cf:fG}{snap:List Int}(hb:0<=base/\base<=2^40+k)(ht:gO term)(hc:cf.aI=true)(hs:gK snap/\snap.length<=2^16)
  (h1:base<=a/\a<=c/\c<=(x.aS base term).aC):({x with aA:={x.aA with aA:=x.aS base term,aC:=cf,aF:=snap},aI:=c,aO:=a}:fm).aD k:=by
 obtain⟨s1,s2,s3,s4,s5,s6,-⟩:=Dp h hb ht;obtain⟨g1,g2,g3,g4,g5,g6,g7,g8,g9,I,E,C,u,t,b⟩:=h;refine⟨?_,s3,s4,s5,hc,hs,g7,?_,⟨?_,h1.2.1,h1.2.2⟩,I,E,C,u,t,b⟩;·show 0<=(x.aS base term).aA/\(x.aS base term).aA<=2^40+k;rw[s1];exact hb
 ·show gO x.aA.aD/\gO x.aA.aE/\gO (x.aS base term).aB;rw[s2];exact⟨g8.1,g8.2.1,ht⟩
 ·show (x.aS base term).aA<=a;rw[s1];exact h1.1
end
def yD (P:Program)(f:FuncId):Prop:=fI P f=true/\∀(L:Nat->Nat)(h:eZ)(r o:Nat)(x:RX)(k j:Nat)(m:fB)(a:List AV),gS L h r o x->x.r.aD k->k+200<=2^28->x.aA j->j+1<2^20->kH L h m a->m.aL->0<=m.aA/\m.aA<=2^40->
 fy P f [.aE [.aC r 21 0 0,.aC o 5 0 0],.aE a] h λ_ h'=>fF wA fj L h r o (x.aE m) h'
theorem Rf {P:Program}{f f1 f2 f3 f4 f5 f6:FuncId}(hf:Is P f (lD f1 f2 f3 f4 f5 f6))(u1:vY P f1)(u2:jP P f2)(u3:oJ P f3)(u4:xW P f4)(u5:kS P f5)(u6:rN P f6):yD P f:=by
 refine⟨hf.2,λL h r o x k j m a hx t hk hj ac hm a2 ab=>fN hf ?_⟩;obtain⟨G,hr,h0⟩:=id hm;obtain⟨e,d,rfl,he,hd⟩:=jS hr;have ap:=hx.aB;obtain⟨R,out⟩:=x;simp only at t;have hmes:=a2.es.1;have le:g_ e=some (.aA .i64 m.es.length):=by have:=he.aB;simpa [f_] using this
 have wn:IntKind.i64.wrap (m.aA+m.es.length)=m.aA+m.es.length:=fQ (by omega);have wi:IntKind.i64.wrap (m.aA-1)=m.aA-1:=fQ (by omega);have hlast:=t.aE;have hbase:=t.aC;obtain⟨H,hH⟩:∃H,H=h++[some (fh.aA 2 [[.aC r 21 0 0,.aC o 5 0 0]] false)]++[some (fh.aA 17 [m.aB e d] false)]:=⟨_,rfl⟩;have X1:eY fj h H:=by rw[hH];exact eY.b2 _ _
 have lH:H.length=h.length+2:=by rw[hH];simp
 have C0:H[h.length]?=some (some (fh.aA 2 [[.aC r 21 0 0,.aC o 5 0 0]] false)):=by rw[hH];exact iE _ _ _
 have C1:H[h.length+1]?=some (some (fh.aA 17 [m.aB e d] false)):=by rw[hH];exact iq _ _ _
 have I:=hx.up X1;have z2:∀m,h.length<=m->¬wA (L m):=λm e=>by rw[hx.ge e];exact iZ
 have a9:fu (λn=>G n/\n<h.length) H m.c (m.aB e d):=fu.aA (λ_ y=>y) (X1.aF _) _ _ (fu.lt _ _ hr);have a8:∀{y H'},fF wA fj L H r o y H'->fu (λn=>G n/\n<h.length) H' m.c (m.aB e d):=λT=>fu.aA (λ_ y=>y) (λn hn y hy=>T.aA (by rw[h0 n hn.1];exact iZ) (λz=>z) hy) _ _ a9;have U:∀{y H'}(j:Nat)(ok:Bool)(ix:Int),fF wA fj L H r o y H'->y.aA j->j<2^20->fy P f1 [.aE [.aC r 21 0 0,.aC o 5 0 0],.aE (m.aB e d),.aD ok,.aA .i64 ix] H' λ_ h''=>fF wA fj L H r o (y.aM m ok ix) h'':=fun {y H'} j ok ix T yf hj=>fF.aC (Q':=fj) T (eY.aC _ _) (λ_ _ y=>y) λL1 x1=>(u1.2 L1 H' r o y j m _ _ ok ix x1 yf hj (a8 T)).aA λ_ _ b=>b.aF me;simp only[fB.aB]at U;have u:∀(Le:fY)(H':eZ)(y:RX),(RX.aE ⟨R,out⟩ m)=(({y with r:={y.r with aI:=max y.r.aI (min m.aK (m.aA+m.es.length))}}:RX).aM m true (m.aA+m.es.length))->y.aA (j+1)->lk 2 Le=.aC h.length 2 0 0->lk 3 Le=.aC (h.length+1) 17 0 0->fF wA fj L H r o y H'->
   vc P (lD f1 f2 f3 f4 f5 f6).aA.tl.tl.tl.tl.tl ⟨Le,[],H'⟩ (ia (lD f1 f2 f3 f4 f5 f6).aB λ_ h'=>fF wA fj L h r o (RX.aE ⟨R,out⟩ m) h'):=by
  intro Le H' y ey yf k2 k3 T;have D0:=T.aA (z2 _ (Vg _)) (λy=>y) C0;have D1:=T.aA (z2 _ (by omega)) (λy=>y) C1;obtain⟨g,ff,rr⟩:=T.aD;have C:=rr;simp only[fm.aJ]at C;simp only[fB.aB]at D1;have lr:=(U_.1 rr).1;have q0:(r=h.length)=False:=Vs (by omega);have q1:(r=h.length+1)=False:=Vs (by omega);rw[ey];simp only[lD,AC.aA,go_sem,k2,k3,D0,D1,le,wn,C,nu,nw,lZ,q0,q1,lr];have T1:=fF.aG (R:=y.r) (out:=y.o) (R':={y.r with aI:=max y.r.aI (min m.aK (m.aA+m.es.length))}) T rr rfl rfl (λ_ z=>z);simp only[fm.aJ]at T1;have an:=U (j+1) true (m.aA+m.es.length) T1 yf ac;refine fq ⟨u1.1,an⟩ ?_;intro _ H2 T2;simp only[go_sem];exact fF.aB X1 T2
 have e0:(lD f1 f2 f3 f4 f5 f6).aA=.aB (lD f1 f2 f3 f4 f5 f6).aA.hd (.aB (lD f1 f2 f3 f4 f5 f6).aA.tl.hd (.aB (lD f1 f2 f3 f4 f5 f6).aA.tl.tl.hd (.aB (lD f1 f2 f3 f4 f5 f6).aA.tl.tl.tl.hd (.aB (lD f1 f2 f3 f4 f5 f6).aA.tl.tl.tl.tl.hd (lD f1 f2 f3 f4 f5 f6).aA.tl.tl.tl.tl.tl)))):=rfl;rw[e0];generalize (lD f1 f2 f3 f4 f5 f6).aA.tl.tl.tl.tl.tl=D at u ⊢;have a0:=u;simp only[lD,fC]at a0;clear u;obtain⟨g,ff,rr⟩:=I.aA;have C:=rr;have E:=C1;simp only[fm.aJ]at C;simp only[fB.aB]at E hH;have lr:=(U_.1 rr).1;have q0:(r=h.length)=False:=Vs (by omega);have q1:(r=h.length+1)=False:=Vs (by omega);have q2:(h.length=r)=False:=Vs (by omega);have q3:(h.length+1=r)=False:=Vs (by omega);simp only[lD,AC.aG,AC.aA,go_sem,fB.aB,he.aA,hd.aA];rw[<-hH];clear hH;have tc:=u2.2 fj H R.aA.aA _ m.aA (lY R.aA.aA H) (t.aB (by omega));simp only[go_sem,C];by_cases c1:m.aA<R.aA.aA.aA
 ·simp only[go_sem,C,C0,E,Vc c1];have ea:(RX.aE ⟨R,out⟩ m)=RX.aM ⟨R,out⟩ m true R.aI:=by unfold RX.aE;rw[Vf c1]
  rw[ea];refine fq ⟨u1.1,U j true R.aI I.to hj (by omega)⟩ ?_;intro _ H2 T2;rw[gF];simp only[go_sem];exact fF.aB X1 T2
 ·simp only[go_sem,C,C0,E,Va c1];refine fR u2.1 tc ?_;rw[gF];have no:(R.aA.aA.aD m.aA=false\/¬R.aA.aA.aG m.aA=m.aI)->(RX.aE ⟨R,out⟩ m)=RX.aM ⟨R,out⟩ m false (max 0 (min R.aK (m.aA-1))):=λc=>by unfold RX.aE;rw[Ve c1,Vf c]
  have a1:(RX.aE ⟨R,out⟩ m)=RX.aM ⟨R,out⟩ m false (max 0 (min R.aK (m.aA-1)))->nI P f1 [.aE [.aC r 21 0 0,.aC o 5 0 0],.aE (m.aB e d),.aD false,.aA .i64 (max 0 (min R.aK (m.aA-1)))] H λ_ h'=>fF wA fj L h r o (RX.aE ⟨R,out⟩ m) h':=λe=>by rw[e];refine fq ⟨u1.1,U j false (max 0 (min R.aK (m.aA-1))) I.to hj (by omega)⟩ ?_;intro _ H2 T2;exact fF.aB X1 T2
  simp only[fB.aB]at a1;cases c2:R.aA.aA.aD m.aA;·simp only[go_sem,C,C0,E,Vt,wi];refine fR u3.1 (u3.2 H r R I.aA (t.aB (by omega))) ?_;rw[gF];simp only[go_sem,C0,E,lZ,nu,nw];refine fq (a1 (no (.inl c2))) ?_;intro _ H2 T2;rw[gF];simp only[go_sem];exact T2
  ·by_cases c3:R.aA.aA.aG m.aA=m.aI
   ·simp only[go_sem,C,C0,E,Vq,Vc c3];have R3:∀b,(H++[b])[r]?=_:=λb=>(eY.b1 b).aA C;have D0:∀b,(H++[b])[h.length]?=_:=λb=>(eY.b1 b).aA C0;have D1:∀b,(H++[b])[h.length+1]?=_:=λb=>(eY.b1 b).aA E;have N1:∀sz i o',gN (h.length+2) 1 (.aC r sz i o')=true:=λsz i o'=>iv (by omega);have N2:∀sz i o',gN (h.length+2) 1 (.aC h.length sz i o')=true:=λsz i o'=>iv (by omega);have N3:∀sz i o',gN (h.length+2) 1 (.aC (h.length+1) sz i o')=true:=λsz i o'=>iv (by omega);have M:∀a b,(H++[a]).set (h.length+2) b=H++[b]:=λa b=>by rw[WC _ _ (by omega),lH];simp
    have b2:∀b,(H++[b])[h.length+2]?=some b:=λb=>by rw[<-lH];exact gh H b
    have w0:(h.length=h.length+2)=False:=Vs (by omega);have w1:(h.length+2=h.length)=False:=Vs (by omega);have w2:(h.length+1=h.length+2)=False:=Vs (by omega);have w3:(h.length+2=h.length+1)=False:=Vs (by omega);have w4:(r=h.length+2)=False:=Vs (by omega);have w5:(h.length+2=r)=False:=Vs (by omega);simp only[go_sem,iN,R3,D0,D1,N1,N2,N3,lH,M];have a4:=u4.2 (λ_=>True) (H++[none]) R.aA.aA _ m.aA m.es e (fu.aA (F:=fj) (λ_ _=>Vp) (λ_ _ _ y=>y) _ _ (lY R.aA.aA _)) (Rd.aC (λ_ _=>Vp) ((X1.tr (eY.b1 none)).aF _) _ _ he) (t.aB (by omega)) a2.aC;simp only[fE.aM]at a4;refine fR u4.1 a4 ?_;simp only[go_sem,iN,R3,D0,D1,M,b2,n7,W5,W9];obtain⟨l,hl⟩:∃l,l=R.aA.aA.aF m.aA m.es:=⟨_,rfl⟩;obtain⟨at',a3⟩:∃at',at'=R.aA.aA.aI m.aA m.es:=⟨_,rfl⟩;rw[<-hl,<-a3];have ea:(RX.aE ⟨R,out⟩ m)=(if 0<at'/\at'<=R.aI then ⟨R,out⟩ else
     let y:RX:=if 0<at' then ({({r:=R,o:=out}:RX) with r:={R with aA:={R.aA with aA:=l}}}:RX).aU {fU.aD with aC:=2,aF:=at',aA:=⟨0,0,l.aE at' l.es.length⟩} else ⟨R,out⟩
     ({y with r:={y.r with aI:=max y.r.aI (min m.aK (m.aA+m.es.length))}}:RX).aM m true (m.aA+m.es.length)):=by
     rw[hl,a3];unfold RX.aE;rw[Ve c1,Ve (by rintro (z | z);rw[c2]at z;cases z;exact z c3)]
    by_cases c4:0<at'
    ·simp only[go_sem,R3,D0,Vc c4];by_cases c5:at'<=R.aI;·simp only[go_sem,Vc c5];rw[ea,Vf ⟨c4,c5⟩];exact fF.aB (X1.tr (eY.b1 _)) (I.up (eY.b1 _)).to
     ·simp only[go_sem,R3,D0,b2,Va c5,n7];rw[Ve (λz=>c5 z.2)]at ea;simp only[Vf c4]at ea;have lf:=t.a_ a2 ab c2 (by rw[<-a3];omega);rw[<-hl]at lf;have a7:=I.up (eY.b1 (some (fh.aA 3 [[.aA .i64 l.aA,.aA .i64 l.aB,iD l.es]] false)));have a5:(H++[some (fh.aA 3 [[.aA .i64 l.aA,.aA .i64 l.aB,iD l.es]] false)])[r]?=some (some (.aA 21 [R.aJ g ff] false)):=(eY.b1 _).aA rr;have T1:=fF.aG (R':={R with aA:={R.aA with aA:=l}}) (a7.to (W:=wA) (Q:=fj)) a5 rfl rfl (λ_ z=>z);have E0:=D0 (some (fh.aA 3 [[.aA .i64 l.aA,.aA .i64 l.aB,iD l.es]] false));have E1:=D1 (some (fh.aA 3 [[.aA .i64 l.aA,.aA .i64 l.aB,iD l.es]] false));have E2:=b2 (some (fh.aA 3 [[.aA .i64 l.aA,.aA .i64 l.aB,iD l.es]] false));have X3:=eY.b1 (h:=H) (some (fh.aA 3 [[.aA .i64 l.aA,.aA .i64 l.aB,iD l.es]] false));have l3:r<h.length+3:=by omega
      simp only[go_sem,b2,w4,q0,lH,l3,Vj];simp only[fm.aJ]at T1;have K0:=T1.aA (z2 _ (Vg _)) (λy=>y) E0;have K1:=T1.aA (z2 _ (by omega)) (λy=>y) E1;have K2:=T1.aA (z2 _ (by omega)) (λy=>y) E2;generalize hH4:List.set (H++_) r _=H4 at *;obtain⟨R',O⟩:∃R':fm,R'={R with aA:={R.aA with aA:=l}}:=⟨_,rfl⟩;have a6:R'.aD (k+200):=by rw[O];exact lf.1
      have ad:R'.aA.aA=l:=by rw[O]
      have eRg:R'.aA.aD=R.aA.aD:=by rw[O]
      rw[<-O]at T1 ea;have sl:=u5.2 fj H4 R'.aA.aA _ at' l.es.length (lY R'.aA.aA H4) (a6.aB (by omega));rw[ad]at sl;refine fq ⟨u5.1,sl⟩ ?_;rintro e1 H5 ⟨oe,-,X5⟩;have se:=oe.aA;have M0:=X5.aA K0;have M1:=X5.aA K1;have M2:=X5.aA K2;have hl4:H4.length=H.length+1:=by rw[<-hH4,Vh,Vj];rfl
      rw[gF];simp only[go_sem,M0,M2,gH se];have tl:=fF.aC (Q':=λn=>H4.length<=n) T1 X5 (λn hn (z:H4.length<=n)=>by rw[Vj]at hn;simp at hn;omega) λL1 x1=>(u6.2 (λn=>H4.length<=n) L1 H5 r o _ {fU.aD with aC:=2,aF:=at',aA:=⟨0,0,l.aE at' l.es.length⟩} e1 .aB .aB .aB .aB (x1.up X5) oe (e_.aC 1) (e_.aC 1) (e_.aC 1) (e_.aC 1) (λn hn=>x1.ge hn) (qL (show out.aC.length<=j from hj.2) (by omega) 216 (by omega))).aA λ_ _ b=>b.aF me;refine fq ⟨u6.1,tl⟩ ?_;intro _ H6 T6;rw[gF];simp only[go_sem];refine a0 _ H6 _ ea (RX.aA.aC (x:=({r:=R',o:=out}:RX)) hj _) ?_ ?_ (fF.aB X3 T6)<;>simp[fi]
    ·simp only[go_sem,Va c4];rw[Ve (λz=>c4 z.1)]at ea;simp only[Ve c4]at ea;refine a0 _ _ ⟨R,out⟩ ea (hj.aA (by omega)) ?_ ?_ (fF.aB (eY.b1 _) (I.up (eY.b1 _)).to)<;>simp[fi]
   ·simp only[go_sem,C,C0,E,Vq,Vt,Va c3,wi];refine fR u3.1 (u3.2 H r R I.aA (t.aB (by omega))) ?_;rw[gF];simp only[go_sem,C0,E,lZ,nu,nw];refine fq (a1 (no (.inr c3))) ?_;intro _ H2 T2;rw[gF];simp only[go_sem];exact T2
theorem fS.bJ {G w h r sz es es' gr}(g:fS G w h) (hr:h[r]?=some (some (.aA sz es gr))) (hl:es'.length=es.length) (ho:iT sz es') (hc:∀i j c',gi es' i j=some c'->∃c,gi es i j=some c/\∀v,V G w c v->V G w c' v):fS G w (h.set r (some (.aA sz es' gr))):=by
 have hlt:=(U_.1 hr).1;refine {aA:=by rw[Vh];exact g.aA,aC:=?_,aD:=?_,inj:=g.inj,aE:=g.aE,aF:=g.aF,aL:=g.aL,aM:=g.aM,aG:=g.aG,aJ:=g.aJ,aB:=?_,aI:=?_,aK:=g.aK}
 ·intro m;rw[g.aC m];by_cases hm:r=m;·subst hm;exact⟨λz=>⟨⟨_,_,_,Vd hlt⟩,z.2⟩,λz=>⟨⟨_,_,_,hr⟩,z.2⟩⟩
  ·rw[Vb hm]
 ·intro m b hb;have hm:r≠m:=by rintro rfl;rw[g.aD _ _ hb]at hr;simp at hr
  rw[Vb hm];exact g.aD m b hb
 ·intro m t C u b hm hb;by_cases h1:r=m;·subst h1;rw[Vd hlt]at hm;simp only[Vk,fh.aA.injEq]at hm;obtain⟨rfl,rfl,rfl⟩:=hm;obtain⟨⟨cells,ty,hh,h1,h2,h3⟩,hs⟩:=g.aB r _ _ _ b hr hb;refine⟨⟨cells,ty,hh,by rw[hl];exact h1,λe=>by rw[hl];exact h2 e,λi j c hj=>?_⟩,ho⟩;obtain⟨c0,e0,f0⟩:=hc i j c hj;obtain⟨v,hv,hV⟩:=h3 i j c0 e0;exact⟨v,hv,f0 v hV⟩
  ·rw[Vb h1]at hm;exact g.aB m t C u b hm hb
 ·intro m t C u hm hb;by_cases h1:r=m;·subst h1;rw[Vd hlt]at hm;simp only[Vk,fh.aA.injEq]at hm;obtain⟨rfl,rfl,rfl⟩:=hm;have:=g.aI r _ _ _ hr hb;subst this;exact Vl (by simpa using hl)
  ·rw[Vb h1]at hm;exact g.aI m t C u hm hb
def pq (h h':eZ):Prop:=∀G w,fS G w h->fS G w h'
theorem pq.aA (h:eZ):pq h h:=λ_ _ g=>g
theorem fy.aE {P:Program}{f:FuncId}{b:List AV}{h h':eZ}{K:AV->eZ->Prop}(hl:pq h h')(hc:fy P f b h' K):fy P f b h K:=λG w vs hg hv=>hc G w vs (hl G w hg) hv
theorem PB {h:eZ}{r sz:Nat}{a b:List AV}{gr:Bool} (hr:h[r]?=some (some (.aA sz [a++.aB :: b] gr))) (ho:iT sz [a++.aL 0 false 3 [] :: b]):pq h (h.set r (some (.aA sz [a++.aL 0 false 3 [] :: b] gr))):=by
 intro G w g;refine g.bJ hr rfl ho λi j c' hc=>?_;cases i with
 | succ i=>simp[gi]at hc
 | zero=>
  simp only[gi,VB,Wp]at hc ⊢;rw[Wb]at hc ⊢;split at hc;·rename_i hj;exact⟨c',by rw[Vf hj];exact hc,λ_ hv=>hv⟩
  ·rename_i hj;rw[Ve hj];cases hk:j-a.length with
   | zero=>rw[hk]at hc;simp only[VB,Vk]at hc;subst hc;refine⟨.aB,rfl,λv hv=>?_⟩;cases hv;exact .aE _ _ _
   | succ k=>rw[hk]at hc;exact⟨c',by simpa using hc,λ_ hv=>hv⟩
theorem TS {P:Program}{f:FuncId}{b:List AV}{r:AV}{h h':eZ}{K:AV->eZ->Prop}(hl:pq h h')(hi:fI P f=true)(hc:fy P f b h' λr' h''=>r'=r/\h''=h')(hk:K r h'):nI P f b h K:=
 fq ⟨hi,hc.aE hl⟩ λ_ _ ⟨e1,e2⟩=>by subst e1;subst e2;exact hk
def rC (P:Program)(f:FuncId):Prop:=fI P f=true/\∀(F:Nat->Prop)(h:eZ)(x:fG)(a:List AV),fu F h x.c a->x.aF (2^40)->
 fy P f [.aE a] h λv h'=>∃o n e,v=.aE [o,n,e]/\e_ (fK x.aA) (λm=>h.length<=m) h' o/\e_ (fK x.aB) (λm=>h.length<=m) h' n/\e_ (fK x.aC) (λm=>h.length<=m) h' e/\eY fj h h'
theorem NN {P:Program}{f g:FuncId}(hf:Is P f (uj g))(hg:vk P g):rC P f:=by
 refine⟨hf.2,λF h x a ha hx=>qM hf.1 (Wd rfl) ?_⟩;show vc P (uj g).aA ⟨[(0,.aE a)],[],h⟩ (ia (uj g).aB _);obtain⟨o,n,e,rfl,ho,hn,he⟩:=kx ha;obtain⟨H,hH⟩:∃H,H=h++[some (fh.aA 3 [[o,n,e]] false)]++[some (fh.aA 3 [[.aB,.aB,.aB]] false)]:=⟨_,rfl⟩;have X1:eY fj h H:=by rw[hH];exact eY.b2 _ _
 have lH:H.length=h.length+2:=by rw[hH];simp
 have C0:H[h.length]?=some (some (fh.aA 3 [[o,n,e]] false)):=by rw[hH];exact iE _ _ _
 have C1:H[h.length+1]?=some (some (fh.aA 3 [[.aB,.aB,.aB]] false)):=by rw[hH];exact iq _ _ _
 simp only[uj,go_sem,ho.aA,hn.aA,he.aA];rw[<-hH];clear hH;refine fq ⟨hg.1,hg.2 F H x.aA o (ho.up X1) hx.1⟩ ?_;rintro o1 H2 ⟨oo,-,X2⟩;have D0:=X2.aA C0;have D1:=X2.aA C1;rw[gF];simp only[go_sem,D0];refine fq ⟨hg.1,hg.2 F H2 x.aB n ((hn.up X1).up X2) hx.2.1⟩ ?_;rintro n1 H3 ⟨on,-,X3⟩;have E0:=X3.aA D0;have E1:=X3.aA D1;rw[gF];simp only[go_sem,E0];refine fq ⟨hg.1,hg.2 F H3 x.aC e (((he.up X1).up X2).up X3) hx.2.2⟩ ?_;rintro e1 H4 ⟨oe,-,X4⟩;have F0:=X4.aA E0;have F1:=X4.aA E1;have l4:=(U_.1 F1).1;have x2:=X2.1;have x3:=X3.1;have x4:=X4.1;rw[gF];simp only[go_sem,F0,F1,oo.aA,on.aA,oe.aA,gH oo.aA,gH on.aA,gH oe.aA,l4];have kk:∀v (F:Nat->Prop),(∀m,F m->H.length<=m)->gz F H4 (H4.set (h.length+1) v):=λv F hF m hm y hy=>(Vb (by have:=hF m hm;omega)).trans hy;refine⟨o1,n1,e1,rfl,?_,?_,?_,?_⟩;·exact e_.aB _ (λm hm=>by omega) (kk _ _ (λm hm=>hm)) _ (e_.aB _ (λ_ y=>y) ((X3.tr X4).aF _) _ oo)
 ·exact e_.aB _ (λm hm=>by omega) (kk _ _ (λm hm=>by omega)) _ (e_.aB _ (λ_ y=>y) (X4.aF _) _ on)
 ·exact e_.aB _ (λm hm=>by omega) (kk _ _ (λm hm=>by omega)) _ oe
 ·exact (((X1.tr X2).tr X3).tr X4).aD (by omega) _
def Jw (P:Program)(f:FuncId):Prop:=fI P f=true/\∀(F:Nat->Prop)(h:eZ)(x:fG)(a:List AV),fu F h x.c a->x.aF (2^40)->fy P f [.aE a] h λv h'=>v=.aE x.v/\h'=h
theorem rC.p {P:Program}{f:FuncId}(hc:rC P f):Jw P f:=⟨hc.1,λF h x a ha hx=>(hc.2 F h x a ha hx).aB λ_ _ ⟨o,n,e,h1,h2,h3,h4,h5⟩=>⟨h5,_,h1▸gM.aA (ds:=x.c) (fW.fz _ (λ_ x=>x) _ (by simp only[fG.c,fW];exact⟨o,_,rfl,h2,n,_,rfl,h3,e,_,rfl,h4,rfl⟩)),rfl⟩⟩
def I9 (P:Program)(f:FuncId):Prop:=fI P f=true/\∀(F:Nat->Prop)(h:eZ)(l:List Int)(a:AV),Rd F h (fT l) a->l.length<=2^40->fy P f [a] h λr h'=>r=gV l/\h'=h
theorem p_.q {P:Program}{f:FuncId}(hc:p_ P f):I9 P f:=⟨hc.1,λF h l a ha hl=>(hc.2 F h l a ha hl).aB λ_ _ ⟨h1,h2⟩=>⟨h2,_,gM.d (e_.fz _ (λ_ x=>x) _ h1),rfl⟩⟩
def DV (P:Program)(f:FuncId):Prop:=fI P f=true/\∀(F:Nat->Prop)(h:eZ)(l:fE)(a:List AV)(i:Int),fu F h l.c a->jl l->
 fy P f [.aE a,.aA .i64 i] h λr h'=>r=.aI [.aE (l.aK i).v,.aA .i64 (if l.aD i then 0 else 3)]/\h'=h
theorem vp.cp {P:Program}{f:FuncId}(hc:vp P f):DV P f:=⟨hc.1,λF h l a i ha hl=>(hc.2 F h l a i ha hl).aB λ_ _ ⟨_,h1,h2,h3⟩=>⟨h3,_,h1▸gM.aC (gM.aA (fW.fz _ (λ_ x=>x) _ h2)) (gM.aB _ _),rfl⟩⟩
def vZ (P:Program)(f:FuncId):Prop:=fI P f=true/\∀(G:Nat->Prop)(L:Nat->Nat)(h:eZ)(r o:Nat)(x:RX)(j:Nat)(base term:Int)(c:fG)(a:List AV)(snap:List Int)(s:AV),gS L h r o x->jl x.r.aA.aA->x.aA j->j<2^20->fu G h c.c a->Rd G h (fT snap) s->(∀n,G n->L n=0)->c.aF (2^40)->snap.length<=2^40->
 fy P f [.aE [.aC r 21 0 0,.aC o 5 0 0],.aA .i64 base,.aA .i64 term,.aE a,s] h λ_ h'=>fF wA fj L h r o (x.aV base term c snap) h'
theorem Rh {P:Program}{f f1 f2 f3 f4 f5:FuncId}(hf:Is P f (lP f1 f2 f3 f4 f5))(u1:jP P f1)(u2:DV P f2)(u3:rC P f3)(u4:p_ P f4)(u5:rN P f5):vZ P f:=by
 refine⟨hf.2,λG L h r o x j base term c a snap s hx E hj hj2 hc hs hG a3 a2=>qM hf.1 (Wd rfl) ?_⟩;show vc P (lP f1 f2 f3 f4 f5).aA ⟨[(0,.aE [.aC r 21 0 0,.aC o 5 0 0]),(1,.aA .i64 base),(2,.aA .i64 term),(3,.aE a),(4,s)],[],h⟩ (ia (lP f1 f2 f3 f4 f5).aB _);obtain⟨co,cn,ce,rfl,ho,hn,he⟩:=kx hc;have ap:=hx.aB;obtain⟨R,out⟩:=x;simp only at E;obtain⟨H,hH⟩:∃H,H=h++[some (fh.aA 2 [[.aC r 21 0 0,.aC o 5 0 0]] false)]++[some (fh.aA 3 [[co,cn,ce]] false)]:=⟨_,rfl⟩;have X1:eY fj h H:=by rw[hH];exact eY.b2 _ _
 have lH:H.length=h.length+2:=by rw[hH];simp
 have C0:H[h.length]?=some (some (fh.aA 2 [[.aC r 21 0 0,.aC o 5 0 0]] false)):=by rw[hH];exact iE _ _ _
 have C1:H[h.length+1]?=some (some (fh.aA 3 [[co,cn,ce]] false)):=by rw[hH];exact iq _ _ _
 have I:=hx.up X1;have z2:∀m,h.length<=m->¬wA (L m):=λm e=>by rw[hx.ge e];exact iZ
 have a1:∀{y H'},fF wA fj L H r o y H'->fu (λn=>G n/\n<h.length) H' c.c [co,cn,ce]:=λT=>fu.aA (λ_ y=>y) (λn hn y hy=>T.aA (by rw[hG n hn.1];exact iZ) (λz=>z) (X1.aA hy)) _ _ (fu.lt _ _ hc);have a0:∀{y H'},fF wA fj L H r o y H'->Rd (λn=>G n/\n<h.length) H' (fT snap) s:=λT=>Rd.aC (λ_ y=>y) (λn hn y hy=>T.aA (by rw[hG n hn.1];exact iZ) (λz=>z) (X1.aA hy)) _ _ (Rd.lt _ _ hs);have t:∀(Le:fY)(H0 H':eZ),pq H0 H'->H0[h.length]?=some (some (fh.aA 2 [[.aC r 21 0 0,.aC o 5 0 0]] false))->H0[h.length+1]?=some (some (fh.aA 3 [[co,cn,ce]] false))->lk 1 Le=.aA .i64 base->lk 2 Le=.aA .i64 term->lk 4 Le=s->lk 5 Le=.aC h.length 2 0 0->lk 8 Le=.aC (h.length+1) 3 0 0->fF wA fj L H r o ⟨{R with aA:={R.aA with aA:=R.aS base term}},out⟩ H'->
   vc P (lP f1 f2 f3 f4 f5).aA.tl.tl ⟨Le,[],H0⟩ (ia (lP f1 f2 f3 f4 f5).aB λ_ h'=>fF wA fj L h r o (RX.aV ⟨R,out⟩ base term c snap) h'):=by
  intro Le H0 H' M B0 B1 k1 k2 k4 k5 k8 T;have D0:=T.aA (z2 _ (Vg _)) (λy=>y) C0;have D1:=T.aA (z2 _ (by omega)) (λy=>y) C1;obtain⟨g,ff,rr⟩:=T.aD;have u:=rr;simp only[fm.aJ]at u;have lr:=(U_.1 rr).1;have q0:(r=h.length)=False:=Vs (by omega);have q1:(r=h.length+1)=False:=Vs (by omega);have q2:(h.length=r)=False:=Vs (by omega);have q3:(h.length+1=r)=False:=Vs (by omega);simp only[lP,AC.aA,go_sem,k4,k5,k8,B0,B1];refine TS M u3.1 (u3.p.2 _ H' c _ (a1 T) a3) ?_;rw[gF];simp only[go_sem,D0,D1];refine fR u4.1 (u4.q.2 _ H' snap _ (a0 T) a2) ?_;rw[gF];simp only[go_sem,k1,k2,k4,k5,k8,D0,D1,u,fG.aD,q0,q1,lr,V8,Vh];have T1:=fF.aG (R':={R with aA:={R.aA with aA:=R.aS base term,aC:=c,aF:=snap}}) T rr rfl rfl (λ_ z=>z);simp only[fm.aJ]at T1;have M0:=T1.aA (z2 _ (Vg _)) (λy=>y) C0;have M1:=T1.aA (z2 _ (by omega)) (λy=>y) C1;have a6:H.length<=(H'.set r (some (.aA 21 [R.aJ g ff] false))).length:=by obtain⟨_,_,_,e⟩:=T;rw[Vh];exact e.1
  rw[Vh]at a6;have a5:∀v,(H'.set r v).length=H'.length:=λv=>Vh;generalize hH2:List.set H' r _=H2 at *;have hl3:H2.length=H'.length:=by rw[<-hH2];exact a5 _
  refine fq ⟨u3.1,u3.2 _ H2 c _ (a1 T1) a3⟩ ?_;rintro _ H3 ⟨o1,n1,e1,rfl,o2,n2,e2,X3⟩;have N0:=X3.aA M0;have N1:=X3.aA M1;rw[gF];simp only[go_sem,N0,N1];refine fq ⟨u4.1,u4.2 _ H3 snap _ (Rd.aC (λ_ y=>y) (X3.aF _) _ _ (a0 T1)) a2⟩ ?_;rintro s1 H4 ⟨os,X4⟩;have P0:=X4.aA N0;have P1:=X4.aA N1;rw[gF];have x3:=X3.1;simp only[go_sem,P0,P1,gH os.aA];have tl:=fF.aC (Q':=λn=>H2.length<=n) T1 (X3.tr X4) (λn hn (z:H2.length<=n)=>by omega) λL1 x1=>(u5.2 (λn=>H2.length<=n) L1 H4 r o _ {fU.aD with aC:=3,aA:=⟨base,term,[]⟩,aE:=c,aJ:=snap} .aB o1 n1 e1 s1 (x1.up (X3.tr X4)) (e_.aC 3) (e_.aB _ (λ_ y=>y) (X4.aF _) _ o2) (e_.aB _ (λ_ y=>y) (X4.aF _) _ n2) (e_.aB _ (λ_ y=>y) (X4.aF _) _ e2) (e_.aB _ (λm hm=>by omega) (λ_ _ _ y=>y) _ os) (λn hn=>x1.ge hn) (qL (show out.aC.length<=j from hj.2) (by omega) 216 (by omega))).aA λ_ _ b=>b.aF me;refine fq ⟨u5.1,tl⟩ ?_;intro _ H5 T5;rw[gF];simp only[go_sem];exact fF.aB X1 T5
 have e0:(lP f1 f2 f3 f4 f5).aA=.aB (lP f1 f2 f3 f4 f5).aA.hd (.aB (lP f1 f2 f3 f4 f5).aA.tl.hd (lP f1 f2 f3 f4 f5).aA.tl.tl):=rfl;rw[e0];generalize (lP f1 f2 f3 f4 f5).aA.tl.tl=D at t ⊢;have O:=t;simp only[lP,fC]at O;clear t;obtain⟨g,ff,rr⟩:=I.aA;have u:=rr;simp only[fm.aJ]at u;have lr:=(U_.1 rr).1;simp only[lP,AC.aG,AC.aA,go_sem,ho.aA,hn.aA,he.aA];rw[<-hH];clear hH;simp only[go_sem,u];refine fR u1.1 (u1.2 fj H R.aA.aA _ base (lY R.aA.aA H) E) ?_;have q0:(r=h.length)=False:=Vs (by omega);have q1:(r=h.length+1)=False:=Vs (by omega);have q2:(h.length=r)=False:=Vs (by omega);have q3:(h.length+1=r)=False:=Vs (by omega);simp only[go_sem];have C:R.aS base term=⟨base,term,[]⟩->pq (H.set r (some (.aA 21 [[.aA .i64 R.id,.aA .i64 R.aA.aD,.aA .i64 R.aA.aB,.aA .i64 R.aA.aE,.aA .i64 base,.aA .i64 term,.aB,fA R.aA.aC.aA,fA R.aA.aC.aB,fA R.aA.aC.aC,gV R.aA.aF,
   .aA .i64 R.aI,.aA .i64 R.aO,.aA .i64 R.aM,.aA .i64 R.aW,.aA .i64 R.aF,.aA .i64 R.aT,g,ff,.aA .i64 R.aL,.aA .i64 R.aN]] false)))
   (H.set r (some (.aA 21 [({R with aA:={R.aA with aA:=R.aS base term}}:fm).aJ g ff] false))):=by
  intro es;have a4:iT 21 [({R with aA:={R.aA with aA:=⟨base,term,[]⟩}}:fm).aJ g ff]:=by obtain⟨g2,f2,U⟩:=I.r;have:=U.aA.symm.trans rr;simp only[Vk,fh.aA.injEq,Wr,fm.aJ]at this;obtain⟨-,⟨⟨-,-,-,-,-,-,-,-,-,-,-,-,-,-,-,-,-,rfl,rfl,-⟩,-⟩,-⟩:=this;intro y hy;simp only[W4]at hy;subst hy;refine⟨rfl,?_⟩;simp only[fm.aJ,List.all_cons,List.all_nil,U.go.aA,U.fo.aA,n7,iB,l7,Xp,Xf];rfl
  have hl:=PB (h:=H.set r (some (.aA 21 [[.aA .i64 R.id,.aA .i64 R.aA.aD,.aA .i64 R.aA.aB,.aA .i64 R.aA.aE,.aA .i64 base,.aA .i64 term,.aB,fA R.aA.aC.aA,fA R.aA.aC.aB,fA R.aA.aC.aC,gV R.aA.aF,
   .aA .i64 R.aI,.aA .i64 R.aO,.aA .i64 R.aM,.aA .i64 R.aW,.aA .i64 R.aF,.aA .i64 R.aT,g,ff,.aA .i64 R.aL,.aA .i64 R.aN]] false))) (r:=r) (sz:=21) (gr:=false)
   (a:=[.aA .i64 R.id,.aA .i64 R.aA.aD,.aA .i64 R.aA.aB,.aA .i64 R.aA.aE,.aA .i64 base,.aA .i64 term]) (b:=[fA R.aA.aC.aA,fA R.aA.aC.aB,fA R.aA.aC.aC,gV R.aA.aF,
   .aA .i64 R.aI,.aA .i64 R.aO,.aA .i64 R.aM,.aA .i64 R.aW,.aA .i64 R.aF,.aA .i64 R.aT,g,ff,.aA .i64 R.aL,.aA .i64 R.aN]) (Vd lr) a4
  rw[V8]at hl;rw[es];exact hl
 cases c2:R.aA.aA.aD base
 ·have es:R.aS base term=⟨base,term,[]⟩:=by unfold fm.aS;rw[Ve (by rintro⟨z,-⟩;rw[c2]at z;cases z)]
  have T1:=fF.aG (R':={R with aA:={R.aA with aA:=R.aS base term}}) (I.to (W:=wA) (Q:=fj)) rr rfl rfl (λ_ z=>z);simp only[go_sem,u,C0];refine O _ _ _ (C es) ?_ ?_ ?_ ?_ ?_ ?_ ?_ T1<;>simp[fi,ga,q0,q1,C0,C1]
 ·by_cases c3:R.aA.aA.aG base=term
  ·have es:R.aS base term=R.aA.aA.aK base:=by unfold fm.aS;rw[Vf ⟨c2,c3⟩]
   have T1:=fF.aG (R':={R with aA:={R.aA with aA:=R.aS base term}}) (I.to (W:=wA) (Q:=fj)) rr rfl rfl (λ_ z=>z);simp only[go_sem,u,C0,Vc c3];have cp:=u2.2 fj H R.aA.aA _ base (lY R.aA.aA H) E;rw[<-es]at cp;simp only[fE.aM]at cp;refine fR u2.1 cp ?_;rw[gF];simp only[go_sem,u,C0,c2,q0,lr];refine O _ _ _ (pq.aA _) ?_ ?_ ?_ ?_ ?_ ?_ ?_ T1<;>simp[fi,ga,q0,q1,C0,C1]
  ·have es:R.aS base term=⟨base,term,[]⟩:=by unfold fm.aS;rw[Ve (λz=>c3 z.2)]
   have T1:=fF.aG (R':={R with aA:={R.aA with aA:=R.aS base term}}) (I.to (W:=wA) (Q:=fj)) rr rfl rfl (λ_ z=>z);simp only[go_sem,u,C0,Va c3];refine O _ _ _ (C es) ?_ ?_ ?_ ?_ ?_ ?_ ?_ T1<;>simp[fi,ga,q0,q1,C0,C1]
theorem HV (st:fZ):(∀b∈(gA st).1,b∈st.aA)/\(gA st).1.length<=st.aA.length/\(∀b∈(gA st).2.aA,b∈st.aA)/\(gA st).2.aA.length<=st.aA.length:=by
 cases st with
 | none=>exact⟨by simp[gA,gw],by simp[gA,gw],by simp[gA,gw,fZ.aA],by simp[gA,gw,fZ.aA]⟩
 | some l=>
  unfold gA gw;by_cases c:l.length<8;·simp[c,fZ.aA]
  ·simp only[c,VO];by_cases c2:iO (l.take 8)<0\/((l.drop 8).length:Int)<iO (l.take 8);·rw[Vf c2];simp[fZ.aA]
   ·rw[Ve c2];refine⟨λb hb=>VM (V0 hb),?_,λb hb=>VM (VM hb),?_⟩;·show ((l.drop 8).take _).length<=l.length;simp only[Vw,VA];omega
    ·show ((l.drop 8).drop _).length<=l.length;simp only[VA];omega
theorem tF.q {P:Program}{f:FuncId}(hc:tF P f):oC P f:=⟨hc.1,λG h l b hb h1 h2=>(hc.2 G h l b hb h1 h2).aB λ_ _ ⟨_,e,h3,h4⟩=>⟨h4,_,e▸gM.aC (gM.aA (fW.fz _ (λ_ x=>x) _ h3)) (gM.aB _ _),rfl⟩⟩
theorem Dt {l:List Int}(hb:gK l)(hl:l.length<=2^16):(gK (jZ l).1/\(jZ l).1.length<=2^16)/\gK (jZ l).2.1/\(jZ l).2.1.length<=2^16:=by obtain⟨a1,a2,a3,a4⟩:=HV (some l);obtain⟨b1,b2,b3,b4⟩:=HV (gA (some l)).2;have e:fZ.aA (some l)=l:=rfl;rw[e]at a1 a2 a3 a4;exact⟨⟨λx hx=>hb x (a1 x hx),by show (gA (some l)).1.length<=_;omega⟩,λx hx=>hb x (a3 x (b1 x hx)),by show (gA (gA (some l)).2).1.length<=_;omega⟩
def yJ (P:Program)(f:FuncId):Prop:=fI P f=true/\∀(L:Nat->Nat)(h:eZ)(r o:Nat)(x:RX)(k j:Nat)(m:fB)(a:List AV),gS L h r o x->x.r.aD k->k<=2^28->x.aA j->j+1<2^20->kH L h m a->m.aL->0<=m.aA/\m.aA<=2^40->
 fy P f [.aE [.aC r 21 0 0,.aC o 5 0 0],.aE a] h λ_ h'=>fF wA fj L h r o (x.aN m) h'
theorem Sx {P:Program}{f f1 f2 f3 f4 f5 f6:FuncId}(hf:Is P f (BN f1 f2 f3 f4 f5 f6))(u1:vY P f1)(u2:wm P f2)(u3:xY P f3)(u4:oC P f4)(u5:Is P f5 pK)(u6:vZ P f6):yJ P f:=by
 refine⟨hf.2,λL h r o x k j m a hx t hk hj ab hm a9 hmi=>fN hf ?_⟩;obtain⟨G,hr,h0⟩:=id hm;obtain⟨e,d,rfl,he,hd⟩:=jS hr;obtain⟨ap1,ap2,a0⟩:=hx.aB;obtain⟨R,out⟩:=x;simp only at t;obtain⟨H,hH⟩:∃H,H=h++[some (fh.aA 2 [[.aC r 21 0 0,.aC o 5 0 0]] false)]++[some (fh.aA 17 [m.aB e d] false)]:=⟨_,rfl⟩;have X1:eY fj h H:=by rw[hH];exact eY.b2 _ _
 have lH:H.length=h.length+2:=by rw[hH];simp
 have C0:H[h.length]?=some (some (fh.aA 2 [[.aC r 21 0 0,.aC o 5 0 0]] false)):=by rw[hH];exact iE _ _ _
 have C1:H[h.length+1]?=some (some (fh.aA 17 [m.aB e d] false)):=by rw[hH];exact iq _ _ _
 have O:=hx.up X1;have z2:∀m,h.length<=m->¬wA (L m):=λm e=>by rw[hx.ge e];exact iZ
 have U:fu (λn=>G n/\n<h.length) H m.c (m.aB e d):=fu.aA (λ_ y=>y) (X1.aF _) _ _ (fu.lt _ _ hr);obtain⟨g,ff,rr⟩:=O.aA;have C:=rr;have u:=C1;simp only[fm.aJ]at C;simp only[fB.aB]at u hH;have lr:=(U_.1 rr).1;have q0:(r=h.length)=False:=Vs (by omega);have q1:(r=h.length+1)=False:=Vs (by omega);have q2:(h.length=r)=False:=Vs (by omega);have q3:(h.length+1=r)=False:=Vs (by omega);simp only[BN,go_sem,fB.aB,he.aA,hd.aA];rw[<-hH];clear hH;have a1:∀{B:eZ}{L':Nat->Nat}{y H'} (_:fu (λn=>G n/\n<h.length) B m.c (m.aB e d)) (_:∀n,G n->L' n=0) (j:Nat) (ok:Bool) (ix:Int),fF wA fj L' B r o y H'->y.aA j->j<2^20->fy P f1 [.aE [.aC r 21 0 0,.aC o 5 0 0],.aE (m.aB e d),.aD ok,.aA .i64 ix] H' λ_ h''=>fF wA fj L' B r o (y.aM m ok ix) h'':=fun {B L' y H'} hb hl j ok ix T yf hj=>fF.aC (Q':=fj) T (eY.aC _ _) (λ_ _ y=>y) λL1 x1=>(u1.2 L1 H' r o y j m _ (λn=>G n/\n<h.length) ok ix x1 yf hj (fu.aA (λ_ y=>y) (λn hn y hy=>T.aA (by rw[hl n hn.1];exact iZ) (λz=>z) hy) _ _ hb)).aA λ_ _ b=>b.aF me;simp only[fB.aB]at a1 U;simp only[go_sem,C];by_cases c1:m.aA<=R.aI
 ·have ea:(RX.aN ⟨R,out⟩ m)=RX.aM ⟨R,out⟩ m true R.aI:=by unfold RX.aN;rw[Vf c1]
  rw[ea];simp only[go_sem,C,C0,u,Vc c1];refine fq ⟨u1.1,a1 U h0 j true R.aI O.to hj (by omega)⟩ ?_;intro _ H2 T2;rw[gF];simp only[go_sem];exact fF.aB X1 T2
 ·simp only[go_sem,u,Va c1];have ac:Rd (λn=>G n/\n<h.length) H (fT m.aE) d:=Rd.aC (λ_ y=>y) (X1.aF _) _ _ (Rd.lt _ _ hd);have W:=a9.aA;refine fq ⟨u2.1,u2.2 _ H m.aE d ac W.1 (by omega)⟩ ?_;rintro _ H2 ⟨q,rfl,hq,S2,X2⟩;have lq:=S2.lt;simp only[go_sem];refine fq ⟨u3.1,u3.2 _ H2 q _ S2 (by omega)⟩ ?_;rintro b1 H3 ⟨o1,S3,X3⟩;simp only[go_sem];refine fq ⟨u3.1,u3.2 _ H3 q _ S3 (by omega)⟩ ?_;rintro b2 H4 ⟨o2,S4,X4⟩;have l2:=X2.1;have l3:=X3.1;have l4:=X4.1;have ad:eY (hU q) H2 H4:=X3.aB X4 (λ_ _ z=>z) (λ_ _ z=>z);have XH:eY fj H H4:=⟨by omega,λm hm _=>(ad.2 m (by omega) (by show m≠q;omega)).trans (X2.2 m hm (λz=>z))⟩;have a5:e_ (fT (gA (some m.aE)).1) (λm=>H.length<=m/\m<q) H4 b1:=e_.aB _ (λ_ y=>y) (λn hn y hy=>(X4.2 n (U_.1 hy).1 (by show n≠q;omega)).trans hy) _ o1;obtain⟨I,a2⟩:=Dt W.1 W.2;have et:jZ m.aE=((gA (some m.aE)).1,(gA (gA (some m.aE)).2).1,(gA (gA (some m.aE)).2).2.aB):=rfl;rw[et]at I a2;simp only at I a2;have D0:=XH.aA C0;have D1:=XH.aA u;have r4:=XH.aA C;simp only[go_sem];refine fR u4.1 (u4.2 (λ_=>True) H4 _ b1 (e_.rd _ (λ_ _=>Vp) _ a5) I.1 (by omega)) ?_;obtain⟨cf,E⟩:∃cf,cf=gZ (gA (some m.aE)).1:=⟨_,rfl⟩;rw[<-E];simp only[go_sem,fG.aD,iB];have S5:=S4.up (eY.b1 (some (fh.aA 3 [[fA cf.1.aA,fA cf.1.aB,fA cf.1.aC]] false)));have X5:=XH.tr (eY.b1 (some (fh.aA 3 [[fA cf.1.aA,fA cf.1.aB,fA cf.1.aC]] false)));have C5:=gh H4 (some (fh.aA 3 [[fA cf.1.aA,fA cf.1.aB,fA cf.1.aC]] false));have M:=O.up X5;have E0:=X5.aA C0;have E1:=X5.aA u;have a4:Rd (λn=>H.length<=n) (H4++[some (fh.aA 3 [[fA cf.1.aA,fA cf.1.aB,fA cf.1.aC]] false)]) (fT (gA (gA (some m.aE)).2).1) b2:=Rd.aC (λ_ y=>y) ((eY.b1 _).aF _) _ _ (e_.rd _ (λn hn=>hn.1) _ o2);have a8:=fu.aA (λ_ y=>y) (X5.aF _) _ _ U;have er:(RX.aN ⟨R,out⟩ m)=(if ¬(gA (gA (some m.aE)).2).2.aB=0\/¬cf.2=0 then ⟨R,out⟩ else
    let y:=RX.aV ⟨R,out⟩ m.aA m.aI cf.1 (gA (gA (some m.aE)).2).1
    (⟨{y.r with aI:=m.aA,aO:=m.aA},{y.o with aB:=true}⟩:RX).aM m true m.aA):=by
   unfold RX.aN;rw[Ve c1];simp only[et,<-E]
  have l5:H4.length<(H4++[some (fh.aA 3 [[fA cf.1.aA,fA cf.1.aB,fA cf.1.aC]] false)]).length:=by simp
  generalize hH5:H4++_=H5 at *;refine fR u5.2 (HM u5 S5) ?_;generalize (gA (gA (some m.aE)).2).2.aB=en at *;generalize (gA (gA (some m.aE)).2).1=sn at *;by_cases c2:en=0
  ·by_cases c3:cf.2=0
   ·rw[Ve (by rintro (z | z);exact z c2;exact z c3)]at er;simp only[go_sem,E0,E1,C5,Vc c2,Vc c3,Vq];have bs:=u6.2 (λn=>H.length<=n) L H5 r o ⟨R,out⟩ j m.aA m.aI cf.1 _ sn b2 M (t.aB hk) hj (by omega) (fu.aA (F:=fj) (λ_ z=>z.elim) (λ_ hm=>hm.elim) _ _ (sS cf.1 H5)) a4 (λn hn=>hx.ge (by omega)) (by have:=kP (uv (l:=(gA (some m.aE)).1) (by rw[<-E];exact c3));rw[<-E]at this;exact this.le (by decide)) (by omega);refine fq ⟨u6.1,bs⟩ ?_;intro _ H6 T6;obtain⟨g6,f6,r6⟩:=T6.aD;obtain⟨ma,ca,aa,o6,sma,sca,saa⟩:=T6.aN;have M0:=T6.aA (z2 _ (Vg _)) (λy=>y) E0;have M1:=T6.aA (z2 _ (by omega)) (λy=>y) E1;have a6:=(U_.1 r6).1;have a7:=(U_.1 o6).1;have w0:(o=h.length)=False:=Vs (by omega);have w1:(o=h.length+1)=False:=Vs (by omega);have w2:(h.length=o)=False:=Vs (by omega);have w3:(h.length+1=o)=False:=Vs (by omega);have w4:(r=o)=False:=Vs a0;have w5:(o=r)=False:=Vs (λz=>a0 z.symm);obtain⟨y,hy⟩:∃y,y=RX.aV ⟨R,out⟩ m.aA m.aI cf.1 sn:=⟨_,rfl⟩;have yf:y.aA (j+1):=by rw[hy];exact RX.aA.aC (x:=({r:={R with aA:={R.aA with aA:=R.aS m.aA m.aI,aC:=cf.1,aF:=sn}},o:=out}:RX)) hj _
    rw[<-hy]at T6 r6 o6 er;have T7:=fF.aG (R:=y.r) (out:=y.o) (R':={y.r with aI:=m.aA,aO:=m.aA}) T6 r6 rfl rfl (λ_ z=>z);have o7:(H6.set r (some (.aA 21 [({y.r with aI:=m.aA,aO:=m.aA}:fm).aJ g6 f6] false)))[o]?=some (some (.aA 5 [[ma,ca,aa,.aA .i64 y.o.aA,.aD y.o.aB]] false)):=(Vb (λz=>a0 z)).trans o6;have T8:=fF.aO (n:=y.o.aA) (b:=true) T7 o7 (λ_ z=>z);have a3:=r6;simp only[fm.aJ]at a3 T8;simp only[go_sem,M0,M1,a3,o6,a6,a7,q0,q1,w0,w1,w4,V8,Vh];have eo:({y.o with aA:=y.o.aA,aB:=true}:hM)={y.o with aB:=true}:=rfl;have an:=a1 a8 h0 (j+1) true m.aA T8 yf ab;refine fq ⟨u1.1,an⟩ ?_;intro _ H8 T9;rw[er];simp only[go_sem];exact fF.aB X1 (fF.aB X5 T9)
   ·rw[Vf (.inr c3)]at er;rw[er];simp only[go_sem,Vc c2,Va c3,Vq,Vt];exact fF.aB X1 (fF.aB X5 M.to)
  ·rw[Vf (.inl c2)]at er;rw[er];simp only[go_sem,Va c2,Vt];exact fF.aB X1 (fF.aB X5 M.to)
theorem TQ {l:List Int}(hb:gK l)(hl:l.length<=2^16):(gK (jZ l).1/\(jZ l).1.length<=2^16)/\gK (jZ l).2.1/\(jZ l).2.1.length<=2^16:=by
 have t:∀st:fZ,(∀b∈(gA st).1,b∈st.aA)/\(gA st).1.length<=st.aA.length/\(∀b∈(gA st).2.aA,b∈st.aA)/\(gA st).2.aA.length<=st.aA.length:=by
  intro st;cases st with
  | none=>exact⟨by simp[gA,gw],by simp[gA,gw],by simp[gA,gw,fZ.aA],by simp[gA,gw,fZ.aA]⟩
  | some l=>
   unfold gA gw;by_cases c:l.length<8;·simp[c,fZ.aA]
   ·simp only[c,VO];by_cases c2:iO (l.take 8)<0\/((l.drop 8).length:Int)<iO (l.take 8);·rw[Vf c2];simp[fZ.aA]
    ·rw[Ve c2];refine⟨λb hb=>VM (V0 hb),?_,λb hb=>VM (VM hb),?_⟩;·show ((l.drop 8).take _).length<=l.length;simp only[Vw,VA];omega
     ·show ((l.drop 8).drop _).length<=l.length;simp only[VA];omega
 obtain⟨a1,a2,a3,a4⟩:=t (some l);obtain⟨b1,b2,b3,b4⟩:=t (gA (some l)).2;have e:fZ.aA (some l)=l:=rfl;rw[e]at a1 a2 a3 a4;exact⟨⟨λx hx=>hb x (a1 x hx),by show (gA (some l)).1.length<=_;omega⟩,λx hx=>hb x (a3 x (b1 x hx)),by show (gA (gA (some l)).2).1.length<=_;omega⟩
section
variable {k j:Nat} {x:RX} {m:fB}
theorem RX.aA.aI (h:x.aA j):x.aI.aA j:=h
theorem fm.aD.aO {x:fm}(h:x.aD k):({x with aF:=0}:fm).aD k:=by obtain⟨g1,g2,g3,g4,g5,g6,g7,g8,g9,g10,E,C,u,t,b⟩:=h;exact⟨g1,g2,g3,g4,g5,g6,g7,g8,g9,⟨Wm _,by show (0:Int)<=k;omega⟩,E,C,u,t,b⟩
theorem fm.aD.bI {x:fm}(h:x.aD k){v:Int}(hv:gO v):({x with aA:={x.aA with aE:=v}}:fm).aD k:=by obtain⟨g1,g2,g3,g4,g5,g6,g7,g8,g9,I,E,C,u,t,b⟩:=h;exact⟨g1,g2,g3,g4,g5,g6,g7,⟨g8.1,hv,g8.2.2⟩,g9,I,E,C,u,t,b⟩
theorem KQ (h:x.r.aD k)(hj:x.aA j)(hm:m.aL):(x.aR m).r.aD k/\(x.aR m).aA (j+2):=by
 have e:x.aR m=(if mq x.r.aA.aB x.r.aA.aE x.r.aA.aA m then (let z:RX:={x with r:={x.r with aF:=0}};if z.r.aA.aE=m.aC then z else z.aL z.r.aA.aB m.aC) else x).aG {fB.aG with aD:=2,to:=m.aC,ok:=mq x.r.aA.aB x.r.aA.aE x.r.aA.aA m}:=rfl;rw[e];split
 ·simp only;split;·exact⟨h.aO,(RX.aA.aB (x:={x with r:={x.r with aF:=0}}) hj _).aA (by omega)⟩
  ·exact⟨h.aO.bI hm.aD.1,(RX.aA.aC (x:={x with r:={x.r with aF:=0,aA:={x.r.aA with aB:=x.r.aA.aB,aE:=m.aC}}}) hj _).aB _⟩
 ·exact⟨h,(hj.aB _).aA (by omega)⟩
theorem UN (h:x.r.aD k)(hk:k<2^28)(hj:x.aA j):(x.aQ m).r.aD (k+2)/\(x.aQ m).aA (j+22):=by
 unfold RX.aQ;split;·exact⟨h.aA (by omega),hj.aA (by omega)⟩
 ·have f:({x.r with aG:=x.r.aG++[m.aC]}:fm).aD (k+1):=by obtain⟨g1,g2,g3,g4,g5,g6,g7,g8,g9,E,C,u,g13,t,b⟩:=h.aA (WB k);have:=h.aT;exact⟨g1,g2,g3,g4,g5,g6,g7,g8,g9,E,C,u,by show (x.r.aG++[m.aC]).length<=k+1+1;simp;omega,t,b⟩
  simp only;split;·exact⟨fm.aD.bE (x:={x with r:={x.r with aG:=x.r.aG++[m.aC]}}) f (by omega),RX.aA.aF (x:={x with r:={x.r with aG:=x.r.aG++[m.aC]}}) f (by omega) hj⟩
  ·exact⟨f.aA (by omega),RX.aA.aA (x:={x with r:={x.r with aG:=x.r.aG++[m.aC]}}) hj (by omega)⟩
theorem fO.aI.aC {w:fO}(h:w.aI)(m:fB)(hi:0<=m.aA/\m.aA<=2^40):(w.aE m).aI:=by
 obtain⟨h1,⟨h2,h3⟩,h4,h5⟩:=h;unfold fO.aE;split
 ·split;·exact⟨h1,⟨by show 0<=max w.aD (max w.aC m.aA+1);omega,by show max w.aD (max w.aC m.aA+1)<=_;omega⟩,by show 0<=max w.aC m.aA;omega,by show max w.aC m.aA<=_;omega⟩
  ·exact⟨h1,⟨by show 0<=max (w.aC+1) (min (w.aD-1) (m.aA+1));omega,by show max (w.aC+1) (min (w.aD-1) (m.aA+1))<=_;omega⟩,h4,h5⟩
 ·exact⟨h1,⟨h2,h3⟩,h4,h5⟩
theorem fm.aD.bH {x:fm}(h:x.aD k)(i:Nat){w:fO}(hw:w.aI):({x with aB:=x.aB.set i w}:fm).aD k:=by
 obtain⟨g1,g2,g3,g4,g5,g6,g7,g8,g9,I,E,C,u,b,t⟩:=h;refine⟨g1,g2,g3,g4,g5,g6,g7,g8,g9,I,E,C,u,⟨by show (x.aB.set i w).length<=21;rw[Vh];exact b.1,λy hy=>?_⟩,t⟩;rcases WK hy with z | z;·exact b.2 y z
 ·rw[z];exact hw
theorem OD (h:x.r.aD k)(hj:x.aA j)(hi:0<=m.aA/\m.aA<=2^40):(x.aK m).r.aD k/\(x.aK m).aA (j+1):=by
 unfold RX.aK;split;·exact⟨h,hj.aA (by omega)⟩
 ·split;·exact⟨h,hj.aA (by omega)⟩
  ·rename_i i t;have b:i<x.r.aB.length:=by unfold oV at t;exact (WS.1 t).1
   have ww:=(h.aD.2 _ (VU b)).aC m hi;have e:(x.r.aB[i]?).getD ⟨0,0,0,0⟩=x.r.aB[i]:=by rw[Vi b];rfl
   rw[e];have f:=h.bH i ww;simp only;split<;>split<;>first
    | exact⟨f.aN,(RX.aA.aB (x:=RX.aI {x with r:={x.r with aB:=x.r.aB.set i (x.r.aB[i].aE m)}}) hj _)⟩
    | exact⟨f,(RX.aA.aB (x:={x with r:={x.r with aB:=x.r.aB.set i (x.r.aB[i].aE m)}}) hj _)⟩
    | exact⟨f.aN,RX.aA.aA (x:=RX.aI {x with r:={x.r with aB:=x.r.aB.set i (x.r.aB[i].aE m)}}) hj (WB j)⟩
    | exact⟨f,RX.aA.aA (x:={x with r:={x.r with aB:=x.r.aB.set i (x.r.aB[i].aE m)}}) hj (WB j)⟩
theorem KL (h:x.r.aD k)(hj:x.aA j)(hm:m.aL)(hi:0<=m.aA/\m.aA<=2^40):(x.aE m).r.aD (k+200)/\(x.aE m).aA (j+2):=by
 unfold RX.aE;split;·exact⟨h.aA (by omega),(RX.aA.aB hj _).aA (by omega)⟩
 ·split;·exact⟨h.aA (by omega),(RX.aA.aB hj _).aA (by omega)⟩
  ·rename_i c1 c2;simp only;have hp:x.r.aA.aA.aD m.aA=true:=by
    cases e:x.r.aA.aA.aD m.aA with
    | false=>exact absurd (.inl e) c2
    | true=>rfl
   split;·exact⟨h.aA (by omega),hj.aA (by omega)⟩
   ·rename_i c3;have hb:=h.aC;by_cases c4:0<x.r.aA.aA.aI m.aA m.es;·rw[Vf c4];obtain⟨f,el⟩:=h.a_ hm hi hp (by omega);have fc:=f.aK;refine⟨f.bB (c:=max x.r.aI (min m.aK (m.aA+m.es.length))) (by show x.r.aI<=_;omega) (by show _<=(x.r.aA.aA.aF m.aA m.es).aC;rw[el];have:=fc.2.2;have e3:x.r.aI<=(x.r.aA.aA.aF m.aA m.es).aC:=this;omega),?_⟩;exact (RX.aA.aC (x:={x with r:={x.r with aA:={x.r.aA with aA:=x.r.aA.aA.aF m.aA m.es}}}) hj _).aB _
    ·rw[Ve c4];have h0:x.r.aA.aA.aI m.aA m.es=0:=by
      unfold fE.aI at c4 ⊢;split at c4;·have h1:=oX.1 hp;omega
      ·rename_i c;rw[Ve c]
     have hl:=fE.aO hb.1 hp h0;have:=h.aK;exact⟨(h.bB (c:=max x.r.aI (min m.aK (m.aA+m.es.length))) (by omega) (by omega)).aA (by omega),(RX.aA.aB (x:={x with r:={x.r with aI:=max x.r.aI (min m.aK (m.aA+m.es.length))}}) hj _).aA (by omega)⟩
theorem RA (h:x.r.aD k)(hj:x.aA j)(hm:m.aL)(hi:0<=m.aA/\m.aA<=2^40):(x.aN m).r.aD k/\(x.aN m).aA (j+2):=by
 unfold RX.aN;split;·exact⟨h,(RX.aA.aB hj _).aA (by omega)⟩
 ·simp only;split;·exact⟨h,hj.aA (by omega)⟩
  ·rename_i c1 c2;obtain⟨tb1,b⟩:=TQ hm.aA.1 hm.aA.2;have hc:(gZ (jZ m.aE).1).2=0:=Vm λz=>c2 (.inr z);obtain⟨s1,s2,s3,s4,s5,s6,s7⟩:=Dp h ⟨hi.1,by omega⟩ hm.aD.2;exact⟨h.bD (c:=m.aA) (a:=m.aA) ⟨hi.1,by omega⟩ hm.aD.2 (uv hc) b ⟨Wm _,Wm _,s6⟩,
    RX.aA.aB (x:=(⟨{(x.aV m.aA m.aI (gZ (jZ m.aE).1).1 (jZ m.aE).2.1).r with aI:=m.aA,aO:=m.aA},{(x.aV m.aA m.aI (gZ (jZ m.aE).1).1 (jZ m.aE).2.1).o with aB:=true}⟩:RX)) (RX.aA.aC (x:={x with r:={x.r with aA:={x.r.aA with aA:=x.r.aS m.aA m.aI,aC:=(gZ (jZ m.aE).1).1,aF:=(jZ m.aE).2.1}}}) hj _) _⟩
def RX.aF (x:RX)(m:fB):RX:=if x.r.aA.aB<m.aF then (x.aL m.aF 0).aS 0 else x
theorem xM (h:x.r.aD k)(hj:x.aA j)(hm:m.aL):(x.aF m).r.aD k/\(x.aF m).aA (j+1)/\(x.aF m).r.aA.aA=x.r.aA.aA/\(x.aF m).r.aA.aC=x.r.aA.aC/\(x.aF m).r.aA.aD=x.r.aA.aD/\(x.aF m).r.aI=x.r.aI:=by
 unfold RX.aF;split;·rename_i c;have ht:=h.aJ;refine⟨(h.aW (t:=m.aF) (v:=0) ⟨by omega,hm.aE⟩ ⟨by omega,by omega⟩).aF 0,?_,rfl,rfl,rfl,rfl⟩;exact RX.aA.aC (x:={x with r:={x.r with aA:={x.r.aA with aB:=m.aF,aE:=0}}}) hj _
 ·exact⟨h,hj.aA (by omega),rfl,rfl,rfl,rfl⟩
def RX.aX (y:RX)(m:fB):RX:=
 if m.aD=1 then y.aR m else if m.aD=2 then y.aQ m else if m.aD=4 then y.aK m
 else if y.r.aM=2 then y else
  let z:RX:={y with r:={y.r.aR m.aC with aF:=0}}
  if m.aD=3 then z.aE m else z.aN m
theorem pW (x:RX)(m:fB):x.aT m=if ¬m.aJ=x.r.aA.aD\/m.aD<1\/5<m.aD\/(m.aD=1/\x.r.aV m.aC=false) then x else
 if m.aF<(x.aF m).r.aA.aB then
  (if m.aD=1 then (x.aF m).aG {fB.aG with aD:=2,to:=m.aC} else if m.aD=3\/m.aD=5 then (x.aF m).aG {fB.aG with aD:=4,to:=m.aC} else x.aF m)
 else (x.aF m).aX m:=rfl
theorem TI (h:x.r.aD k)(hk:k<2^28)(hj:x.aA j)(hm:m.aL)(h1:1<=m.aD/\m.aD<=5):(x.aX m).r.aD (k+200)/\(x.aX m).aA (j+22):=by
 unfold RX.aX;split;·obtain⟨a,b⟩:=KQ h hj hm;exact⟨a.aA (by omega),b.aA (by omega)⟩
 ·split;·obtain⟨a,b⟩:=UN (m:=m) h hk hj;exact⟨a.aA (by omega),b.aA (by omega)⟩
  ·split;·obtain⟨a,b⟩:=OD h hj (hm.aB (by omega));exact⟨a.aA (by omega),b.aA (by omega)⟩
   ·split;·exact⟨h.aA (by omega),hj.aA (by omega)⟩
    ·simp only;split;·obtain⟨a,b⟩:=KL (x:={x with r:={x.r.aR m.aC with aF:=0}}) (h.aF m.aC).aO hj hm (hm.aB (by omega));exact⟨a,b.aA (by omega)⟩
     ·obtain⟨a,b⟩:=RA (x:={x with r:={x.r.aR m.aC with aF:=0}}) (h.aF m.aC).aO hj hm (hm.aB (by omega));exact⟨a.aA (by omega),b.aA (by omega)⟩
theorem xK (h:x.r.aD k)(hk:k<2^28)(hj:x.aA j)(hm:m.aL):(x.aT m).r.aD (k+200)/\(x.aT m).aA (j+23):=by
 rw[pW];split;·exact⟨h.aA (by omega),hj.aA (by omega)⟩
 ·rename_i c;obtain⟨t1,t2,-⟩:=xM h hj hm;split
  ·split;·exact⟨t1.aA (by omega),(RX.aA.aB t2 _).aA (by omega)⟩
   ·split;·exact⟨t1.aA (by omega),(RX.aA.aB t2 _).aA (by omega)⟩
    ·exact⟨t1.aA (by omega),t2.aA (by omega)⟩
  ·exact TI t1 hk t2 hm ⟨by omega,by omega⟩
theorem xf (h:x.r.aD k):x.aD.r.aD k/\x.aD.o.aD=x.o.aD/\x.aD.o.aC=x.o.aC:=by
 have f:x.r.aZ.aD k:=by unfold fm.aZ;split;exact h.aF 0;exact h
 unfold RX.aD;simp only;split;·exact⟨f,rfl,rfl⟩
 ·refine⟨?_,rfl,rfl⟩;obtain⟨g1,g2,g3,g4,g5,g6,g7,g8,g9,I,E,C,u,t,b⟩:=f;exact⟨g1,g2,g3,g4,g5,g6,g7,g8,⟨Int.le_trans g9.1 g9.2.1,Wm _,g9.2.2⟩,I,E,C,u,t,b⟩
theorem xJ (h:x.r.aD k)(hk:k<2^28)(hj:x.aA j)(ht:x.r.aA.aB<2^40)(draw:Int):(x.aW draw).r.aD (k+1)/\(x.aW draw).aA (j+23):=by
 have h0:=h.aJ;have f:=(h.aW (t:=x.r.aA.aB+1) (v:=x.r.id) ⟨by omega,by omega⟩ ⟨by have:=h.id;omega,by have:=h.id;omega⟩).aF 0;obtain⟨z,hz⟩:∃z:RX,z={(x.aL (x.r.aA.aB+1) x.r.id).aS 0 with r:={((x.aL (x.r.aA.aB+1) x.r.id).aS 0).r with aM:=1,aF:=0,aT:=jV draw,aG:=[((x.aL (x.r.aA.aB+1) x.r.id).aS 0).r.id]}}:=⟨_,rfl⟩;have e:x.aW draw=if z.r.aE.aG z.r.aG then z.aP else z.aO (jo z.r.id z.r.aA.aD z.r.aA.aB z.r.aA.aA z.r.aE):=by rw[hz];rfl
 have zf:z.r.aD k:=by rw[hz];obtain⟨g1,g2,g3,g4,g5,g6,g7,g8,g9,g10,E,C,g13,u,b⟩:=f;exact⟨g1,g2,g3,g4,g5,g6,g7,g8,g9,⟨Wm _,by show (0:Int)<=k;omega⟩,E,C,by show [_].length<=k+1;simp,u,b⟩
 have zw:z.aA (j+1):=by rw[hz];exact RX.aA.aC (x:={x with r:={x.r with aA:={x.r.aA with aB:=x.r.aA.aB+1,aE:=x.r.id}}}) hj _
 rw[e];split;·exact⟨zf.bE (by omega),zw.aF zf (by omega)⟩
 ·have hl:(jo z.r.id z.r.aA.aD z.r.aA.aB z.r.aA.aA z.r.aE).length<=21:=Vr (yZ _ _ _ _ _) (Vr (uW zf.aM) (by omega));obtain⟨a,-,-⟩:=xI (jo z.r.id z.r.aA.aD z.r.aA.aB z.r.aA.aA z.r.aE) z;exact⟨by rw[a];exact zf.aA (by omega),(zw.aG hl).aA (by omega)⟩
end
theorem iM (r:fm):r.aC.aA 0:=⟨Vg _,Vg _⟩
theorem sN {k j:Nat}{x:RX}(h:x.r.aD k)(hj:x.aA j):x.on.r.aD k/\x.on.aA (j+21):=⟨by show (RX.aJ _ _).r.aD k;rw[(nW _ _).1];exact h,hj.aE h.aD.1⟩
theorem fm.bG {k:Nat}{x:fm}(h:x.aD k)(hk:k+2<2^28)(draw:Int):(x.aQ draw).r.aD (k+2):=by
 unfold fm.aQ;split
 ·refine (xf ?_).1;have hb:=h.aY;split
  ·have f:({x with aN:=0}:fm).aD k:=by obtain⟨g1,g2,g3,g4,g5,g6,g7,g8,g9,E,I,C,u,t,b⟩:=h;exact⟨g1,g2,g3,g4,g5,g6,g7,g8,g9,E,⟨Wm _,by show (0:Int)<=1;omega⟩,C,u,t,b⟩
   exact (sN (x:=({x with aN:=0}:fm).aC) f (iM _)).1.aA (by omega)
  ·rename_i c;obtain⟨g1,g2,g3,g4,g5,g6,g7,g8,g9,E,I,C,u,t,b⟩:=h.aA (show k<=k+2 by omega);exact⟨g1,g2,g3,g4,g5,g6,g7,g8,g9,E,⟨by show 0<=x.aN+1;omega,by show x.aN+1<=1;omega⟩,C,u,t,b⟩
 ·simp only;have f:({x with aF:=x.aF+1}:fm).aD (k+1):=by have he:=h.aZ;obtain⟨g1,g2,g3,g4,g5,g6,g7,g8,g9,E,I,C,u,t,b⟩:=h.aA (WB k);exact⟨g1,g2,g3,g4,g5,g6,g7,g8,g9,⟨by show 0<=x.aF+1;omega,by show x.aF+1<=((k+1:Nat):Int);omega⟩,I,C,u,t,b⟩
  refine (xf ?_).1;split;·rename_i c;exact (xJ (x:=({x with aF:=x.aF+1}:fm).aC) f (by omega) (iM _) c.2.2.1 draw).1
  ·exact f.aA (by omega)
def DC.aD:DC->AC->DC
 | .aC a d,r=>.aC a (d.aD r)
 | .aB o g xs _,r=>.aB o g xs r
def DC.aA:DC->AC
 | .aC _ d=>d.aA
 | .aB _ _ _ r=>r
theorem DC.aI (a:AC)(d:DC)(r:AC):(DC.aC a d).aD r=.aC a (d.aD r):=rfl
theorem DC.aG (o:List AO)(g:FuncId)(xs:List fJ)(x r:AC):(DC.aB o g xs x).aD r=.aB o g xs r:=rfl
theorem DC.aF (a:AC)(d:DC):(DC.aC a d).aA=d.aA:=rfl
theorem DC.aE (o:List AO)(g:FuncId)(xs:List fJ)(x:AC):(DC.aB o g xs x).aA=x:=rfl
structure iu (L:Nat->Nat)(h:eZ)(r:Nat)(x:fm):Prop where
 r:∃g f,mY L h r x g f
 aA:∀m,L m≠0->m<h.length/\(L m=1\/L m=2\/L m=6)
def jI (L:Nat->Nat)(h:eZ)(r:Nat)(x:RX)(v:AV)(h':eZ):Prop:=∃L' o ma ca aa,v=.aE [ma,ca,aa,.aA .i64 x.o.aA,.aD x.o.aB]/\(∃g f,mY L' h' r x.r g f)/\oF L' h' o x.o ma ca aa/\(∀m,L' m≠0->m<h'.length)/\h.length<=o /\
 (∀m,m<h.length->L' m=L m)/\eY (λm=>wA (L m)) h h'
theorem iu.aB {L h r x h0 o}(a:iu L h r x)(hx:eY fj h h0) (ho:h0[o]?=some (some (.aA 5 [[.aB,.aB,.aB,.aA .i64 0,.aD false]] false))) (hlo:h.length<=o):gS (λm=>if m=o then 7 else L m) h0 r o x.aC:=by
 obtain⟨⟨g,f,ra⟩,lab⟩:=a;have hl:=hx.1;have e:∀m,m<h.length->(if m=o then 7 else L m)=L m:=λm hm=>Ve (by omega);refine⟨⟨g,f,ra.aB (λm hm _=>e m hm) λm hm _=>hx.2 m hm (λy=>y)⟩,⟨.aB,.aB,.aB,ho,e_.aC 17,Vp,e_.aC 17,Vp,e_.aC 3,Vf rfl⟩,λm hm=>?_⟩;by_cases c:m=o;·rw[c];exact (U_.1 ho).1
 ·simp only[Ve c]at hm;have:=(lab m hm).1;omega
theorem iu.lt {L h r x}(a:iu L h r x):r<h.length:=let⟨_,_,ra⟩:=a.r;(a.aA r (by rw[ra.lr];omega)).1
theorem iu.ge {L h r x}(a:iu L h r x){m:Nat}(hm:h.length<=m):L m=0:=Vm λz=>by have:=(a.aA m z).1;omega
theorem fF.aI {L h r x h0 o X h'}(a:iu L h r x)(hx:eY fj h h0)(b:h.length<=o)(T:fF wA fj (λm=>if m=o then 7 else L m) h0 r o X h'):
  ∃ma ca aa,h'[o]?=some (some (.aA 5 [[ma,ca,aa,.aA .i64 X.o.aA,.aD X.o.aB]] false))/\ma.aG=true/\ca.aG=true/\aa.aG=true/\jI L h r X (.aE [ma,ca,aa,.aA .i64 X.o.aA,.aD X.o.aB]) h':=by
 obtain⟨L1,x1,l1,e1⟩:=T;obtain⟨ma,ca,aa,oa⟩:=x1.o;have hl:=hx.1;have e:∀m,m<h.length->(if m=o then 7 else L m)=L m:=λm hm=>Ve (by omega);refine⟨ma,ca,aa,oa.aA,oa.m.aA,oa.c.aA,oa.a.aA,L1,o,ma,ca,aa,rfl,x1.r,oa,x1.lt,b,λm hm=>(l1 m (by omega) (.inr (λz=>z))).trans (e m hm),?_⟩;refine⟨by have:=e1.1;omega,λm hm hn=>(e1.2 m (by omega) ?_).trans (hx.2 m hm (λz=>z))⟩;rintro (z | z);·exact hn (by have z':wA (if m=o then 7 else L m):=z;rw[e m hm]at z';exact z')
 ·exact z
theorem kH.aA {L h r x m a h0 o}(hm:kH L h m a)(ha:iu L h r x)(hx:eY fj h h0)(hlo:h.length<=o):kH (λm=>if m=o then 7 else L m) h0 m a:=by obtain⟨G,hr,b⟩:=hm;exact⟨λn=>G n/\n<h.length,fu.aA (λ_ y=>y) (hx.aF _) _ _ (fu.lt _ _ hr),λn hn=>by show (if n=o then 7 else L n)=0;rw[Ve (by have:=hn.2;omega)];exact b n hn.1⟩
def wk (P:Program)(f:FuncId):Prop:=fI P f=true/\∀(L:Nat->Nat)(h:eZ)(r:Nat)(x:fm)(k:Nat)(m:fB)(a:List AV),iu L h r x->x.aD k->k+200<=2^28->kH L h m a->m.aL->
 fy P f [.aC r 21 0 0,.aE a] h λv h'=>jI L h r (x.aY m) v h'
theorem SF {P:Program}{f f1 f2 f3 f4 f5 f6 f7 f8 f9 f10 f11:FuncId}(hf:vT P f (ja f1 f2 f3 f4 f5 f6 f7 f8 f9 f10 f11))(u1:p8 P f1)(u2:v8 P f2)(u3:tV P f3)(u4:tU P f4)(u5:qi P f5)(u6:qt P f6)
  (u7:yE P f7) (u8:yM P f8) (u9:yH P f9) (ad:yD P f10) (ac:yJ P f11):wk P f:=by
 refine⟨hf.1,λL h r x k m a hx W hk hm a4=>GJ hf.2 (Wd rfl) ?_⟩;show nV P (ja f1 f2 f3 f4 f5 f6 f7 f8 f9 f10 f11).aA ⟨[(0,.aC r 21 0 0),(1,.aE a)],[],h⟩ (pD P (ja f1 f2 f3 f4 f5 f6 f7 f8 f9 f10 f11).aB _);obtain⟨G,hr,h0⟩:=id hm;obtain⟨e,d,rfl,he,hd⟩:=jS hr;have E:∀(o n5:Nat)(L0:Nat->Nat)(H H':eZ)(Le:fY),o=h.length+1->h.length+2<=n5->L0=(λm=>if m=o then 7 else L m)->eY fj h H->gS L0 H r o x.aC->kH L0 H m (m.aB e d)->
   H[h.length]?=some (some (fh.aA 17 [m.aB e d] false))->H[n5]?=some (some (fh.aA 2 [[.aC r 21 0 0,.aC o 5 0 0]] false))->lk 0 Le=.aC r 21 0 0->lk 3 Le=.aC h.length 17 0 0->lk 4 Le=.aC o 5 0 0->lk 5 Le=.aC n5 2 0 0->
   ¬(¬m.aJ=x.aC.r.aA.aD\/m.aD<1\/5<m.aD\/(m.aD=1/\x.aC.r.aV m.aC=false))->fF wA fj L0 H r o (x.aC.aF m) H'->
   vc P (ja f1 f2 f3 f4 f5 f6 f7 f8 f9 f10 f11).aA.aA.tl.tl ⟨Le,[],H'⟩ (pD P (ja f1 f2 f3 f4 f5 f6 f7 f8 f9 f10 f11).aB (λv h'=>jI L h r (x.aY m) v h') f2 [.aE [.aC r 21 0 0,.aC o 5 0 0]]):=by
  intro o n5 L0 H H' Le ho a3 a0 X C I B0 B5 k0 k3 k4 k5 a5 T;have zL:∀n,h.length<=n->n≠o->¬wA (L0 n):=λn hn a9=>by rw[a0];show ¬wA (if n=o then 7 else L n);rw[Ve a9,hx.ge hn];exact iZ
  have fin:∀(Le:fY)(H':eZ)(y:RX),x.aC.aT m=y->lk 4 Le=.aC o 5 0 0->fF wA fj L0 H r o y H'->
    sj P f2 [.aE [.aC r 21 0 0,.aC o 5 0 0]] H' (sJ (ja f1 f2 f3 f4 f5 f6 f7 f8 f9 f10 f11).aB Le λv h'=>jI L h r (x.aY m) v h'):=by
   intro Le H' y ey k4 T;have yf:=(xK (x:=x.aC) (m:=m) W (by omega) (iM _) a4).1;rw[ey]at yf;obtain⟨L1,x1,l1,e1⟩:=T;refine Cq ⟨u2.1,u2.2 L1 H' r o y (k+200) x1 yf (by omega)⟩ ?_;intro _ h'' T2;have T3:=fF.aE l1 e1 (λ_ _ y=>y) T2;have es:x.aY m=y.aD:=by show (x.aC.aT m).aD=_;rw[ey]
   rw[a0]at T3;obtain⟨ma,ca,aa,row,s1,s2,s3,out⟩:=T3.aI hx X (by omega);rw[es];simp only[ja,go_sem,k4,row];exact out
  obtain⟨t1,t2,t3,t4,t5,t6⟩:=xM (x:=x.aC) (m:=m) W (iM _) a4;have u:x.aC.aT m=if m.aF<(x.aC.aF m).r.aA.aB then
    (if m.aD=1 then (x.aC.aF m).aG {fB.aG with aD:=2,to:=m.aC} else if m.aD=3\/m.aD=5 then (x.aC.aF m).aG {fB.aG with aD:=4,to:=m.aC} else x.aC.aF m)
   else (x.aC.aF m).aX m:=by rw[pW,Ve a5]
  have k15:1<=m.aD/\m.aD<=5:=by
   constructor;·exact Vm λz=>a5 (.inr (.inl (by omega)))
   ·exact Vm λz=>a5 (.inr (.inr (.inl (by omega))))
  have t:=fin;simp only[ja]at t;clear fin;generalize x.aC.aF m=y at *;have D0:=T.aA (zL _ (Vg _) (by omega)) (λz=>z) B0;have D5:=T.aA (zL _ (by omega) (by omega)) (λz=>z) B5;obtain⟨g,ff,rr⟩:=T.aD;have U:=rr;simp only[fm.aJ]at U;simp only[fB.aB]at D0;have a6:∀(kd:Int),fy P f6 [.aE [.aC r 21 0 0,.aC o 5 0 0],.aE (({fB.aG with aD:=kd,to:=m.aC}:fB).aB .aB .aB)] H' λ_ h''=>fF wA fj L0 H r o (y.aG {fB.aG with aD:=kd,to:=m.aC}) h'':=λkd=>fF.aC (Q':=fj) T (eY.aC _ _) (λ_ _ y=>y) λL1 x1=>(u6.2 fj L1 H' r o y {fB.aG with aD:=kd,to:=m.aC} .aB .aB x1 (e_.aC 3) (e_.aC 1) (λ_ z=>z.elim) (qL t2.1 (by omega) 168 (by omega))).aA λ_ _ b=>b.aF me;have s2:=a6 2;have s4:=a6 4;simp only[fB.aB,fB.aG]at s2 s4;have lr:=(U_.1 rr).1;simp only[ja,DC.aF,DC.aE,AC.aA,go_sem,k0,k3,D0,U];have use:∀{g:FuncId}{y':RX}{Le:fY}{H2:eZ}(_:fI P g=true),True:=λ_=>Vp;by_cases c1:m.aF<y.r.aA.aB
  ·rw[Vf c1]at u;simp only[go_sem,k3,D0,Vc c1];by_cases c2:m.aD=1;·rw[Vf c2]at u;simp only[go_sem,k3,k5,D0,D5,Vc c2];refine fq ⟨u6.1,s2⟩ ?_;intro _ H2 T2;simp only[go_sem];exact t _ H2 _ u (by simp[fi,k4]) T2
   ·rw[Ve c2]at u;simp only[go_sem,Va c2];by_cases c3:m.aD=3;·rw[Vf (.inl c3)]at u;simp only[go_sem,k3,k5,D0,D5,Vc c3];refine fq ⟨u6.1,s4⟩ ?_;intro _ H2 T2;simp only[go_sem];exact t _ H2 _ u (by simp[fi,k4]) T2
    ·simp only[go_sem,Va c3];by_cases c4:m.aD=5;·rw[Vf (.inr c4)]at u;simp only[go_sem,k3,k5,D0,D5,Vc c4];refine fq ⟨u6.1,s4⟩ ?_;intro _ H2 T2;simp only[go_sem];exact t _ H2 _ u (by simp[fi,k4]) T2
     ·rw[Ve (by rintro (z | z);exact c3 z;exact c4 z)]at u;simp only[go_sem,Va c4];exact t _ H' _ u (by simp[fi,k4]) T
  ·rw[Ve c1]at u;have et:y.aX m=if m.aD=1 then y.aR m else if m.aD=2 then y.aQ m else if m.aD=4 then y.aK m
    else if y.r.aM=2 then y else
     let z:RX:={y with r:={y.r.aR m.aC with aF:=0}}
     if m.aD=3 then z.aE m else z.aN m:=rfl
   rw[et]at u;simp only[go_sem,k3,D0,Va c1];have q7:=fF.aJ T I iZ λL1 x1 m1=>u7.2 L1 H' r o y k 1 m _ x1 t1 (by omega) t2 (by omega) m1;have q8:=fF.aJ T I iZ λL1 x1 m1=>u8.2 L1 H' r o y k 1 m _ x1 t1 (by omega) t2 (by omega) m1;simp only[fB.aB]at q7 q8;by_cases c2:m.aD=1;·rw[Vf c2]at u;simp only[go_sem,k3,k5,D0,D5,Vc c2];refine fq ⟨u7.1,q7⟩ ?_;intro _ H2 T2;simp only[go_sem];exact t _ H2 _ u (by simp[fi,k4]) T2
   ·rw[Ve c2]at u;simp only[go_sem,Va c2];by_cases c3:m.aD=2;·rw[Vf c3]at u;simp only[go_sem,k3,k5,D0,D5,Vc c3];refine fq ⟨u8.1,q8⟩ ?_;intro _ H2 T2;simp only[go_sem];exact t _ H2 _ u (by simp[fi,k4]) T2
    ·rw[Ve c3]at u;simp only[go_sem,Va c3];have ab:=a4.aB (by omega);by_cases c4:m.aD=4;·rw[Vf c4]at u;simp only[go_sem,k3,k5,D0,D5,Vc c4];have q9:=fF.aJ T I iZ λL1 x1 m1=>u9.2 L1 H' r o y k 1 m _ x1 t1 (by omega) t2 (by omega) m1 ab;simp only[fB.aB]at q9;refine fq ⟨u9.1,q9⟩ ?_;intro _ H2 T2;simp only[go_sem];exact t _ H2 _ u (by simp[fi,k4]) T2
     ·rw[Ve c4]at u;simp only[go_sem,k0,U,Va c4];by_cases c5:y.r.aM=2;·rw[Vf c5]at u;simp only[go_sem,Vc c5];exact t _ H' _ u (by simp[fi,k4]) T
      ·rw[Ve c5]at u;simp only[go_sem,k0,k3,D0,Va c5];have fl:=fF.aC (Q':=fj) T (eY.aC _ _) (λ_ _ y=>y) λL1 x1=>u5.2 L1 H' r o y m.aC x1;refine fq ⟨u5.1,fl⟩ ?_;intro _ H2 T2;have ef:y.aS m.aC=⟨y.r.aR m.aC,y.o⟩:=rfl;rw[ef]at T2;have E0:=T2.aA (zL _ (Vg _) (by omega)) (λz=>z) B0;have E5:=T2.aA (zL _ (by omega) (by omega)) (λz=>z) B5;simp only[fB.aB]at E0;have hlr:=hx.lt;have w0:(r=h.length)=False:=Vs (by omega);have w5:(r=n5)=False:=Vs (by omega);obtain⟨g2,ff2,r2⟩:=T2.aD;have ai:=(U_.1 r2).1;have T3:=fF.aG (R:=y.r.aR m.aC) (out:=y.o) (R':={y.r.aR m.aC with aF:=0}) T2 r2 rfl rfl (λ_ z=>z);have ae:=r2;simp only[fm.aJ]at ae T3;simp only[go_sem,k0,k3,ae,ai,w0,E0];generalize hH3:H2.set r _=H3 at *;have M0:=T3.aA (zL _ (Vg _) (by omega)) (λz=>z) B0;have M5:=T3.aA (zL _ (by omega) (by omega)) (λz=>z) B5;simp only[fB.aB]at M0;have zf:({y.r.aR m.aC with aF:=0}:fm).aD k:=(t1.aF m.aC).aO;have zw:(⟨{y.r.aR m.aC with aF:=0},y.o⟩:RX).aA 1:=t2;by_cases c6:m.aD=3
       ·have u:x.aC.aT m=RX.aE ⟨{y.r.aR m.aC with aF:=0},y.o⟩ m:=by rw[u];exact Vf c6
        simp only[go_sem,k3,k5,M0,M5,Vc c6];have ag:=fF.aJ T3 I iZ λL1 x1 m1=>ad.2 L1 H3 r o _ k 1 m _ x1 zf (by omega) zw (by omega) m1 a4 ab;simp only[fB.aB]at ag;refine fq ⟨ad.1,ag⟩ ?_;intro _ H4 T4;simp only[go_sem];exact t _ H4 _ u (by simp[fi,k4]) T4
       ·have u:x.aC.aT m=RX.aN ⟨{y.r.aR m.aC with aF:=0},y.o⟩ m:=by rw[u];exact Ve c6
        simp only[go_sem,k3,k5,M0,M5,Va c6];have af:=fF.aJ T3 I iZ λL1 x1 m1=>ac.2 L1 H3 r o _ k 1 m _ x1 zf (by omega) zw (by omega) m1 a4 ab;simp only[fB.aB]at af;refine fq ⟨ac.1,af⟩ ?_;intro _ H4 T4;simp only[go_sem];exact t _ H4 _ u (by simp[fi,k4]) T4
 have O:∀(o n5:Nat)(L0:Nat->Nat)(H:eZ)(Le:fY),o=h.length+1->h.length+2<=n5->L0=(λm=>if m=o then 7 else L m)->eY fj h H->gS L0 H r o x.aC->kH L0 H m (m.aB e d)->
   H[h.length]?=some (some (fh.aA 17 [m.aB e d] false))->H[n5]?=some (some (fh.aA 2 [[.aC r 21 0 0,.aC o 5 0 0]] false))->lk 0 Le=.aC r 21 0 0->lk 3 Le=.aC h.length 17 0 0->lk 4 Le=.aC o 5 0 0->lk 5 Le=.aC n5 2 0 0->
   ¬(¬m.aJ=x.aA.aD\/m.aD<1\/5<m.aD\/(m.aD=1/\x.aV m.aC=false))->
   vc P (ja f1 f2 f3 f4 f5 f6 f7 f8 f9 f10 f11).aA.aA.tl ⟨Le,[],H⟩ (pD P (ja f1 f2 f3 f4 f5 f6 f7 f8 f9 f10 f11).aB (λv h'=>jI L h r (x.aY m) v h') f2 [.aE [.aC r 21 0 0,.aC o 5 0 0]]):=by
  intro o n5 L0 H Le ho a3 a0 X C I B0 B5 k0 k3 k4 k5 a5;have e3:(ja f1 f2 f3 f4 f5 f6 f7 f8 f9 f10 f11).aA.aA.tl=.aB (ja f1 f2 f3 f4 f5 f6 f7 f8 f9 f10 f11).aA.aA.tl.hd (ja f1 f2 f3 f4 f5 f6 f7 f8 f9 f10 f11).aA.aA.tl.tl:=rfl;rw[e3];generalize (ja f1 f2 f3 f4 f5 f6 f7 f8 f9 f10 f11).aA.aA.tl.tl=D at E ⊢;have a7:=E;simp only[ja]at a7;obtain⟨g,ff,rr⟩:=C.aA;have U:=rr;have M:=B0;simp only[fm.aJ]at U;simp only[fB.aB]at M;have e1:x.aC.r=x:=rfl;simp only[ja,DC.aF,DC.aE,AC.aG,AC.aA,go_sem,k0,k3,M,U];by_cases c:x.aA.aB<m.aF;·have et:x.aC.aF m=(x.aC.aL m.aF 0).aS 0:=Vf c;rw[et]at a7;simp only[go_sem,k3,k5,M,B5,e1,Vc c];have tm:=u4.2 L0 H r o x.aC m.aF 0 C (by show (0+1)*216<=2^46;decide);refine fq ⟨u4.1,tm⟩ ?_;intro _ H4 T4;simp only[go_sem,k0];have fl:=fF.aC (Q':=fj) T4 (eY.aC _ _) (λ_ _ y=>y) λL1 x1=>u5.2 L1 H4 r o _ 0 x1;refine fq ⟨u5.1,fl⟩ ?_;intro _ H5 T5;simp only[go_sem];refine a7 o n5 L0 H H5 _ ho a3 a0 X C I B0 B5 ?_ ?_ ?_ ?_ a5 T5<;>simp[fi,k0,k3,k4,k5]
  ·have et:x.aC.aF m=x.aC:=Ve c;rw[et]at a7;simp only[go_sem,e1,Va c];refine a7 o n5 L0 H H _ ho a3 a0 X C I B0 B5 ?_ ?_ ?_ ?_ a5 C.to<;>simp[fi,k0,k3,k4,k5]
 have e0:(ja f1 f2 f3 f4 f5 f6 f7 f8 f9 f10 f11).aA=(ja f1 f2 f3 f4 f5 f6 f7 f8 f9 f10 f11).aA.aD (.aB (ja f1 f2 f3 f4 f5 f6 f7 f8 f9 f10 f11).aA.aA.hd (ja f1 f2 f3 f4 f5 f6 f7 f8 f9 f10 f11).aA.aA.tl):=rfl;rw[e0];clear E;generalize (ja f1 f2 f3 f4 f5 f6 f7 f8 f9 f10 f11).aA.aA.tl=D at O ⊢;simp only[ja,DC.aI,DC.aG,DC.aF,DC.aE,AC.aG,go_sem,fB.aB,he.aA,hd.aA];obtain⟨H2,a2⟩:∃H2,H2=h++[some (fh.aA 17 [m.aB e d] false)]++[some (fh.aA 5 [[.aB,.aB,.aB,.aA .i64 0,.aD false]] false)]:=⟨_,rfl⟩;have X2:eY fj h H2:=by rw[a2];exact eY.b2 _ _
 have l2:H2.length=h.length+2:=by rw[a2];simp
 have C0:H2[h.length]?=some (some (fh.aA 17 [m.aB e d] false)):=by rw[a2];exact iE _ _ _
 have C1:H2[h.length+1]?=some (some (fh.aA 5 [[.aB,.aB,.aB,.aA .i64 0,.aD false]] false)):=by rw[a2];exact iq _ _ _
 simp only[fB.aB]at a2;rw[<-a2];clear a2;refine fq ⟨u1.1,u1.2 H2 r (h.length+1)⟩ ?_;rintro _ H3 ⟨rfl,X3⟩;simp only[go_sem];obtain⟨H,hH⟩:∃H,H=H3++[some (fh.aA 2 [[.aC r 21 0 0,.aC (h.length+1) 5 0 0]] false)]:=⟨_,rfl⟩;obtain⟨n5,ah⟩:∃n5,n5=H3.length:=⟨_,rfl⟩;have l3:=X3.1;have X:eY fj h H:=by rw[hH];exact (X2.tr X3).tr (eY.b1 _)
 have B0:H[h.length]?=some (some (fh.aA 17 [m.aB e d] false)):=by rw[hH];exact (eY.b1 _).aA (X3.aA C0)
 have B1:H[h.length+1]?=some (some (fh.aA 5 [[.aB,.aB,.aB,.aA .i64 0,.aD false]] false)):=by rw[hH];exact (eY.b1 _).aA (X3.aA C1)
 have B5:H[n5]?=some (some (fh.aA 2 [[.aC r 21 0 0,.aC (h.length+1) 5 0 0]] false)):=by rw[hH,ah];exact gh _ _
 have a3:h.length+2<=n5:=by omega
 rw[<-hH,<-ah];clear hH;have C:=hx.aB X B1 (by omega);have I:=hm.aA hx X (show h.length<=h.length+1 by omega);obtain⟨o,ho⟩:∃o,o=h.length+1:=⟨_,rfl⟩;obtain⟨L0,a0⟩:∃L0:Nat->Nat,L0=λm=>if m=o then 7 else L m:=⟨_,rfl⟩
 rw[<-ho]at B1 B5 C I ⊢;rw[<-a0]at C I;have zL:∀n,h.length<=n->n≠o->¬wA (L0 n):=λn hn a9=>by rw[a0];show ¬wA (if n=o then 7 else L n);rw[Ve a9,hx.ge hn];exact iZ
 have fin:∀(Le:fY)(H':eZ)(y:RX),x.aC.aT m=y->lk 4 Le=.aC o 5 0 0->fF wA fj L0 H r o y H'->
   sj P f2 [.aE [.aC r 21 0 0,.aC o 5 0 0]] H' (sJ (ja f1 f2 f3 f4 f5 f6 f7 f8 f9 f10 f11).aB Le λv h'=>jI L h r (x.aY m) v h'):=by
  intro Le H' y ey k4 T;have yf:=(xK (x:=x.aC) (m:=m) W (by omega) (iM _) a4).1;rw[ey]at yf;obtain⟨L1,x1,l1,e1⟩:=T;refine Cq ⟨u2.1,u2.2 L1 H' r o y (k+200) x1 yf (by omega)⟩ ?_;intro _ h'' T2;have T3:=fF.aE l1 e1 (λ_ _ y=>y) T2;have es:x.aY m=y.aD:=by show (x.aC.aT m).aD=_;rw[ey]
  rw[a0]at T3;obtain⟨ma,ca,aa,row,s1,s2,s3,out⟩:=T3.aI hx X (by omega);rw[es];simp only[ja,go_sem,k4,row];exact out
 have t:=fin;have a8:=O;simp only[ja]at t a8;clear fin O;obtain⟨g,ff,rr⟩:=C.aA;have U:=rr;have M:=B0;simp only[fm.aJ]at U;simp only[fB.aB]at M;have e1:x.aC.r=x:=rfl;have a1:(¬m.aJ=x.aA.aD\/m.aD<1\/5<m.aD\/(m.aD=1/\x.aV m.aC=false))->x.aC.aT m=x.aC:=λc=>by rw[pW];exact Vf c
 simp only[go_sem,M,U,e1];by_cases c1:m.aJ=x.aA.aD
 ·simp only[go_sem,M,Vc c1,Vq];by_cases c2:m.aD<1;·simp only[go_sem,Vc c2];exact t _ H x.aC (a1 (.inr (.inl c2))) (by simp[fi]) C.to
  ·simp only[go_sem,M,Va c2];by_cases c3:5<m.aD;·simp only[go_sem,Vc c3];exact t _ H x.aC (a1 (.inr (.inr (.inl c3)))) (by simp[fi]) C.to
   ·simp only[go_sem,M,Va c3];by_cases c4:m.aD=1
    ·simp only[go_sem,M,Vc c4];refine fR u3.1 (u3.2 H r x m.aC ⟨g,ff,rr⟩ (W.aI (by omega)) (W.aG (by decide))) ?_;rw[gF];cases c5:x.aV m.aC;·simp only[go_sem,M,U,e1,Vt];exact t _ H x.aC (a1 (.inr (.inr (.inr ⟨c4,c5⟩)))) (by simp[fi]) C.to
     ·simp only[go_sem,M,U,e1,Vq];refine a8 o n5 L0 H _ ho a3 a0 X C I B0 B5 ?_ ?_ ?_ ?_ (by rintro (z | z | z | z);exact z c1;exact c2 z;exact c3 z;rw[c5]at z;cases z.2)<;>simp[fi,ga]
    ·simp only[go_sem,Va c4];refine a8 o n5 L0 H _ ho a3 a0 X C I B0 B5 ?_ ?_ ?_ ?_ (by rintro (z | z | z | z);exact z c1;exact c2 z;exact c3 z;exact c4 z.1)<;>simp[fi,ga]
 ·simp only[go_sem,Va c1,Vt];exact t _ H x.aC (a1 (.inl c1)) (by simp[fi]) C.to
end Glb
