/-
  A library of its own.
-/
import Derived.Test.YtdeiamnhnfmilaaGreatGlbRafC
set_option linter.unusedSimpArgs false
set_option linter.unusedVariables false
set_option maxRecDepth 10000
set_option maxHeartbeats 8000000
namespace Glb
open Go
variable {P:Program}{f f1 f2 f3 f4 f5 f6:FuncId}
structure fF.aL (m:fF):Prop where
 es:m.es.length<=200/\∀e∈m.es,e.aG
 aA:gT m.aG/\m.aG.length<=2^16
 aF:m.aD<=2^40
 aC:iA m.aE/\iA m.aH
 aD:3<=m.aC->0<=m.aA/\m.aA<=2^40
theorem fF.aL.aE {m:fF}(h:m.aL):mS m.es:=⟨by have:=h.es.1;omega,λe he=>by have:=(h.es.2 e he).1.2;omega⟩
section
variable {k:Nat} {x:fy}
theorem fG.aO {l:fG}{p:Int}{e:List gw}(h0:0<=l.aA)(hp:l.aF p=true)(hc:l.aI p e=0):p+e.length<=l.aC:=by
 have h1:=lF.1 hp;by_cases c:l.aG (p+1) e<e.length;·rw[(wJ hp c).2]at hc;omega
 ·have:=ye (e:=e) hp;have:=yg l e (p+1);omega
theorem fy.aG.a_ (h:x.aG k){m:fF}(hm:m.aL)(hi:0<=m.aA/\m.aA<=2^40)(hp:x.aA.aA.aF m.aA=true)(O:x.aD<x.aA.aA.aI m.aA m.es):({x with aA:={x.aA with aA:=x.aA.aA.aE m.aA m.es}}:fy).aG (k+200)/\(x.aA.aA.aE m.aA m.es).aC=m.aA+m.es.length:=by
 have hb:=h.aD;have h0:=h.aP;have u:x.aA.aA.aG (m.aA+1) m.es<m.es.length:=by
  apply W6;intro c;have:x.aA.aA.aI m.aA m.es=0:=by unfold fG.aI;rw[WY (λz=>c z.2)]
  omega
 have e1:=wJ hp u;have e2:=DQ hp u;have hl:=hm.es.1;rw[e1.2]at O;obtain⟨g1,g2,g3,g4,g5,g6,g7,g8,g9,I,a1,E,Z,W,U⟩:=h;refine⟨⟨?_,?_,?_,?_,g5,g6,g7,?_,⟨?_,g9.2.1,?_⟩,⟨I.1,Y9 I.2 ω⟩,a1,⟨E.1,Y9 E.2 ω⟩,Xg Z ω,W,U⟩,e2⟩;·show 0<=(x.aA.aA.aE m.aA m.es).aA/\(x.aA.aA.aE m.aA m.es).aA<=2^40+((k+200:Nat):Int);rw[(pn _ _ _).1];exact⟨g1.1,ω⟩
 ·show (x.aA.aA.aE m.aA m.es).es.length<=k+200;rw[e1.1];simp only[WT,W7,Xk];omega
 ·show (x.aA.aA.aE m.aA m.es).aC<=2^40+((k+200:Nat):Int);rw[e2];omega
 ·show ∀e∈(x.aA.aA.aE m.aA m.es).es,e.aG;rw[e1.1];intro e he;simp only[Xe]at he;rcases he with he | he;·exact g4 e (XQ he)
  ·exact hm.es.2 e (Xw he)
 ·show iA x.aA.aE/\iA x.aA.aF/\iA (x.aA.aA.aE m.aA m.es).aD;rw[(pn _ _ _).2];exact g8
 ·show (x.aA.aA.aE m.aA m.es).aA<=x.aI;rw[(pn _ _ _).1];exact g9.1
 ·show x.aD<=(x.aA.aA.aE m.aA m.es).aC;rw[e2];omega
theorem Dv {l:fG}{b:Int}(hb:l.aF b=true):l.aK b=⟨b,l.aJ b,l.es.drop (b-l.aA).toNat⟩/\(l.aK b).aC=l.aC:=by
 have h1:=lF.1 hb;have e:l.aK b=⟨b,l.aJ b,l.es.drop (b-l.aA).toNat⟩:=by simp only[fG.aK,hb,Yc]
 refine⟨e,?_⟩;rw[e];unfold fG.aC at *;simp only[Xk];omega
theorem JN (h:x.aG k){base term:Int}(hb:0<=base/\base<=2^40+k)(ht:iA term):
  (x.aX base term).aA=base/\(x.aX base term).aD=term/\(x.aX base term).es.length<=k/\(x.aX base term).aC<=2^40+k/\(∀e∈(x.aX base term).es,e.aG)/\base<=(x.aX base term).aC /\
   (x.aA.aA.aF base=true/\x.aA.aA.aJ base=term->(x.aX base term).aC=x.aA.aA.aC):=by
 unfold fy.aX;split;·rename_i c;obtain⟨e1,e2⟩:=Dv c.1;have h1:=lF.1 c.1;rw[e2,e1];refine⟨rfl,c.2,?_,h.aJ,λe he=>h.aI e (Xw he),h1.2,λ_=>rfl⟩;have:=h.aF;simp only[Xk];omega
 ·rename_i c;refine⟨rfl,rfl,ς,?_,ς,by unfold fG.aC;simp,λz=>absurd z c⟩;unfold fG.aC;simp;omega
theorem fy.aG.bF (h:x.aG k){base term c a:Int}{cf:fI}{snap:List Int}(hb:0<=base/\base<=2^40+k)(ht:iA term)(hc:cf.aF=true)(hs:gT snap/\snap.length<=2^16)
  (h1:base<=a/\a<=c/\c<=(x.aX base term).aC):({x with aA:={x.aA with aA:=x.aX base term,aD:=cf,aG:=snap},aD:=c,aI:=a}:fy).aG k:=by
 obtain⟨s1,s2,s3,s4,s5,s6,-⟩:=JN h hb ht;obtain⟨g1,g2,g3,g4,g5,g6,g7,g8,g9,U,O,I,E,u,e⟩:=h;refine⟨?_,s3,s4,s5,hc,hs,g7,?_,⟨?_,h1.2.1,h1.2.2⟩,U,O,I,E,u,e⟩;·show 0<=(x.aX base term).aA/\(x.aX base term).aA<=2^40+k;rw[s1];exact hb
 ·show iA x.aA.aE/\iA x.aA.aF/\iA (x.aX base term).aD;rw[s2];exact⟨g8.1,g8.2.1,ht⟩
 ·show (x.aX base term).aA<=a;rw[s1];exact h1.1
end
variable {P:Program}{f f1 f2 f3 f4 f5 f6:FuncId}
def Az (P:Program)(f:FuncId):Prop:=fZ P f=true/\∀(L:Nat->Nat)(h:fu)(r o:Nat)(x:RX)(k j:Nat)(m:fF)(a:List AV),iv L h r o x->x.r.aG k->k+200<=2^28->x.aC j->j+1<2^20->mw L h m a->m.aL->0<=m.aA/\m.aA<=2^40->
 fO P f [.aF [.aA r 21 0 0,.aA o 5 0 0],.aF a] h λ_ h'=>fJ wA fB L h r o (x.aG m) h'
theorem SM (hf:Is P f (mV f1 f2 f3 f4 f5 f6))(u1:xR P f1)(u2:pO P f2)(u3:qm P f3)(u4:zZ P f4)(u5:oT P f5)(u6:uk P f6):Az P f:=by
 refine⟨hf.2,λL h r o x k j m a hx u hk hj ae hm a4 ac=>gy hf ?_⟩;obtain⟨G,hr,h0⟩:=id hm;obtain⟨e,d,rfl,he,hd⟩:=qK hr;have ap:=hx.aC;obtain⟨R,out⟩:=x;simp only at u;have hmes:=a4.es.1;have le:iJ e=some (ι m.es.length):=by have:=he.aC;simpa [gZ] using this
 have wn:IntKind.i64.wrap (m.aA+m.es.length)=m.aA+m.es.length:=gF ω;have wi:IntKind.i64.wrap (m.aA-1)=m.aA-1:=gF ω;have hlast:=u.aJ;have hbase:=u.aD;obtain⟨H,hH⟩:∃H,H=h++[some (fC.aA 2 [[.aA r 21 0 0,.aA o 5 0 0]] false)]++[some (fC.aA 17 [m.aF e d] false)]:=⟨_,rfl⟩;have X1:fq fB h H:=by rw[hH];exact fq.b2 _ _
 have lH:H.length=h.length+2:=by rw[hH];simp
 have C0:H[h.length]?=ar 2 [[.aA r 21 0 0,.aA o 5 0 0]]:=by rw[hH];exact kr _ _ _
 have C1:H[h.length+1]?=ar 17 [m.aF e d]:=by rw[hH];exact jy _ _ _
 have U:=hx.up X1;have z2:∀m,h.length<=m->¬wA (L m):=λm e=>by rw[hx.ge e];exact kl
 have ab:fH (λn=>G n/\n<h.length) H m.c (m.aF e d):=fH.aA (λ_ y=>y) (X1.aE _) _ _ (fH.lt _ _ hr);have aa:∀{y H'},fJ wA fB L H r o y H'->fH (λn=>G n/\n<h.length) H' m.c (m.aF e d):=λT=>fH.aA (λ_ y=>y) (λn hn y hy=>T.aA (by rw[h0 n hn.1];exact kl) (λz=>z) hy) _ _ ab;have a2:∀{y H'}(j:Nat)(ok:Bool)(ix:Int),fJ wA fB L H r o y H'->y.aC j->j<2^20->fO P f1 [.aF [.aA r 21 0 0,.aA o 5 0 0],.aF (m.aF e d),.aE ok,ι ix] H' λ_ af=>fJ wA fB L H r o (y.aQ m ok ix) af:=fun {y H'} j ok ix T yf hj=>fJ.aD (Q':=fB) T (fq.aC _ _) (λ_ _ y=>y) λL1 x1=>(u1.2 L1 H' r o y j m _ _ ok ix x1 yf hj (aa T)).aA λ_ _ b=>b.aG nZ;simp only[fF.aF]at a2;have E:∀(Le:gx)(H':fu)(y:RX),(RX.aG ⟨R,out⟩ m)=(({y with r:={y.r with aD:=max y.r.aD (min m.aI (m.aA+m.es.length))}}:RX).aQ m true (m.aA+m.es.length))->y.aC (j+1)->lk 2 Le=.aA h.length 2 0 0->lk 3 Le=.aA (h.length+1) 17 0 0->fJ wA fB L H r o y H'->
   vc P (mV f1 f2 f3 f4 f5 f6).aA.tl.tl.tl.tl.tl ⟨Le,[],H'⟩ (iS (mV f1 f2 f3 f4 f5 f6).aC λ_ h'=>fJ wA fB L h r o (RX.aG ⟨R,out⟩ m) h'):=by
  intro Le H' y ey yf k2 k3 T;have D0:=T.aA (z2 _ (WX _)) (λy=>y) C0;have D1:=T.aA (z2 _ ω) (λy=>y) C1;obtain⟨g,ff,rr⟩:=T.aF;have I:=rr;simp only[fy.aL]at I;simp only[fF.aF]at D1;have lr:=(WR.1 rr).1;have q0:(r=h.length)=False:=Xp ω;have q1:(r=h.length+1)=False:=Xp ω;rw[ey];simp only[mV,AC.aC,go_sem,k2,k3,D0,D1,le,wn,I,wP,uZ,tL,q0,q1,lr];have T1:=fJ.aH (R:=y.r) (out:=y.o) (R':={y.r with aD:=max y.r.aD (min m.aI (m.aA+m.es.length))}) T rr rfl rfl (λ_ z=>z);simp only[fy.aL]at T1;have an:=a2 (j+1) true (m.aA+m.es.length) T1 yf ae;refine fK ⟨u1.1,an⟩ ?_;intro _ H2 T2;simp only[go_sem];exact fJ.aC X1 T2
 have e0:(mV f1 f2 f3 f4 f5 f6).aA=.aA (mV f1 f2 f3 f4 f5 f6).aA.hd (.aA (mV f1 f2 f3 f4 f5 f6).aA.tl.hd (.aA (mV f1 f2 f3 f4 f5 f6).aA.tl.tl.hd (.aA (mV f1 f2 f3 f4 f5 f6).aA.tl.tl.tl.hd (.aA (mV f1 f2 f3 f4 f5 f6).aA.tl.tl.tl.tl.hd (mV f1 f2 f3 f4 f5 f6).aA.tl.tl.tl.tl.tl)))):=rfl;rw[e0];generalize (mV f1 f2 f3 f4 f5 f6).aA.tl.tl.tl.tl.tl=D at E ⊢;have snd:=E;simp only[mV,fV]at snd;clear E;obtain⟨g,ff,rr⟩:=U.aA;have I:=rr;have O:=C1;simp only[fy.aL]at I;simp only[fF.aF]at O hH;have lr:=(WR.1 rr).1;have q0:(r=h.length)=False:=Xp ω;have q1:(r=h.length+1)=False:=Xp ω;have q2:(h.length=r)=False:=Xp ω;have q3:(h.length+1=r)=False:=Xp ω;simp only[mV,AC.aE,AC.aC,go_sem,fF.aF,he.aA,hd.aA];rw[<-hH];clear hH;have tc:=u2.2 fB H R.aA.aA _ m.aA (m8 R.aA.aA H) (u.aC ω);simp only[go_sem,I];by_cases c1:m.aA<R.aA.aA.aA
 ·simp only[go_sem,I,C0,O,WZ c1];have ea:(RX.aG ⟨R,out⟩ m)=RX.aQ ⟨R,out⟩ m true R.aD:=by unfold RX.aG;rw[WW c1]
  rw[ea];refine fK ⟨u1.1,a2 j true R.aD U.to hj ω⟩ ?_;intro _ H2 T2;rw[iY];simp only[go_sem];exact fJ.aC X1 T2
 ·simp only[go_sem,I,C0,O,WV c1];refine gH u2.1 tc ?_;rw[iY];have no:(R.aA.aA.aF m.aA=false\/¬R.aA.aA.aJ m.aA=m.aH)->(RX.aG ⟨R,out⟩ m)=RX.aQ ⟨R,out⟩ m false (max 0 (min R.aO (m.aA-1))):=λc=>by unfold RX.aG;rw[WY c1,WW c]
  have a3:(RX.aG ⟨R,out⟩ m)=RX.aQ ⟨R,out⟩ m false (max 0 (min R.aO (m.aA-1)))->m9 P f1 [.aF [.aA r 21 0 0,.aA o 5 0 0],.aF (m.aF e d),.aE false,ι (max 0 (min R.aO (m.aA-1)))] H λ_ h'=>fJ wA fB L h r o (RX.aG ⟨R,out⟩ m) h':=λe=>by rw[e];refine fK ⟨u1.1,a2 j false (max 0 (min R.aO (m.aA-1))) U.to hj ω⟩ ?_;intro _ H2 T2;exact fJ.aC X1 T2
  simp only[fF.aF]at a3;cases c2:R.aA.aA.aF m.aA;·simp only[go_sem,I,C0,O,X_,wi];refine gH u3.1 (u3.2 H r R U.aA (u.aC ω)) ?_;rw[iY];simp only[go_sem,C0,O,tL,wP,uZ];refine fK (a3 (no (.inl c2))) ?_;intro _ H2 T2;rw[iY];simp only[go_sem];exact T2
  ·by_cases c3:R.aA.aA.aJ m.aA=m.aH
   ·simp only[go_sem,I,C0,O,XL,WZ c3];have R3:∀b,(H++[b])[r]?=_:=λb=>(fq.b1 b).aA I;have D0:∀b,(H++[b])[h.length]?=_:=λb=>(fq.b1 b).aA C0;have D1:∀b,(H++[b])[h.length+1]?=_:=λb=>(fq.b1 b).aA O;have N1:∀sz i o',ij (h.length+2) 1 (.aA r sz i o')=true:=λsz i o'=>iN ω;have N2:∀sz i o',ij (h.length+2) 1 (.aA h.length sz i o')=true:=λsz i o'=>iN ω;have N3:∀sz i o',ij (h.length+2) 1 (.aA (h.length+1) sz i o')=true:=λsz i o'=>iN ω;have Z:∀a b,(H++[a]).set (h.length+2) b=H++[b]:=λa b=>by rw[Zv _ _ ω,lH];simp
    have b2:∀b,(H++[b])[h.length+2]?=some b:=λb=>by rw[<-lH];exact h_ H b
    have w0:(h.length=h.length+2)=False:=Xp ω;have w1:(h.length+2=h.length)=False:=Xp ω;have w2:(h.length+1=h.length+2)=False:=Xp ω;have w3:(h.length+2=h.length+1)=False:=Xp ω;have w4:(r=h.length+2)=False:=Xp ω;have w5:(h.length+2=r)=False:=Xp ω;simp only[go_sem,kj,R3,D0,D1,N1,N2,N3,lH,Z];have a6:=u4.2 (λ_=>True) (H++[none]) R.aA.aA _ m.aA m.es e (fH.aA (F:=fB) (λ_ _=>Xb) (λ_ _ _ y=>y) _ _ (m8 R.aA.aA _)) (Rd.aE (λ_ _=>Xb) ((X1.tr (fq.b1 none)).aE _) _ _ he) (u.aC ω) a4.aE;simp only[fG.aN]at a6;refine gH u4.1 a6 ?_;simp only[go_sem,kj,R3,D0,D1,Z,b2,tM,ZD,ZE];obtain⟨l,hl⟩:∃l,l=R.aA.aA.aE m.aA m.es:=⟨_,rfl⟩;obtain⟨at',a5⟩:∃at',at'=R.aA.aA.aI m.aA m.es:=⟨_,rfl⟩;rw[<-hl,<-a5];have ea:(RX.aG ⟨R,out⟩ m)=(if 0<at'/\at'<=R.aD then ⟨R,out⟩ else
     let y:RX:=if 0<at' then ({({r:=R,o:=out}:RX) with r:={R with aA:={R.aA with aA:=l}}}:RX).aX {gE.aI with aC:=2,aE:=at',aA:=⟨0,0,l.aH at' l.es.length⟩} else ⟨R,out⟩
     ({y with r:={y.r with aD:=max y.r.aD (min m.aI (m.aA+m.es.length))}}:RX).aQ m true (m.aA+m.es.length)):=by
     rw[hl,a5];unfold RX.aG;rw[WY c1,WY (by rintro (z | z);rw[c2]at z;cases z;exact z c3)]
    by_cases c4:0<at'
    ·simp only[go_sem,R3,D0,WZ c4];by_cases c5:at'<=R.aD;·simp only[go_sem,WZ c5];rw[ea,WW ⟨c4,c5⟩];exact fJ.aC (X1.tr (fq.b1 _)) (U.up (fq.b1 _)).to
     ·simp only[go_sem,R3,D0,b2,WV c5,tM];rw[WY (λz=>c5 z.2)]at ea;simp only[WW c4]at ea;have lf:=u.a_ a4 ac c2 (by rw[<-a5];omega);rw[<-hl]at lf;have a9:=U.up (fq.b1 (some (fC.aA 3 [[ι l.aA,ι l.aD,kE l.es]] false)));have a7:(H++[some (fC.aA 3 [[ι l.aA,ι l.aD,kE l.es]] false)])[r]?=ar 21 [R.aL g ff]:=(fq.b1 _).aA rr;have T1:=fJ.aH (R':={R with aA:={R.aA with aA:=l}}) (a9.to (W:=wA) (Q:=fB)) a7 rfl rfl (λ_ z=>z);have E0:=D0 (some (fC.aA 3 [[ι l.aA,ι l.aD,kE l.es]] false));have E1:=D1 (some (fC.aA 3 [[ι l.aA,ι l.aD,kE l.es]] false));have E2:=b2 (some (fC.aA 3 [[ι l.aA,ι l.aD,kE l.es]] false));have X3:=fq.b1 (h:=H) (some (fC.aA 3 [[ι l.aA,ι l.aD,kE l.es]] false));have l3:r<h.length+3:=ω;simp only[go_sem,b2,w4,q0,lH,l3,WT];simp only[fy.aL]at T1;have K0:=T1.aA (z2 _ (WX _)) (λy=>y) E0;have K1:=T1.aA (z2 _ ω) (λy=>y) E1;have K2:=T1.aA (z2 _ ω) (λy=>y) E2;generalize hH4:List.set (H++_) r _=H4 at *;obtain⟨R',a1⟩:∃R':fy,R'={R with aA:={R.aA with aA:=l}}:=⟨_,rfl⟩;have a8:R'.aG (k+200):=by rw[a1];exact lf.1
      have ag:R'.aA.aA=l:=by rw[a1]
      have eRg:R'.aA.aE=R.aA.aE:=by rw[a1]
      rw[<-a1]at T1 ea;have sl:=u5.2 fB H4 R'.aA.aA _ at' l.es.length (m8 R'.aA.aA H4) (a8.aC ω);rw[ag]at sl;refine fK ⟨u5.1,sl⟩ ?_;rintro e1 H5 ⟨oe,-,X5⟩;have se:=oe.aA;have M0:=X5.aA K0;have M1:=X5.aA K1;have M2:=X5.aA K2;have hl4:H4.length=H.length+1:=by rw[<-hH4,W4,WT];rfl
      rw[iY];simp only[go_sem,M0,M2,gV se];have tl:=fJ.aD (Q':=λn=>H4.length<=n) T1 X5 (λn hn (z:H4.length<=n)=>by rw[WT]at hn;simp at hn;omega) λL1 x1=>(u6.2 (λn=>H4.length<=n) L1 H5 r o _ {gE.aI with aC:=2,aE:=at',aA:=⟨0,0,l.aH at' l.es.length⟩} e1 .aC .aC .aC .aC (x1.up X5) oe (fA.aD 1) (fA.aD 1) (fA.aD 1) (fA.aD 1) (λn hn=>x1.ge hn) (tg (show out.aC.length<=j from hj.2) ω 216 ω)).aA λ_ _ b=>b.aG nZ;refine fK ⟨u6.1,tl⟩ ?_;intro _ H6 T6;rw[iY];simp only[go_sem];refine snd _ H6 _ ea (RX.aC.aD (x:=({r:=R',o:=out}:RX)) hj _) ?_ ?_ (fJ.aC X3 T6)<;>simp[fE]
    ·simp only[go_sem,WV c4];rw[WY (λz=>c4 z.1)]at ea;simp only[WY c4]at ea;refine snd _ _ ⟨R,out⟩ ea (hj.aA ω) ?_ ?_ (fJ.aC (fq.b1 _) (U.up (fq.b1 _)).to)<;>simp[fE]
   ·simp only[go_sem,I,C0,O,XL,X_,WV c3,wi];refine gH u3.1 (u3.2 H r R U.aA (u.aC ω)) ?_;rw[iY];simp only[go_sem,C0,O,tL,wP,uZ];refine fK (a3 (no (.inr c3))) ?_;intro _ H2 T2;rw[iY];simp only[go_sem];exact T2
variable {P:Program}{f f1 f2 f3 f4 f5 f6:FuncId}
theorem fY.bJ {G w h r sz es es' gr}(g:fY G w h) (hr:h[r]?=some (some (.aA sz es gr))) (hl:es'.length=es.length) (ho:jR sz es') (hc:∀i j c',gI es' i j=some c'->∃c,gI es i j=some c/\∀v,V G w c v->V G w c' v):fY G w (h.set r (some (.aA sz es' gr))):=by
 have hlt:=(WR.1 hr).1;refine {aA:=by rw[W4];exact g.aA,aD:=?_,aE:=?_,inj:=g.inj,aF:=g.aF,aG:=g.aG,aL:=g.aL,aM:=g.aM,aH:=g.aH,aJ:=g.aJ,aC:=?_,aI:=?_,aK:=g.aK}
 ·intro m;rw[g.aD m];by_cases hm:r=m;·subst hm;exact⟨λz=>⟨⟨_,_,_,W0 hlt⟩,z.2⟩,λz=>⟨⟨_,_,_,hr⟩,z.2⟩⟩
  ·rw[WS hm]
 ·intro m b hb;have hm:r≠m:=by rintro rfl;rw[g.aE _ _ hb]at hr;simp at hr
  rw[WS hm];exact g.aE m b hb
 ·intro m u I E b hm hb;by_cases h1:r=m;·subst h1;rw[W0 hlt]at hm;simp only[W8,fC.aA.injEq]at hm;obtain⟨rfl,rfl,rfl⟩:=hm;obtain⟨⟨cells,ty,hh,h1,h2,h3⟩,hs⟩:=g.aC r _ _ _ b hr hb;refine⟨⟨cells,ty,hh,by rw[hl];exact h1,λe=>by rw[hl];exact h2 e,λi j c hj=>?_⟩,ho⟩;obtain⟨c0,e0,f0⟩:=hc i j c hj;obtain⟨v,hv,hV⟩:=h3 i j c0 e0;exact⟨v,hv,f0 v hV⟩
  ·rw[WS h1]at hm;exact g.aC m u I E b hm hb
 ·intro m u I E hm hb;by_cases h1:r=m;·subst h1;rw[W0 hlt]at hm;simp only[W8,fC.aA.injEq]at hm;obtain⟨rfl,rfl,rfl⟩:=hm;have:=g.aI r _ _ _ hr hb;subst this;exact W5 (by simpa using hl)
  ·rw[WS h1]at hm;exact g.aI m u I E hm hb
def qU (h h':fu):Prop:=∀G w,fY G w h->fY G w h'
theorem qU.aA (h:fu):qU h h:=λ_ _ g=>g
theorem fO.aE {e:List AV}{h h':fu}{K:AV->fu->Prop}(hl:qU h h')(hc:fO P f e h' K):fO P f e h K:=λG w vs hg hv=>hc G w vs (hl G w hg) hv
theorem Qz {h:fu}{r sz:Nat}{a b:List AV}{gr:Bool} (hr:h[r]?=some (some (.aA sz [a++.aC :: b] gr))) (ho:jR sz [a++.aM 0 false 3 [] :: b]):qU h (h.set r (some (.aA sz [a++.aM 0 false 3 [] :: b] gr))):=by
 intro G w g;refine g.bJ hr rfl ho λi j c' hc=>?_;cases i with
 | succ i=>simp[gI]at hc
 | zero=>
  simp only[gI,Xx,Yx]at hc ⊢;rw[Yk]at hc ⊢;split at hc;·rename_i hj;exact⟨c',by rw[WW hj];exact hc,λ_ hv=>hv⟩
  ·rename_i hj;rw[WY hj];cases hk:j-a.length with
   | zero=>rw[hk]at hc;simp only[Xx,W8]at hc;subst hc;refine⟨.aC,rfl,λv hv=>?_⟩;cases hv;exact .aG _ _ _
   | succ k=>rw[hk]at hc;exact⟨c',by simpa using hc,λ_ hv=>hv⟩
theorem Vx {e:List AV}{r:AV}{h h':fu}{K:AV->fu->Prop}(hl:qU h h')(hi:fZ P f=true)(hc:fO P f e h' λr' u=>r'=r/\u=h')(hk:K r h'):m9 P f e h K:=
 fK ⟨hi,hc.aE hl⟩ λ_ _ ⟨e1,e2⟩=>by subst e1;subst e2;exact hk
def tZ (P:Program)(f:FuncId):Prop:=fZ P f=true/\∀(F:Nat->Prop)(h:fu)(x:fI)(a:List AV),fH F h x.c a->x.aH (2^40)->
 fO P f [.aF a] h λv h'=>∃o n e,v=.aF [o,n,e]/\fA (f_ x.aA) (λm=>h.length<=m) h' o/\fA (f_ x.aC) (λm=>h.length<=m) h' n/\fA (f_ x.aD) (λm=>h.length<=m) h' e/\fq fB h h'
theorem OL {g:FuncId}(hf:Is P f (wm g))(hg:xz P g):tZ P f:=by
 refine⟨hf.2,λF h x a ha hx=>uM hf.1 (Yq rfl) ?_⟩;show vc P (wm g).aA ⟨[(0,.aF a)],[],h⟩ (iS (wm g).aC _);obtain⟨o,n,e,rfl,ho,hn,he⟩:=pA ha;obtain⟨H,hH⟩:∃H,H=h++[some (fC.aA 3 [[o,n,e]] false)]++[some (fC.aA 3 [[.aC,.aC,.aC]] false)]:=⟨_,rfl⟩;have X1:fq fB h H:=by rw[hH];exact fq.b2 _ _
 have lH:H.length=h.length+2:=by rw[hH];simp
 have C0:H[h.length]?=ar 3 [[o,n,e]]:=by rw[hH];exact kr _ _ _
 have C1:H[h.length+1]?=ar 3 [[.aC,.aC,.aC]]:=by rw[hH];exact jy _ _ _
 simp only[wm,go_sem,ho.aA,hn.aA,he.aA];rw[<-hH];clear hH;refine fK ⟨hg.1,hg.2 F H x.aA o (ho.up X1) hx.1⟩ ?_;rintro o1 H2 ⟨oo,-,X2⟩;have D0:=X2.aA C0;have D1:=X2.aA C1;rw[iY];simp only[go_sem,D0];refine fK ⟨hg.1,hg.2 F H2 x.aC n ((hn.up X1).up X2) hx.2.1⟩ ?_;rintro n1 H3 ⟨on,-,X3⟩;have E0:=X3.aA D0;have E1:=X3.aA D1;rw[iY];simp only[go_sem,E0];refine fK ⟨hg.1,hg.2 F H3 x.aD e (((he.up X1).up X2).up X3) hx.2.2⟩ ?_;rintro e1 H4 ⟨oe,-,X4⟩;have F0:=X4.aA E0;have F1:=X4.aA E1;have l4:=(WR.1 F1).1;have x2:=X2.1;have x3:=X3.1;have x4:=X4.1;rw[iY];simp only[go_sem,F0,F1,oo.aA,on.aA,oe.aA,gV oo.aA,gV on.aA,gV oe.aA,l4];have kk:∀v (F:Nat->Prop),(∀m,F m->H.length<=m)->ik F H4 (H4.set (h.length+1) v):=λv F hF m hm y hy=>(WS (by have:=hF m hm;omega)).trans hy;refine⟨o1,n1,e1,rfl,?_,?_,?_,?_⟩;·exact fA.aC _ (λm hm=>ω) (kk _ _ (λm hm=>hm)) _ (fA.aC _ (λ_ y=>y) ((X3.tr X4).aE _) _ oo)
 ·exact fA.aC _ (λm hm=>ω) (kk _ _ (λm hm=>ω)) _ (fA.aC _ (λ_ y=>y) (X4.aE _) _ on)
 ·exact fA.aC _ (λm hm=>ω) (kk _ _ (λm hm=>ω)) _ oe
 ·exact (((X1.tr X2).tr X3).tr X4).aI ω _
def KM (P:Program)(f:FuncId):Prop:=fZ P f=true/\∀(F:Nat->Prop)(h:fu)(x:fI)(a:List AV),fH F h x.c a->x.aH (2^40)->fO P f [.aF a] h λv h'=>v=.aF x.v/\h'=h
theorem tZ.p (hc:tZ P f):KM P f:=⟨hc.1,λF h x a ha hx=>(hc.2 F h x a ha hx).aC λ_ _ ⟨o,n,e,h1,h2,h3,h4,h5⟩=>⟨h5,_,h1▸iu.aA (ds:=x.c) (fU.fz _ (λ_ x=>x) _ (by simp only[fI.c,fU];exact⟨o,_,rfl,h2,n,_,rfl,h3,e,_,rfl,h4,rfl⟩)),rfl⟩⟩
def Kq (P:Program)(f:FuncId):Prop:=fZ P f=true/\∀(F:Nat->Prop)(h:fu)(l:List Int)(a:AV),Rd F h (gG l) a->l.length<=2^40->fO P f [a] h λr h'=>r=jx l/\h'=h
theorem r_.q (hc:r_ P f):Kq P f:=⟨hc.1,λF h l a ha hl=>(hc.2 F h l a ha hl).aC λ_ _ ⟨h1,h2⟩=>⟨h2,_,iu.d (fA.fz _ (λ_ x=>x) _ h1),rfl⟩⟩
def Fp (P:Program)(f:FuncId):Prop:=fZ P f=true/\∀(F:Nat->Prop)(h:fu)(l:fG)(a:List AV)(i:Int),fH F h l.c a->kh l->
 fO P f [.aF a,.aD .i64 i] h λr h'=>r=.aI [.aF (l.aK i).v,.aD .i64 (if l.aF i then 0 else 3)]/\h'=h
theorem vJ.cp (hc:vJ P f):Fp P f:=⟨hc.1,λF h l a i ha hl=>(hc.2 F h l a i ha hl).aC λ_ _ ⟨_,h1,h2,h3⟩=>⟨h3,_,h1▸iu.aD (iu.aA (fU.fz _ (λ_ x=>x) _ h2)) (iu.aC _ _),rfl⟩⟩
def AD (P:Program)(f:FuncId):Prop:=fZ P f=true/\∀(G:Nat->Prop)(L:Nat->Nat)(h:fu)(r o:Nat)(x:RX)(j:Nat)(base term:Int)(c:fI)(a:List AV)(snap:List Int)(s:AV),iv L h r o x->kh x.r.aA.aA->x.aC j->j<2^20->fH G h c.c a->Rd G h (gG snap) s->(∀n,G n->L n=0)->c.aH (2^40)->snap.length<=2^40->
 fO P f [.aF [.aA r 21 0 0,.aA o 5 0 0],.aD .i64 base,.aD .i64 term,.aF a,s] h λ_ h'=>fJ wA fB L h r o (x.aW base term c snap) h'
theorem SO (hf:Is P f (np f1 f2 f3 f4 f5))(u1:pO P f1)(u2:Fp P f2)(u3:tZ P f3)(u4:r_ P f4)(u5:uk P f5):AD P f:=by
 refine⟨hf.2,λG L h r o x j base term c a snap s hx O hj hj2 hc hs hG a5 a4=>uM hf.1 (Yq rfl) ?_⟩;show vc P (np f1 f2 f3 f4 f5).aA ⟨[(0,.aF [.aA r 21 0 0,.aA o 5 0 0]),(1,ι base),(2,ι term),(3,.aF a),(4,s)],[],h⟩ (iS (np f1 f2 f3 f4 f5).aC _);obtain⟨co,cn,ce,rfl,ho,hn,he⟩:=pA hc;have ap:=hx.aC;obtain⟨R,out⟩:=x;simp only at O;obtain⟨H,hH⟩:∃H,H=h++[some (fC.aA 2 [[.aA r 21 0 0,.aA o 5 0 0]] false)]++[some (fC.aA 3 [[co,cn,ce]] false)]:=⟨_,rfl⟩;have X1:fq fB h H:=by rw[hH];exact fq.b2 _ _
 have lH:H.length=h.length+2:=by rw[hH];simp
 have C0:H[h.length]?=ar 2 [[.aA r 21 0 0,.aA o 5 0 0]]:=by rw[hH];exact kr _ _ _
 have C1:H[h.length+1]?=ar 3 [[co,cn,ce]]:=by rw[hH];exact jy _ _ _
 have U:=hx.up X1;have z2:∀m,h.length<=m->¬wA (L m):=λm e=>by rw[hx.ge e];exact kl
 have a3:∀{y H'},fJ wA fB L H r o y H'->fH (λn=>G n/\n<h.length) H' c.c [co,cn,ce]:=λT=>fH.aA (λ_ y=>y) (λn hn y hy=>T.aA (by rw[hG n hn.1];exact kl) (λz=>z) (X1.aA hy)) _ _ (fH.lt _ _ hc);have a2:∀{y H'},fJ wA fB L H r o y H'->Rd (λn=>G n/\n<h.length) H' (gG snap) s:=λT=>Rd.aE (λ_ y=>y) (λn hn y hy=>T.aA (by rw[hG n hn.1];exact kl) (λz=>z) (X1.aA hy)) _ _ (Rd.lt _ _ hs);have u:∀(Le:gx)(H0 H':fu),qU H0 H'->H0[h.length]?=ar 2 [[.aA r 21 0 0,.aA o 5 0 0]]->H0[h.length+1]?=ar 3 [[co,cn,ce]]->lk 1 Le=ι base->lk 2 Le=ι term->lk 4 Le=s->lk 5 Le=.aA h.length 2 0 0->lk 8 Le=.aA (h.length+1) 3 0 0->fJ wA fB L H r o ⟨{R with aA:={R.aA with aA:=R.aX base term}},out⟩ H'->
   vc P (np f1 f2 f3 f4 f5).aA.tl.tl ⟨Le,[],H0⟩ (iS (np f1 f2 f3 f4 f5).aC λ_ h'=>fJ wA fB L h r o (RX.aW ⟨R,out⟩ base term c snap) h'):=by
  intro Le H0 H' Z B0 B1 k1 k2 k4 k5 k8 T;have D0:=T.aA (z2 _ (WX _)) (λy=>y) C0;have D1:=T.aA (z2 _ ω) (λy=>y) C1;obtain⟨g,ff,rr⟩:=T.aF;have E:=rr;simp only[fy.aL]at E;have lr:=(WR.1 rr).1;have q0:(r=h.length)=False:=Xp ω;have q1:(r=h.length+1)=False:=Xp ω;have q2:(h.length=r)=False:=Xp ω;have q3:(h.length+1=r)=False:=Xp ω;simp only[np,AC.aC,go_sem,k4,k5,k8,B0,B1];refine Vx Z u3.1 (u3.p.2 _ H' c _ (a3 T) a5) ?_;rw[iY];simp only[go_sem,D0,D1];refine gH u4.1 (u4.q.2 _ H' snap _ (a2 T) a4) ?_;rw[iY];simp only[go_sem,k1,k2,k4,k5,k8,D0,D1,E,fI.aN,q0,q1,lr,Yi,W4];have T1:=fJ.aH (R':={R with aA:={R.aA with aA:=R.aX base term,aD:=c,aG:=snap}}) T rr rfl rfl (λ_ z=>z);simp only[fy.aL]at T1;have M0:=T1.aA (z2 _ (WX _)) (λy=>y) C0;have M1:=T1.aA (z2 _ ω) (λy=>y) C1;have a8:H.length<=(H'.set r (some (.aA 21 [R.aL g ff] false))).length:=by obtain⟨_,_,_,e⟩:=T;rw[W4];exact e.1
  rw[W4]at a8;have a7:∀v,(H'.set r v).length=H'.length:=λv=>W4;generalize hH2:List.set H' r _=H2 at *;have hl3:H2.length=H'.length:=by rw[<-hH2];exact a7 _
  refine fK ⟨u3.1,u3.2 _ H2 c _ (a3 T1) a5⟩ ?_;rintro _ H3 ⟨o1,n1,e1,rfl,o2,n2,e2,X3⟩;have N0:=X3.aA M0;have N1:=X3.aA M1;rw[iY];simp only[go_sem,N0,N1];refine fK ⟨u4.1,u4.2 _ H3 snap _ (Rd.aE (λ_ y=>y) (X3.aE _) _ _ (a2 T1)) a4⟩ ?_;rintro s1 H4 ⟨os,X4⟩;have P0:=X4.aA N0;have P1:=X4.aA N1;rw[iY];have x3:=X3.1;simp only[go_sem,P0,P1,gV os.aA];have tl:=fJ.aD (Q':=λn=>H2.length<=n) T1 (X3.tr X4) (λn hn (z:H2.length<=n)=>ω) λL1 x1=>(u5.2 (λn=>H2.length<=n) L1 H4 r o _ {gE.aI with aC:=3,aA:=⟨base,term,[]⟩,aG:=c,aJ:=snap} .aC o1 n1 e1 s1 (x1.up (X3.tr X4)) (fA.aD 3) (fA.aC _ (λ_ y=>y) (X4.aE _) _ o2) (fA.aC _ (λ_ y=>y) (X4.aE _) _ n2) (fA.aC _ (λ_ y=>y) (X4.aE _) _ e2) (fA.aC _ (λm hm=>ω) (λ_ _ _ y=>y) _ os) (λn hn=>x1.ge hn) (tg (show out.aC.length<=j from hj.2) ω 216 ω)).aA λ_ _ b=>b.aG nZ;refine fK ⟨u5.1,tl⟩ ?_;intro _ H5 T5;rw[iY];simp only[go_sem];exact fJ.aC X1 T5
 have e0:(np f1 f2 f3 f4 f5).aA=.aA (np f1 f2 f3 f4 f5).aA.hd (.aA (np f1 f2 f3 f4 f5).aA.tl.hd (np f1 f2 f3 f4 f5).aA.tl.tl):=rfl;rw[e0];generalize (np f1 f2 f3 f4 f5).aA.tl.tl=D at u ⊢;have snd:=u;simp only[np,fV]at snd;clear u;obtain⟨g,ff,rr⟩:=U.aA;have E:=rr;simp only[fy.aL]at E;have lr:=(WR.1 rr).1;simp only[np,AC.aE,AC.aC,go_sem,ho.aA,hn.aA,he.aA];rw[<-hH];clear hH;simp only[go_sem,E];refine gH u1.1 (u1.2 fB H R.aA.aA _ base (m8 R.aA.aA H) O) ?_;have q0:(r=h.length)=False:=Xp ω;have q1:(r=h.length+1)=False:=Xp ω;have q2:(h.length=r)=False:=Xp ω;have q3:(h.length+1=r)=False:=Xp ω;simp only[go_sem];have I:R.aX base term=⟨base,term,[]⟩->qU (H.set r (some (.aA 21 [[ι R.id,ι R.aA.aE,ι R.aA.aC,ι R.aA.aF,ι base,ι term,.aC,gO R.aA.aD.aA,gO R.aA.aD.aC,gO R.aA.aD.aD,jx R.aA.aG,
   ι R.aD,ι R.aI,ι R.aE,ι R.aR,ι R.aF,ι R.aT,g,ff,ι R.bG,ι R.aM]] false)))
   (H.set r (some (.aA 21 [({R with aA:={R.aA with aA:=R.aX base term}}:fy).aL g ff] false))):=by
  intro es;have a6:jR 21 [({R with aA:={R.aA with aA:=⟨base,term,[]⟩}}:fy).aL g ff]:=by obtain⟨g2,f2,a1⟩:=U.r;have:=a1.aA.symm.trans rr;simp only[W8,fC.aA.injEq,Yv,fy.aL]at this;obtain⟨-,⟨⟨-,-,-,-,-,-,-,-,-,-,-,-,-,-,-,-,-,rfl,rfl,-⟩,-⟩,-⟩:=this;intro y hy;simp only[XN]at hy;subst hy;refine⟨rfl,?_⟩;simp only[fy.aL,List.all_cons,List.all_nil,a1.go.aA,a1.fo.aA,tM,tN,xf,Bool.and_true,ZI];rfl
  have hl:=Qz (h:=H.set r (some (.aA 21 [[ι R.id,ι R.aA.aE,ι R.aA.aC,ι R.aA.aF,ι base,ι term,.aC,gO R.aA.aD.aA,gO R.aA.aD.aC,gO R.aA.aD.aD,jx R.aA.aG,
   ι R.aD,ι R.aI,ι R.aE,ι R.aR,ι R.aF,ι R.aT,g,ff,ι R.bG,ι R.aM]] false))) (r:=r) (sz:=21) (gr:=false)
   (a:=[ι R.id,ι R.aA.aE,ι R.aA.aC,ι R.aA.aF,ι base,ι term]) (b:=[gO R.aA.aD.aA,gO R.aA.aD.aC,gO R.aA.aD.aD,jx R.aA.aG,
   ι R.aD,ι R.aI,ι R.aE,ι R.aR,ι R.aF,ι R.aT,g,ff,ι R.bG,ι R.aM]) (W0 lr) a6
  rw[Yi]at hl;rw[es];exact hl
 cases c2:R.aA.aA.aF base
 ·have es:R.aX base term=⟨base,term,[]⟩:=by unfold fy.aX;rw[WY (by rintro⟨z,-⟩;rw[c2]at z;cases z)]
  have T1:=fJ.aH (R':={R with aA:={R.aA with aA:=R.aX base term}}) (U.to (W:=wA) (Q:=fB)) rr rfl rfl (λ_ z=>z);simp only[go_sem,E,C0];refine snd _ _ _ (I es) ?_ ?_ ?_ ?_ ?_ ?_ ?_ T1<;>simp[fE,iw,q0,q1,C0,C1]
 ·by_cases c3:R.aA.aA.aJ base=term
  ·have es:R.aX base term=R.aA.aA.aK base:=by unfold fy.aX;rw[WW ⟨c2,c3⟩]
   have T1:=fJ.aH (R':={R with aA:={R.aA with aA:=R.aX base term}}) (U.to (W:=wA) (Q:=fB)) rr rfl rfl (λ_ z=>z);simp only[go_sem,E,C0,WZ c3];have cp:=u2.2 fB H R.aA.aA _ base (m8 R.aA.aA H) O;rw[<-es]at cp;simp only[fG.aN]at cp;refine gH u2.1 cp ?_;rw[iY];simp only[go_sem,E,C0,c2,q0,lr];refine snd _ _ _ (qU.aA _) ?_ ?_ ?_ ?_ ?_ ?_ ?_ T1<;>simp[fE,iw,q0,q1,C0,C1]
  ·have es:R.aX base term=⟨base,term,[]⟩:=by unfold fy.aX;rw[WY (λz=>c3 z.2)]
   have T1:=fJ.aH (R':={R with aA:={R.aA with aA:=R.aX base term}}) (U.to (W:=wA) (Q:=fB)) rr rfl rfl (λ_ z=>z);simp only[go_sem,E,C0,WV c3];refine snd _ _ _ (I es) ?_ ?_ ?_ ?_ ?_ ?_ ?_ T1<;>simp[fE,iw,q0,q1,C0,C1]
variable {P:Program}{f f1 f2 f3 f4 f5 f6:FuncId}
theorem Jh (st:fR):(∀b∈(ie st).1,b∈st.aC)/\(ie st).1.length<=st.aC.length/\(∀b∈(ie st).2.aC,b∈st.aC)/\(ie st).2.aC.length<=st.aC.length:=by
 cases st with
 | none=>exact⟨by simp[ie,gq],by simp[ie,gq],by simp[ie,gq,fR.aC],by simp[ie,gq,fR.aC]⟩
 | some l=>
  unfold ie gq;by_cases c:l.length<8;·simp[c,fR.aC]
  ·simp only[c,XS];by_cases c2:kT (l.take 8)<0\/((l.drop 8).length:Int)<kT (l.take 8);·rw[WW c2];simp[fR.aC]
   ·rw[WY c2];refine⟨λb hb=>Xw (XQ hb),?_,λb hb=>Xw (Xw hb),?_⟩;·show ((l.drop 8).take _).length<=l.length;simp only[W7,Xk];omega
    ·show ((l.drop 8).drop _).length<=l.length;simp only[Xk];omega
theorem vL.q (hc:vL P f):Am P f:=⟨hc.1,λG h l b hb h1 h2=>(hc.2 G h l b hb h1 h2).aC λ_ _ ⟨_,e,h3,h4⟩=>⟨h4,_,e▸iu.aD (iu.aA (fU.fz _ (λ_ x=>x) _ h3)) (iu.aC _ _),rfl⟩⟩
theorem Vt {l:List Int}(hb:gT l)(hl:l.length<=2^16):(gT (jb l).1/\(jb l).1.length<=2^16)/\gT (jb l).2.1/\(jb l).2.1.length<=2^16:=by obtain⟨a1,a2,a3,a4⟩:=Jh (some l);obtain⟨b1,b2,b3,b4⟩:=Jh (ie (some l)).2;have e:fR.aC (some l)=l:=rfl;rw[e]at a1 a2 a3 a4;exact⟨⟨λx hx=>hb x (a1 x hx),by show (ie (some l)).1.length<=_;omega⟩,λx hx=>hb x (a3 x (b1 x hx)),by show (ie (ie (some l)).2).1.length<=_;omega⟩
def AG (P:Program)(f:FuncId):Prop:=fZ P f=true/\∀(L:Nat->Nat)(h:fu)(r o:Nat)(x:RX)(k j:Nat)(m:fF)(a:List AV),iv L h r o x->x.r.aG k->k<=2^28->x.aC j->j+1<2^20->mw L h m a->m.aL->0<=m.aA/\m.aA<=2^40->
 fO P f [.aF [.aA r 21 0 0,.aA o 5 0 0],.aF a] h λ_ h'=>fJ wA fB L h r o (x.aR m) h'
theorem Uc (hf:Is P f (CP f1 f2 f3 f4 f5 f6))(u1:xR P f1)(u2:ui P f2)(u3:tT P f3)(u4:Am P f4)(u5:Is P f5 rG)(u6:AD P f6):AG P f:=by
 refine⟨hf.2,λL h r o x k j m a hx u hk hj af hm ae hmi=>gy hf ?_⟩;obtain⟨G,hr,h0⟩:=id hm;obtain⟨e,d,rfl,he,hd⟩:=qK hr;obtain⟨ap1,ap2,a3⟩:=hx.aC;obtain⟨R,out⟩:=x;simp only at u;obtain⟨H,hH⟩:∃H,H=h++[some (fC.aA 2 [[.aA r 21 0 0,.aA o 5 0 0]] false)]++[some (fC.aA 17 [m.aF e d] false)]:=⟨_,rfl⟩;have X1:fq fB h H:=by rw[hH];exact fq.b2 _ _
 have lH:H.length=h.length+2:=by rw[hH];simp
 have C0:H[h.length]?=ar 2 [[.aA r 21 0 0,.aA o 5 0 0]]:=by rw[hH];exact kr _ _ _
 have C1:H[h.length+1]?=ar 17 [m.aF e d]:=by rw[hH];exact jy _ _ _
 have Z:=hx.up X1;have z2:∀m,h.length<=m->¬wA (L m):=λm e=>by rw[hx.ge e];exact kl
 have a1:fH (λn=>G n/\n<h.length) H m.c (m.aF e d):=fH.aA (λ_ y=>y) (X1.aE _) _ _ (fH.lt _ _ hr);obtain⟨g,ff,rr⟩:=Z.aA;have I:=rr;have E:=C1;simp only[fy.aL]at I;simp only[fF.aF]at E hH;have lr:=(WR.1 rr).1;have q0:(r=h.length)=False:=Xp ω;have q1:(r=h.length+1)=False:=Xp ω;have q2:(h.length=r)=False:=Xp ω;have q3:(h.length+1=r)=False:=Xp ω;simp only[CP,go_sem,fF.aF,he.aA,hd.aA];rw[<-hH];clear hH;have a4:∀{B:fu}{L':Nat->Nat}{y H'} (_:fH (λn=>G n/\n<h.length) B m.c (m.aF e d)) (_:∀n,G n->L' n=0) (j:Nat) (ok:Bool) (ix:Int),fJ wA fB L' B r o y H'->y.aC j->j<2^20->fO P f1 [.aF [.aA r 21 0 0,.aA o 5 0 0],.aF (m.aF e d),.aE ok,ι ix] H' λ_ ah=>fJ wA fB L' B r o (y.aQ m ok ix) ah:=fun {B L' y H'} hb hl j ok ix T yf hj=>fJ.aD (Q':=fB) T (fq.aC _ _) (λ_ _ y=>y) λL1 x1=>(u1.2 L1 H' r o y j m _ (λn=>G n/\n<h.length) ok ix x1 yf hj (fH.aA (λ_ y=>y) (λn hn y hy=>T.aA (by rw[hl n hn.1];exact kl) (λz=>z) hy) _ _ hb)).aA λ_ _ b=>b.aG nZ;simp only[fF.aF]at a4 a1;simp only[go_sem,I];by_cases c1:m.aA<=R.aD
 ·have ea:(RX.aR ⟨R,out⟩ m)=RX.aQ ⟨R,out⟩ m true R.aD:=by unfold RX.aR;rw[WW c1]
  rw[ea];simp only[go_sem,I,C0,E,WZ c1];refine fK ⟨u1.1,a4 a1 h0 j true R.aD Z.to hj ω⟩ ?_;intro _ H2 T2;rw[iY];simp only[go_sem];exact fJ.aC X1 T2
 ·simp only[go_sem,E,WV c1];have ag:Rd (λn=>G n/\n<h.length) H (gG m.aG) d:=Rd.aE (λ_ y=>y) (X1.aE _) _ _ (Rd.lt _ _ hd);have a2:=ae.aA;refine fK ⟨u2.1,u2.2 _ H m.aG d ag a2.1 ω⟩ ?_;rintro _ H2 ⟨q,rfl,hq,S2,X2⟩;have lq:=S2.lt;simp only[go_sem];refine fK ⟨u3.1,u3.2 _ H2 q _ S2 ω⟩ ?_;rintro b1 H3 ⟨o1,S3,X3⟩;simp only[go_sem];refine fK ⟨u3.1,u3.2 _ H3 q _ S3 ω⟩ ?_;rintro b2 H4 ⟨o2,S4,X4⟩;have l2:=X2.1;have l3:=X3.1;have l4:=X4.1;have ai:fq (iO q) H2 H4:=X3.aD X4 (λ_ _ z=>z) (λ_ _ z=>z);have XH:fq fB H H4:=⟨ω,λm hm _=>(ai.2 m ω (by show m≠q;omega)).trans (X2.2 m hm (λz=>z))⟩;have a8:fA (gG (ie (some m.aG)).1) (λm=>H.length<=m/\m<q) H4 b1:=fA.aC _ (λ_ y=>y) (λn hn y hy=>(X4.2 n (WR.1 hy).1 (by show n≠q;omega)).trans hy) _ o1;obtain⟨U,a5⟩:=Vt a2.1 a2.2;have et:jb m.aG=((ie (some m.aG)).1,(ie (ie (some m.aG)).2).1,(ie (ie (some m.aG)).2).2.aD):=rfl;rw[et]at U a5;simp only at U a5;have D0:=XH.aA C0;have D1:=XH.aA E;have r4:=XH.aA I;simp only[go_sem];refine gH u4.1 (u4.2 (λ_=>True) H4 _ b1 (fA.rd _ (λ_ _=>Xb) _ a8) U.1 ω) ?_;obtain⟨cf,O⟩:∃cf,cf=iG (ie (some m.aG)).1:=⟨_,rfl⟩;rw[<-O];simp only[go_sem,fI.aN,tN];have S5:=S4.up (fq.b1 (some (fC.aA 3 [[gO cf.1.aA,gO cf.1.aC,gO cf.1.aD]] false)));have X5:=XH.tr (fq.b1 (some (fC.aA 3 [[gO cf.1.aA,gO cf.1.aC,gO cf.1.aD]] false)));have C5:=h_ H4 (some (fC.aA 3 [[gO cf.1.aA,gO cf.1.aC,gO cf.1.aD]] false));have W:=Z.up X5;have E0:=X5.aA C0;have E1:=X5.aA E;have a7:Rd (λn=>H.length<=n) (H4++[some (fC.aA 3 [[gO cf.1.aA,gO cf.1.aC,gO cf.1.aD]] false)]) (gG (ie (ie (some m.aG)).2).1) b2:=Rd.aE (λ_ y=>y) ((fq.b1 _).aE _) _ _ (fA.rd _ (λn hn=>hn.1) _ o2);have ac:=fH.aA (λ_ y=>y) (X5.aE _) _ _ a1;have er:(RX.aR ⟨R,out⟩ m)=(if ¬(ie (ie (some m.aG)).2).2.aD=0\/¬cf.2=0 then ⟨R,out⟩ else
    let y:=RX.aW ⟨R,out⟩ m.aA m.aH cf.1 (ie (ie (some m.aG)).2).1
    (⟨{y.r with aD:=m.aA,aI:=m.aA},{y.o with aD:=true}⟩:RX).aQ m true m.aA):=by
   unfold RX.aR;rw[WY c1];simp only[et,<-O]
  have l5:H4.length<(H4++[some (fC.aA 3 [[gO cf.1.aA,gO cf.1.aC,gO cf.1.aD]] false)]).length:=by simp
  generalize hH5:H4++_=H5 at *;refine gH u5.2 (Ja u5 S5) ?_;generalize (ie (ie (some m.aG)).2).2.aD=en at *;generalize (ie (ie (some m.aG)).2).1=sn at *;by_cases c2:en=0
  ·by_cases c3:cf.2=0
   ·rw[WY (by rintro (z | z);exact z c2;exact z c3)]at er;simp only[go_sem,E0,E1,C5,WZ c2,WZ c3,XL];have bs:=u6.2 (λn=>H.length<=n) L H5 r o ⟨R,out⟩ j m.aA m.aH cf.1 _ sn b2 W (u.aC hk) hj ω (fH.aA (F:=fB) (λ_ z=>z.elim) (λ_ hm=>hm.elim) _ _ (w_ cf.1 H5)) a7 (λn hn=>hx.ge ω) (by have:=nE (wC (l:=(ie (some m.aG)).1) (by rw[<-O];exact c3));rw[<-O]at this;exact this.le δ) ω;refine fK ⟨u6.1,bs⟩ ?_;intro _ H6 T6;obtain⟨g6,f6,r6⟩:=T6.aF;obtain⟨ma,ca,aa,o6,sma,sca,saa⟩:=T6.aM;have M0:=T6.aA (z2 _ (WX _)) (λy=>y) E0;have M1:=T6.aA (z2 _ ω) (λy=>y) E1;have a9:=(WR.1 r6).1;have ab:=(WR.1 o6).1;have w0:(o=h.length)=False:=Xp ω;have w1:(o=h.length+1)=False:=Xp ω;have w2:(h.length=o)=False:=Xp ω;have w3:(h.length+1=o)=False:=Xp ω;have w4:(r=o)=False:=Xp a3;have w5:(o=r)=False:=Xp (λz=>a3 z.symm);obtain⟨y,hy⟩:∃y,y=RX.aW ⟨R,out⟩ m.aA m.aH cf.1 sn:=⟨_,rfl⟩;have yf:y.aC (j+1):=by rw[hy];exact RX.aC.aD (x:=({r:={R with aA:={R.aA with aA:=R.aX m.aA m.aH,aD:=cf.1,aG:=sn}},o:=out}:RX)) hj _
    rw[<-hy]at T6 r6 o6 er;have T7:=fJ.aH (R:=y.r) (out:=y.o) (R':={y.r with aD:=m.aA,aI:=m.aA}) T6 r6 rfl rfl (λ_ z=>z);have o7:(H6.set r (some (.aA 21 [({y.r with aD:=m.aA,aI:=m.aA}:fy).aL g6 f6] false)))[o]?=ar 5 [[ma,ca,aa,ι y.o.aE,.aE y.o.aD]]:=(WS (λz=>a3 z)).trans o6;have T8:=fJ.aN (n:=y.o.aE) (b:=true) T7 o7 (λ_ z=>z);have a6:=r6;simp only[fy.aL]at a6 T8;simp only[go_sem,M0,M1,a6,o6,a9,ab,q0,q1,w0,w1,w4,Yi,W4];have eo:({y.o with aE:=y.o.aE,aD:=true}:na)={y.o with aD:=true}:=rfl;have an:=a4 ac h0 (j+1) true m.aA T8 yf af;refine fK ⟨u1.1,an⟩ ?_;intro _ H8 T9;rw[er];simp only[go_sem];exact fJ.aC X1 (fJ.aC X5 T9)
   ·rw[WW (.inr c3)]at er;rw[er];simp only[go_sem,WZ c2,WV c3,XL,X_];exact fJ.aC X1 (fJ.aC X5 W.to)
  ·rw[WW (.inl c2)]at er;rw[er];simp only[go_sem,WV c2,X_];exact fJ.aC X1 (fJ.aC X5 W.to)
variable {P:Program}{f f1 f2 f3 f4 f5 f6:FuncId}
theorem J5 {l:List Int}(hb:gT l)(hl:l.length<=2^16):(gT (jb l).1/\(jb l).1.length<=2^16)/\gT (jb l).2.1/\(jb l).2.1.length<=2^16:=by
 have key:∀st:fR,(∀b∈(ie st).1,b∈st.aC)/\(ie st).1.length<=st.aC.length/\(∀b∈(ie st).2.aC,b∈st.aC)/\(ie st).2.aC.length<=st.aC.length:=by
  intro st;cases st with
  | none=>exact⟨by simp[ie,gq],by simp[ie,gq],by simp[ie,gq,fR.aC],by simp[ie,gq,fR.aC]⟩
  | some l=>
   unfold ie gq;by_cases c:l.length<8;·simp[c,fR.aC]
   ·simp only[c,XS];by_cases c2:kT (l.take 8)<0\/((l.drop 8).length:Int)<kT (l.take 8);·rw[WW c2];simp[fR.aC]
    ·rw[WY c2];refine⟨λb hb=>Xw (XQ hb),?_,λb hb=>Xw (Xw hb),?_⟩;·show ((l.drop 8).take _).length<=l.length;simp only[W7,Xk];omega
     ·show ((l.drop 8).drop _).length<=l.length;simp only[Xk];omega
 obtain⟨a1,a2,a3,a4⟩:=key (some l);obtain⟨b1,b2,b3,b4⟩:=key (ie (some l)).2;have e:fR.aC (some l)=l:=rfl;rw[e]at a1 a2 a3 a4;exact⟨⟨λx hx=>hb x (a1 x hx),by show (ie (some l)).1.length<=_;omega⟩,λx hx=>hb x (a3 x (b1 x hx)),by show (ie (ie (some l)).2).1.length<=_;omega⟩
section
variable {k j:Nat} {x:RX} {m:fF}
theorem fy.aG.aN {x:fy}(h:x.aG k):({x with aF:=0}:fy).aG k:=by obtain⟨g1,g2,g3,g4,g5,g6,g7,g8,g9,g10,O,I,E,u,e⟩:=h;exact⟨g1,g2,g3,g4,g5,g6,g7,g8,g9,⟨W9 _,by show (0:Int)<=k;omega⟩,O,I,E,u,e⟩
theorem fy.aG.bK {x:fy}(h:x.aG k){v:Int}(hv:iA v):({x with aA:={x.aA with aF:=v}}:fy).aG k:=by obtain⟨g1,g2,g3,g4,g5,g6,g7,g8,g9,U,O,I,E,u,e⟩:=h;exact⟨g1,g2,g3,g4,g5,g6,g7,⟨g8.1,hv,g8.2.2⟩,g9,U,O,I,E,u,e⟩
theorem LX (h:x.r.aG k)(hj:x.aC j)(hm:m.aL):(x.aS m).r.aG k/\(x.aS m).aC (j+2):=by
 have e:x.aS m=(if ku x.r.aA.aC x.r.aA.aF x.r.aA.aA m then (let z:RX:={x with r:={x.r with aF:=0}};if z.r.aA.aF=m.aE then z else z.aJ z.r.aA.aC m.aE) else x).aI {fF.aJ with aC:=2,to:=m.aE,ok:=ku x.r.aA.aC x.r.aA.aF x.r.aA.aA m}:=rfl;rw[e];split
 ·simp only;split;·exact⟨h.aN,(RX.aC.aC (x:={x with r:={x.r with aF:=0}}) hj _).aA ω⟩
  ·exact⟨h.aN.bK hm.aC.1,(RX.aC.aD (x:={x with r:={x.r with aF:=0,aA:={x.r.aA with aC:=x.r.aA.aC,aF:=m.aE}}}) hj _).aC _⟩
 ·exact⟨h,(hj.aC _).aA ω⟩
theorem Wp (h:x.r.aG k)(hk:k<2^28)(hj:x.aC j):(x.aU m).r.aG (k+2)/\(x.aU m).aC (j+22):=by
 unfold RX.aU;split;·exact⟨h.aA ω,hj.aA ω⟩
 ·have f:({x.r with aJ:=x.r.aJ++[m.aE]}:fy).aG (k+1):=by obtain⟨g1,g2,g3,g4,g5,g6,g7,g8,g9,O,I,E,g13,u,e⟩:=h.aA (Zc k);have:=h.aZ;exact⟨g1,g2,g3,g4,g5,g6,g7,g8,g9,O,I,E,by show (x.r.aJ++[m.aE]).length<=k+1+1;simp;omega,u,e⟩
  simp only;split;·exact⟨fy.aG.bB (x:={x with r:={x.r with aJ:=x.r.aJ++[m.aE]}}) f ω,RX.aC.aG (x:={x with r:={x.r with aJ:=x.r.aJ++[m.aE]}}) f ω hj⟩
  ·exact⟨f.aA ω,RX.aC.aA (x:={x with r:={x.r with aJ:=x.r.aJ++[m.aE]}}) hj ω⟩
theorem fS.aG.aD {w:fS}(h:w.aG)(m:fF)(hi:0<=m.aA/\m.aA<=2^40):(w.aE m).aG:=by
 obtain⟨h1,⟨h2,h3⟩,h4,h5⟩:=h;unfold fS.aE;split
 ·split;·exact⟨h1,⟨by show 0<=max w.aD (max w.aC m.aA+1);omega,by show max w.aD (max w.aC m.aA+1)<=_;omega⟩,by show 0<=max w.aC m.aA;omega,by show max w.aC m.aA<=_;omega⟩
  ·exact⟨h1,⟨by show 0<=max (w.aC+1) (min (w.aD-1) (m.aA+1));omega,by show max (w.aC+1) (min (w.aD-1) (m.aA+1))<=_;omega⟩,h4,h5⟩
 ·exact⟨h1,⟨h2,h3⟩,h4,h5⟩
theorem fy.aG.bI {x:fy}(h:x.aG k)(i:Nat){w:fS}(hw:w.aG):({x with aC:=x.aC.set i w}:fy).aG k:=by
 obtain⟨g1,g2,g3,g4,g5,g6,g7,g8,g9,U,O,I,E,e,u⟩:=h;refine⟨g1,g2,g3,g4,g5,g6,g7,g8,g9,U,O,I,E,⟨by show (x.aC.set i w).length<=21;rw[W4];exact e.1,λy hy=>?_⟩,u⟩;rcases Y3 hy with z | z;·exact e.2 y z
 ·rw[z];exact hw
theorem Pe (h:x.r.aG k)(hj:x.aC j)(hi:0<=m.aA/\m.aA<=2^40):(x.aP m).r.aG k/\(x.aP m).aC (j+1):=by
 unfold RX.aP;split;·exact⟨h,hj.aA ω⟩
 ·split;·exact⟨h,hj.aA ω⟩
  ·rename_i i E;have u:i<x.r.aC.length:=by unfold rO at E;exact (List.findIdx?_eq_some_iff_getElem.1 E).1
   have ww:=(h.aE.2 _ (Xq u)).aD m hi;have e:(x.r.aC[i]?).getD ⟨0,0,0,0⟩=x.r.aC[i]:=by rw[WU u];rfl
   rw[e];have f:=h.bI i ww;simp only;split<;>split<;>first
    | exact⟨f.aR,(RX.aC.aC (x:=RX.aM {x with r:={x.r with aC:=x.r.aC.set i (x.r.aC[i].aE m)}}) hj _)⟩
    | exact⟨f,(RX.aC.aC (x:={x with r:={x.r with aC:=x.r.aC.set i (x.r.aC[i].aE m)}}) hj _)⟩
    | exact⟨f.aR,RX.aC.aA (x:=RX.aM {x with r:={x.r with aC:=x.r.aC.set i (x.r.aC[i].aE m)}}) hj (Zc j)⟩
    | exact⟨f,RX.aC.aA (x:={x with r:={x.r with aC:=x.r.aC.set i (x.r.aC[i].aE m)}}) hj (Zc j)⟩
theorem LM (h:x.r.aG k)(hj:x.aC j)(hm:m.aL)(hi:0<=m.aA/\m.aA<=2^40):(x.aG m).r.aG (k+200)/\(x.aG m).aC (j+2):=by
 unfold RX.aG;split;·exact⟨h.aA ω,(RX.aC.aC hj _).aA ω⟩
 ·split;·exact⟨h.aA ω,(RX.aC.aC hj _).aA ω⟩
  ·rename_i c1 c2;simp only;have hp:x.r.aA.aA.aF m.aA=true:=by
    cases e:x.r.aA.aA.aF m.aA with
    | false=>exact absurd (.inl e) c2
    | true=>rfl
   split;·exact⟨h.aA ω,hj.aA ω⟩
   ·rename_i c3;have hb:=h.aD;by_cases c4:0<x.r.aA.aA.aI m.aA m.es;·rw[WW c4];obtain⟨f,el⟩:=h.a_ hm hi hp ω;have fc:=f.aP;refine⟨f.bz (c:=max x.r.aD (min m.aI (m.aA+m.es.length))) (by show x.r.aD<=_;omega) (by show _<=(x.r.aA.aA.aE m.aA m.es).aC;rw[el];have:=fc.2.2;have e3:x.r.aD<=(x.r.aA.aA.aE m.aA m.es).aC:=this;omega),?_⟩;exact (RX.aC.aD (x:={x with r:={x.r with aA:={x.r.aA with aA:=x.r.aA.aA.aE m.aA m.es}}}) hj _).aC _
    ·rw[WY c4];have h0:x.r.aA.aA.aI m.aA m.es=0:=by
      unfold fG.aI at c4 ⊢;split at c4;·have h1:=lF.1 hp;omega
      ·rename_i c;rw[WY c]
     have hl:=fG.aO hb.1 hp h0;have:=h.aP;exact⟨(h.bz (c:=max x.r.aD (min m.aI (m.aA+m.es.length))) ω ω).aA ω,(RX.aC.aC (x:={x with r:={x.r with aD:=max x.r.aD (min m.aI (m.aA+m.es.length))}}) hj _).aA ω⟩
theorem Tm (h:x.r.aG k)(hj:x.aC j)(hm:m.aL)(hi:0<=m.aA/\m.aA<=2^40):(x.aR m).r.aG k/\(x.aR m).aC (j+2):=by
 unfold RX.aR;split;·exact⟨h,(RX.aC.aC hj _).aA ω⟩
 ·simp only;split;·exact⟨h,hj.aA ω⟩
  ·rename_i c1 c2;obtain⟨tb1,e⟩:=J5 hm.aA.1 hm.aA.2;have hc:(iG (jb m.aG).1).2=0:=W6 λz=>c2 (.inr z);obtain⟨s1,s2,s3,s4,s5,s6,s7⟩:=JN h ⟨hi.1,ω⟩ hm.aC.2;exact⟨h.bF (c:=m.aA) (a:=m.aA) ⟨hi.1,ω⟩ hm.aC.2 (wC hc) e ⟨W9 _,W9 _,s6⟩,
    RX.aC.aC (x:=(⟨{(x.aW m.aA m.aH (iG (jb m.aG).1).1 (jb m.aG).2.1).r with aD:=m.aA,aI:=m.aA},{(x.aW m.aA m.aH (iG (jb m.aG).1).1 (jb m.aG).2.1).o with aD:=true}⟩:RX)) (RX.aC.aD (x:={x with r:={x.r with aA:={x.r.aA with aA:=x.r.aX m.aA m.aH,aD:=(iG (jb m.aG).1).1,aG:=(jb m.aG).2.1}}}) hj _) _⟩
def RX.aH (x:RX)(m:fF):RX:=if x.r.aA.aC<m.aD then (x.aJ m.aD 0).aO 0 else x
theorem EU (h:x.r.aG k)(hj:x.aC j)(hm:m.aL):(x.aH m).r.aG k/\(x.aH m).aC (j+1)/\(x.aH m).r.aA.aA=x.r.aA.aA/\(x.aH m).r.aA.aD=x.r.aA.aD/\(x.aH m).r.aA.aE=x.r.aA.aE/\(x.aH m).r.aD=x.r.aD:=by
 unfold RX.aH;split;·rename_i c;have ht:=h.aG;refine⟨(h.aW (t:=m.aD) (v:=0) ⟨ω,hm.aF⟩ ⟨ω,ω⟩).aK 0,?_,rfl,rfl,rfl,rfl⟩;exact RX.aC.aD (x:={x with r:={x.r with aA:={x.r.aA with aC:=m.aD,aF:=0}}}) hj _
 ·exact⟨h,hj.aA ω,rfl,rfl,rfl,rfl⟩
def RX.aY (y:RX)(m:fF):RX:=
 if m.aC=1 then y.aS m else if m.aC=2 then y.aU m else if m.aC=4 then y.aP m
 else if y.r.aE=2 then y else
  let z:RX:={y with r:={y.r.aW m.aE with aF:=0}}
  if m.aC=3 then z.aG m else z.aR m
theorem xi (x:RX)(m:fF):x.aT m=if ¬m.aK=x.r.aA.aE\/m.aC<1\/5<m.aC\/(m.aC=1/\x.r.bz m.aE=false) then x else
 if m.aD<(x.aH m).r.aA.aC then
  (if m.aC=1 then (x.aH m).aI {fF.aJ with aC:=2,to:=m.aE} else if m.aC=3\/m.aC=5 then (x.aH m).aI {fF.aJ with aC:=4,to:=m.aE} else x.aH m)
 else (x.aH m).aY m:=rfl
theorem Ve (h:x.r.aG k)(hk:k<2^28)(hj:x.aC j)(hm:m.aL)(h1:1<=m.aC/\m.aC<=5):(x.aY m).r.aG (k+200)/\(x.aY m).aC (j+22):=by
 unfold RX.aY;split;·obtain⟨a,b⟩:=LX h hj hm;exact⟨a.aA ω,b.aA ω⟩
 ·split;·obtain⟨a,b⟩:=Wp (m:=m) h hk hj;exact⟨a.aA ω,b.aA ω⟩
  ·split;·obtain⟨a,b⟩:=Pe h hj (hm.aD ω);exact⟨a.aA ω,b.aA ω⟩
   ·split;·exact⟨h.aA ω,hj.aA ω⟩
    ·simp only;split;·obtain⟨a,b⟩:=LM (x:={x with r:={x.r.aW m.aE with aF:=0}}) (h.aK m.aE).aN hj hm (hm.aD ω);exact⟨a,b.aA ω⟩
     ·obtain⟨a,b⟩:=Tm (x:={x with r:={x.r.aW m.aE with aF:=0}}) (h.aK m.aE).aN hj hm (hm.aD ω);exact⟨a.aA ω,b.aA ω⟩
theorem EN (h:x.r.aG k)(hk:k<2^28)(hj:x.aC j)(hm:m.aL):(x.aT m).r.aG (k+200)/\(x.aT m).aC (j+23):=by
 rw[xi];split;·exact⟨h.aA ω,hj.aA ω⟩
 ·rename_i c;obtain⟨t1,t2,-⟩:=EU h hj hm;split
  ·split;·exact⟨t1.aA ω,(RX.aC.aC t2 _).aA ω⟩
   ·split;·exact⟨t1.aA ω,(RX.aC.aC t2 _).aA ω⟩
    ·exact⟨t1.aA ω,t2.aA ω⟩
  ·exact Ve t1 hk t2 hm ⟨ω,ω⟩
theorem yS (h:x.r.aG k):x.aA.r.aG k/\x.aA.o.aA=x.o.aA/\x.aA.o.aC=x.o.aC:=by
 have f:x.r.aZ.aG k:=by unfold fy.aZ;split;exact h.aK 0;exact h
 unfold RX.aA;simp only;split;·exact⟨f,rfl,rfl⟩
 ·refine⟨?_,rfl,rfl⟩;obtain⟨g1,g2,g3,g4,g5,g6,g7,g8,g9,U,O,I,E,u,e⟩:=f;exact⟨g1,g2,g3,g4,g5,g6,g7,g8,⟨Y9 g9.1 g9.2.1,W9 _,g9.2.2⟩,U,O,I,E,u,e⟩
theorem JT (h:x.r.aG k)(hk:k<2^28)(hj:x.aC j)(ht:x.r.aA.aC<2^40)(u:Int):(x.aV u).r.aG (k+1)/\(x.aV u).aC (j+23):=by
 have h0:=h.aG;have f:=(h.aW (t:=x.r.aA.aC+1) (v:=x.r.id) ⟨ω,ω⟩ ⟨by have:=h.id;omega,by have:=h.id;omega⟩).aK 0;obtain⟨z,hz⟩:∃z:RX,z={(x.aJ (x.r.aA.aC+1) x.r.id).aO 0 with r:={((x.aJ (x.r.aA.aC+1) x.r.id).aO 0).r with aE:=1,aF:=0,aT:=k_ u,aJ:=[((x.aJ (x.r.aA.aC+1) x.r.id).aO 0).r.id]}}:=⟨_,rfl⟩;have e:x.aV u=if z.r.aN.aE z.r.aJ then z.aL else z.aK (jY z.r.id z.r.aA.aE z.r.aA.aC z.r.aA.aA z.r.aN):=by rw[hz];rfl
 have zf:z.r.aG k:=by rw[hz];obtain⟨g1,g2,g3,g4,g5,g6,g7,g8,g9,g10,U,O,g13,I,E⟩:=f;exact⟨g1,g2,g3,g4,g5,g6,g7,g8,g9,⟨W9 _,by show (0:Int)<=k;omega⟩,U,O,by show [_].length<=k+1;simp,I,E⟩
 have zw:z.aC (j+1):=by rw[hz];exact RX.aC.aD (x:={x with r:={x.r with aA:={x.r.aA with aC:=x.r.aA.aC+1,aF:=x.r.id}}}) hj _
 rw[e];split;·exact⟨zf.bB ω,zw.aG zf ω⟩
 ·have hl:(jY z.r.id z.r.aA.aE z.r.aA.aC z.r.aA.aA z.r.aN).length<=21:=Xg (Gt _ _ _ _ _) (Xg (zT zf.aQ) ω);obtain⟨a,-,-⟩:=EH (jY z.r.id z.r.aA.aE z.r.aA.aC z.r.aA.aA z.r.aN) z;exact⟨by rw[a];exact zf.aA ω,(zw.aH hl).aA ω⟩
end
theorem oh (r:fy):r.aH.aC 0:=⟨WX _,WX _⟩
theorem Ef {k j:Nat}{x:RX}(h:x.r.aG k)(hj:x.aC j):x.on.r.aG k/\x.on.aC (j+21):=⟨by show (RX.aN _ _).r.aG k;rw[(uK _ _).1];exact h,hj.aF h.aE.1⟩
theorem fy.bN {k:Nat}{x:fy}(h:x.aG k)(hk:k+2<2^28)(O:Int):(x.aV O).r.aG (k+2):=by
 unfold fy.aV;split
 ·refine (yS ?_).1;have hb:=h.aX;split
  ·have f:({x with aM:=0}:fy).aG k:=by obtain⟨g1,g2,g3,g4,g5,g6,g7,g8,g9,U,W,I,E,u,e⟩:=h;exact⟨g1,g2,g3,g4,g5,g6,g7,g8,g9,U,⟨W9 _,by show (0:Int)<=1;omega⟩,I,E,u,e⟩
   exact (Ef (x:=({x with aM:=0}:fy).aH) f (oh _)).1.aA ω
  ·rename_i c;obtain⟨g1,g2,g3,g4,g5,g6,g7,g8,g9,U,W,I,E,u,e⟩:=h.aA (show k<=k+2 by omega);exact⟨g1,g2,g3,g4,g5,g6,g7,g8,g9,U,⟨by show 0<=x.aM+1;omega,by show x.aM+1<=1;omega⟩,I,E,u,e⟩
 ·simp only;have f:({x with aF:=x.aF+1}:fy).aG (k+1):=by have he:=h.aY;obtain⟨g1,g2,g3,g4,g5,g6,g7,g8,g9,U,W,I,E,u,e⟩:=h.aA (Zc k);exact⟨g1,g2,g3,g4,g5,g6,g7,g8,g9,⟨by show 0<=x.aF+1;omega,by show x.aF+1<=((k+1:Nat):Int);omega⟩,W,I,E,u,e⟩
  refine (yS ?_).1;split;·rename_i c;exact (JT (x:=({x with aF:=x.aF+1}:fy).aH) f ω (oh _) c.2.2.1 O).1
  ·exact f.aA ω
theorem fy.bO {k:Nat}{x:fy}(h:x.aG k)(hk:k<2^28){m:fF}(hm:m.aL):(x.bA m).r.aG (k+200):=(yS (Glb.EN (x:=x.aH) h hk (oh _) hm).1).1
variable {P:Program}{f f1 f2 f3 f4 f5 f6:FuncId}
def DC.aE:DC->AC->DC
 | .aD a d,r=>.aD a (d.aE r)
 | .aC o g xs _,r=>.aC o g xs r
def DC.aA:DC->AC
 | .aD _ d=>d.aA
 | .aC _ _ _ r=>r
theorem DC.aI (a:AC)(d:DC)(r:AC):(DC.aD a d).aE r=.aD a (d.aE r):=rfl
theorem DC.aH (o:List AO)(g:FuncId)(xs:List fN)(x r:AC):(DC.aC o g xs x).aE r=.aC o g xs r:=rfl
theorem DC.aG (a:AC)(d:DC):(DC.aD a d).aA=d.aA:=rfl
theorem DC.aF (o:List AO)(g:FuncId)(xs:List fN)(x:AC):(DC.aC o g xs x).aA=x:=rfl
structure jn (L:Nat->Nat)(h:fu)(r:Nat)(x:fy):Prop where
 r:∃g f,oP L h r x g f
 aA:∀m,L m≠0->m<h.length/\(L m=1\/L m=2\/L m=6)
def lA (L:Nat->Nat)(h:fu)(r:Nat)(x:RX)(v:AV)(h':fu):Prop:=∃L' o ma ca aa,v=.aF [ma,ca,aa,.aD .i64 x.o.aE,.aE x.o.aD]/\(∃g f,oP L' h' r x.r g f)/\qj L' h' o x.o ma ca aa/\(∀m,L' m≠0->m<h'.length)/\h.length<=o /\
 (∀m,m<h.length->L' m=L m)/\fq (λm=>wA (L m)) h h'
theorem jn.aD {L h r x h0 o}(a:jn L h r x)(hx:fq fB h h0) (ho:h0[o]?=ar 5 [[.aC,.aC,.aC,ι 0,.aE false]]) (hlo:h.length<=o):iv (λm=>if m=o then 7 else L m) h0 r o x.aH:=by
 obtain⟨⟨g,f,ra⟩,lab⟩:=a;have hl:=hx.1;have e:∀m,m<h.length->(if m=o then 7 else L m)=L m:=λm hm=>WY ω;refine⟨⟨g,f,ra.aC (λm hm _=>e m hm) λm hm _=>hx.2 m hm (λy=>y)⟩,⟨.aC,.aC,.aC,ho,fA.aD 17,Xb,fA.aD 17,Xb,fA.aD 3,WW rfl⟩,λm hm=>?_⟩;by_cases c:m=o;·rw[c];exact (WR.1 ho).1
 ·simp only[WY c]at hm;have:=(lab m hm).1;omega
theorem jn.lt {L h r x}(a:jn L h r x):r<h.length:=let⟨_,_,ra⟩:=a.r;(a.aA r (by rw[ra.lr];omega)).1
theorem jn.ge {L h r x}(a:jn L h r x){m:Nat}(hm:h.length<=m):L m=0:=W6 λz=>by have:=(a.aA m z).1;omega
theorem fJ.aJ {L h r x h0 o X h'}(a:jn L h r x)(hx:fq fB h h0)(u:h.length<=o)(T:fJ wA fB (λm=>if m=o then 7 else L m) h0 r o X h'):
  ∃ma ca aa,h'[o]?=ar 5 [[ma,ca,aa,ι X.o.aE,.aE X.o.aD]]/\ma.aH=true/\ca.aH=true/\aa.aH=true/\lA L h r X (.aF [ma,ca,aa,ι X.o.aE,.aE X.o.aD]) h':=by
 obtain⟨L1,x1,l1,e1⟩:=T;obtain⟨ma,ca,aa,oa⟩:=x1.o;have hl:=hx.1;have e:∀m,m<h.length->(if m=o then 7 else L m)=L m:=λm hm=>WY ω;refine⟨ma,ca,aa,oa.aA,oa.m.aA,oa.c.aA,oa.a.aA,L1,o,ma,ca,aa,rfl,x1.r,oa,x1.lt,u,λm hm=>(l1 m ω (.inr (λz=>z))).trans (e m hm),?_⟩;refine⟨by have:=e1.1;omega,λm hm hn=>(e1.2 m ω ?_).trans (hx.2 m hm (λz=>z))⟩;rintro (z | z);·exact hn (by have z':wA (if m=o then 7 else L m):=z;rw[e m hm]at z';exact z')
 ·exact z
theorem mw.aA {L h r x m a h0 o}(hm:mw L h m a)(ha:jn L h r x)(hx:fq fB h h0)(hlo:h.length<=o):mw (λm=>if m=o then 7 else L m) h0 m a:=by obtain⟨G,hr,e⟩:=hm;exact⟨λn=>G n/\n<h.length,fH.aA (λ_ y=>y) (hx.aE _) _ _ (fH.lt _ _ hr),λn hn=>by show (if n=o then 7 else L n)=0;rw[WY (by have:=hn.2;omega)];exact e n hn.1⟩
def AI (P:Program)(f:FuncId):Prop:=fZ P f=true/\∀(L:Nat->Nat)(h:fu)(r:Nat)(x:fy)(k:Nat)(m:fF)(a:List AV),jn L h r x->x.aG k->k+200<=2^28->mw L h m a->m.aL->
 fO P f [.aA r 21 0 0,.aF a] h λv h'=>lA L h r (x.bA m) v h'
theorem Ug {f7 f8 f9 f10 f11:FuncId}(hf:xI P f (jZ f1 f2 f3 f4 f5 f6 f7 f8 f9 f10 f11))(u1:vD P f1)(u2:xS P f2)(u3:vW P f3)(u4:vV P f4)(u5:sq P f5)(u6:sI P f6)
  (u7:AA P f7) (u8:AJ P f8) (u9:AF P f9) (ah:Az P f10) (ag:AG P f11):AI P f:=by
 refine⟨hf.1,λL h r x k m a hx a2 hk hm a7=>Hy hf.2 (Yq rfl) ?_⟩;show pT P (jZ f1 f2 f3 f4 f5 f6 f7 f8 f9 f10 f11).aA ⟨[(0,.aA r 21 0 0),(1,.aF a)],[],h⟩ (rA P (jZ f1 f2 f3 f4 f5 f6 f7 f8 f9 f10 f11).aC _);obtain⟨G,hr,h0⟩:=id hm;obtain⟨e,d,rfl,he,hd⟩:=qK hr;have O:∀(o n5:Nat)(L0:Nat->Nat)(H H':fu)(Le:gx),o=h.length+1->h.length+2<=n5->L0=(λm=>if m=o then 7 else L m)->fq fB h H->iv L0 H r o x.aH->mw L0 H m (m.aF e d)->
   H[h.length]?=ar 17 [m.aF e d]->H[n5]?=ar 2 [[.aA r 21 0 0,.aA o 5 0 0]]->lk 0 Le=.aA r 21 0 0->lk 3 Le=.aA h.length 17 0 0->lk 4 Le=.aA o 5 0 0->lk 5 Le=.aA n5 2 0 0->
   ¬(¬m.aK=x.aH.r.aA.aE\/m.aC<1\/5<m.aC\/(m.aC=1/\x.aH.r.bz m.aE=false))->fJ wA fB L0 H r o (x.aH.aH m) H'->
   vc P (jZ f1 f2 f3 f4 f5 f6 f7 f8 f9 f10 f11).aA.aA.tl.tl ⟨Le,[],H'⟩ (rA P (jZ f1 f2 f3 f4 f5 f6 f7 f8 f9 f10 f11).aC (λv h'=>lA L h r (x.bA m) v h') f2 [.aF [.aA r 21 0 0,.aA o 5 0 0]]):=by
  intro o n5 L0 H H' Le ho a6 a3 X I U B0 B5 k0 k3 k4 k5 a8 T;have zL:∀n,h.length<=n->n≠o->¬wA (L0 n):=λn hn ac=>by rw[a3];show ¬wA (if n=o then 7 else L n);rw[WY ac,hx.ge hn];exact kl
  have fin:∀(Le:gx)(H':fu)(y:RX),x.aH.aT m=y->lk 4 Le=.aA o 5 0 0->fJ wA fB L0 H r o y H'->
    uI P f2 [.aF [.aA r 21 0 0,.aA o 5 0 0]] H' (uW (jZ f1 f2 f3 f4 f5 f6 f7 f8 f9 f10 f11).aC Le λv h'=>lA L h r (x.bA m) v h'):=by
   intro Le H' y ey k4 T;have yf:=(EN (x:=x.aH) (m:=m) a2 ω (oh _) a7).1;rw[ey]at yf;obtain⟨L1,x1,l1,e1⟩:=T;refine Dw ⟨u2.1,u2.2 L1 H' r o y (k+200) x1 yf ω⟩ ?_;intro _ af T2;have T3:=fJ.aE l1 e1 (λ_ _ y=>y) T2;have es:x.bA m=y.aA:=by show (x.aH.aT m).aA=_;rw[ey]
   rw[a3]at T3;obtain⟨ma,ca,aa,row,s1,s2,s3,out⟩:=T3.aJ hx X ω;rw[es];simp only[jZ,go_sem,k4,row];exact out
  obtain⟨t1,t2,t3,t4,t5,t6⟩:=EU (x:=x.aH) (m:=m) a2 (oh _) a7;have E:x.aH.aT m=if m.aD<(x.aH.aH m).r.aA.aC then
    (if m.aC=1 then (x.aH.aH m).aI {fF.aJ with aC:=2,to:=m.aE} else if m.aC=3\/m.aC=5 then (x.aH.aH m).aI {fF.aJ with aC:=4,to:=m.aE} else x.aH.aH m)
   else (x.aH.aH m).aY m:=by rw[xi,WY a8]
  have k15:1<=m.aC/\m.aC<=5:=by
   constructor;·exact W6 λz=>a8 (.inr (.inl ω))
   ·exact W6 λz=>a8 (.inr (.inr (.inl ω)))
  have u:=fin;simp only[jZ]at u;clear fin;generalize x.aH.aH m=y at *;have D0:=T.aA (zL _ (WX _) ω) (λz=>z) B0;have D5:=T.aA (zL _ ω ω) (λz=>z) B5;obtain⟨g,ff,rr⟩:=T.aF;have a1:=rr;simp only[fy.aL]at a1;simp only[fF.aF]at D0;have a9:∀(kd:Int),fO P f6 [.aF [.aA r 21 0 0,.aA o 5 0 0],.aF (({fF.aJ with aC:=kd,to:=m.aE}:fF).aF .aC .aC)] H' λ_ af=>fJ wA fB L0 H r o (y.aI {fF.aJ with aC:=kd,to:=m.aE}) af:=λkd=>fJ.aD (Q':=fB) T (fq.aC _ _) (λ_ _ y=>y) λL1 x1=>(u6.2 fB L1 H' r o y {fF.aJ with aC:=kd,to:=m.aE} .aC .aC x1 (fA.aD 3) (fA.aD 1) (λ_ z=>z.elim) (tg t2.1 ω 168 ω)).aA λ_ _ b=>b.aG nZ;have s2:=a9 2;have s4:=a9 4;simp only[fF.aF,fF.aJ]at s2 s4;have lr:=(WR.1 rr).1;simp only[jZ,DC.aG,DC.aF,AC.aC,go_sem,k0,k3,D0,a1];have use:∀{g:FuncId}{y':RX}{Le:gx}{H2:fu}(_:fZ P g=true),True:=λ_=>Xb;by_cases c1:m.aD<y.r.aA.aC
  ·rw[WW c1]at E;simp only[go_sem,k3,D0,WZ c1];by_cases c2:m.aC=1;·rw[WW c2]at E;simp only[go_sem,k3,k5,D0,D5,WZ c2];refine fK ⟨u6.1,s2⟩ ?_;intro _ H2 T2;simp only[go_sem];exact u _ H2 _ E (by simp[fE,k4]) T2
   ·rw[WY c2]at E;simp only[go_sem,WV c2];by_cases c3:m.aC=3;·rw[WW (.inl c3)]at E;simp only[go_sem,k3,k5,D0,D5,WZ c3];refine fK ⟨u6.1,s4⟩ ?_;intro _ H2 T2;simp only[go_sem];exact u _ H2 _ E (by simp[fE,k4]) T2
    ·simp only[go_sem,WV c3];by_cases c4:m.aC=5;·rw[WW (.inr c4)]at E;simp only[go_sem,k3,k5,D0,D5,WZ c4];refine fK ⟨u6.1,s4⟩ ?_;intro _ H2 T2;simp only[go_sem];exact u _ H2 _ E (by simp[fE,k4]) T2
     ·rw[WY (by rintro (z | z);exact c3 z;exact c4 z)]at E;simp only[go_sem,WV c4];exact u _ H' _ E (by simp[fE,k4]) T
  ·rw[WY c1]at E;have et:y.aY m=if m.aC=1 then y.aS m else if m.aC=2 then y.aU m else if m.aC=4 then y.aP m
    else if y.r.aE=2 then y else
     let z:RX:={y with r:={y.r.aW m.aE with aF:=0}}
     if m.aC=3 then z.aG m else z.aR m:=rfl
   rw[et]at E;simp only[go_sem,k3,D0,WV c1];have q7:=fJ.aI T U kl λL1 x1 m1=>u7.2 L1 H' r o y k 1 m _ x1 t1 ω t2 ω m1;have q8:=fJ.aI T U kl λL1 x1 m1=>u8.2 L1 H' r o y k 1 m _ x1 t1 ω t2 ω m1;simp only[fF.aF]at q7 q8;by_cases c2:m.aC=1;·rw[WW c2]at E;simp only[go_sem,k3,k5,D0,D5,WZ c2];refine fK ⟨u7.1,q7⟩ ?_;intro _ H2 T2;simp only[go_sem];exact u _ H2 _ E (by simp[fE,k4]) T2
   ·rw[WY c2]at E;simp only[go_sem,WV c2];by_cases c3:m.aC=2;·rw[WW c3]at E;simp only[go_sem,k3,k5,D0,D5,WZ c3];refine fK ⟨u8.1,q8⟩ ?_;intro _ H2 T2;simp only[go_sem];exact u _ H2 _ E (by simp[fE,k4]) T2
    ·rw[WY c3]at E;simp only[go_sem,WV c3];have ae:=a7.aD ω;by_cases c4:m.aC=4;·rw[WW c4]at E;simp only[go_sem,k3,k5,D0,D5,WZ c4];have q9:=fJ.aI T U kl λL1 x1 m1=>u9.2 L1 H' r o y k 1 m _ x1 t1 ω t2 ω m1 ae;simp only[fF.aF]at q9;refine fK ⟨u9.1,q9⟩ ?_;intro _ H2 T2;simp only[go_sem];exact u _ H2 _ E (by simp[fE,k4]) T2
     ·rw[WY c4]at E;simp only[go_sem,k0,a1,WV c4];by_cases c5:y.r.aE=2;·rw[WW c5]at E;simp only[go_sem,WZ c5];exact u _ H' _ E (by simp[fE,k4]) T
      ·rw[WY c5]at E;simp only[go_sem,k0,k3,D0,WV c5];have fl:=fJ.aD (Q':=fB) T (fq.aC _ _) (λ_ _ y=>y) λL1 x1=>u5.2 L1 H' r o y m.aE x1;refine fK ⟨u5.1,fl⟩ ?_;intro _ H2 T2;have ef:y.aO m.aE=⟨y.r.aW m.aE,y.o⟩:=rfl;rw[ef]at T2;have E0:=T2.aA (zL _ (WX _) ω) (λz=>z) B0;have E5:=T2.aA (zL _ ω ω) (λz=>z) B5;simp only[fF.aF]at E0;have hlr:=hx.lt;have w0:(r=h.length)=False:=Xp ω;have w5:(r=n5)=False:=Xp ω;obtain⟨g2,ff2,r2⟩:=T2.aF;have am:=(WR.1 r2).1;have T3:=fJ.aH (R:=y.r.aW m.aE) (out:=y.o) (R':={y.r.aW m.aE with aF:=0}) T2 r2 rfl rfl (λ_ z=>z);have ai:=r2;simp only[fy.aL]at ai T3;simp only[go_sem,k0,k3,ai,am,w0,E0];generalize hH3:H2.set r _=H3 at *;have M0:=T3.aA (zL _ (WX _) ω) (λz=>z) B0;have M5:=T3.aA (zL _ ω ω) (λz=>z) B5;simp only[fF.aF]at M0;have zf:({y.r.aW m.aE with aF:=0}:fy).aG k:=(t1.aK m.aE).aN;have zw:(⟨{y.r.aW m.aE with aF:=0},y.o⟩:RX).aC 1:=t2;by_cases c6:m.aC=3
       ·have E:x.aH.aT m=RX.aG ⟨{y.r.aW m.aE with aF:=0},y.o⟩ m:=by rw[E];exact WW c6
        simp only[go_sem,k3,k5,M0,M5,WZ c6];have ak:=fJ.aI T3 U kl λL1 x1 m1=>ah.2 L1 H3 r o _ k 1 m _ x1 zf ω zw ω m1 a7 ae;simp only[fF.aF]at ak;refine fK ⟨ah.1,ak⟩ ?_;intro _ H4 T4;simp only[go_sem];exact u _ H4 _ E (by simp[fE,k4]) T4
       ·have E:x.aH.aT m=RX.aR ⟨{y.r.aW m.aE with aF:=0},y.o⟩ m:=by rw[E];exact WY c6
        simp only[go_sem,k3,k5,M0,M5,WV c6];have aj:=fJ.aI T3 U kl λL1 x1 m1=>ag.2 L1 H3 r o _ k 1 m _ x1 zf ω zw ω m1 a7 ae;simp only[fF.aF]at aj;refine fK ⟨ag.1,aj⟩ ?_;intro _ H4 T4;simp only[go_sem];exact u _ H4 _ E (by simp[fE,k4]) T4
 have Z:∀(o n5:Nat)(L0:Nat->Nat)(H:fu)(Le:gx),o=h.length+1->h.length+2<=n5->L0=(λm=>if m=o then 7 else L m)->fq fB h H->iv L0 H r o x.aH->mw L0 H m (m.aF e d)->
   H[h.length]?=ar 17 [m.aF e d]->H[n5]?=ar 2 [[.aA r 21 0 0,.aA o 5 0 0]]->lk 0 Le=.aA r 21 0 0->lk 3 Le=.aA h.length 17 0 0->lk 4 Le=.aA o 5 0 0->lk 5 Le=.aA n5 2 0 0->
   ¬(¬m.aK=x.aA.aE\/m.aC<1\/5<m.aC\/(m.aC=1/\x.bz m.aE=false))->
   vc P (jZ f1 f2 f3 f4 f5 f6 f7 f8 f9 f10 f11).aA.aA.tl ⟨Le,[],H⟩ (rA P (jZ f1 f2 f3 f4 f5 f6 f7 f8 f9 f10 f11).aC (λv h'=>lA L h r (x.bA m) v h') f2 [.aF [.aA r 21 0 0,.aA o 5 0 0]]):=by
  intro o n5 L0 H Le ho a6 a3 X I U B0 B5 k0 k3 k4 k5 a8;have e3:(jZ f1 f2 f3 f4 f5 f6 f7 f8 f9 f10 f11).aA.aA.tl=.aA (jZ f1 f2 f3 f4 f5 f6 f7 f8 f9 f10 f11).aA.aA.tl.hd (jZ f1 f2 f3 f4 f5 f6 f7 f8 f9 f10 f11).aA.aA.tl.tl:=rfl;rw[e3];generalize (jZ f1 f2 f3 f4 f5 f6 f7 f8 f9 f10 f11).aA.aA.tl.tl=D at O ⊢;have snd:=O;simp only[jZ]at snd;obtain⟨g,ff,rr⟩:=I.aA;have a1:=rr;have W:=B0;simp only[fy.aL]at a1;simp only[fF.aF]at W;have e1:x.aH.r=x:=rfl;simp only[jZ,DC.aG,DC.aF,AC.aE,AC.aC,go_sem,k0,k3,W,a1];by_cases c:x.aA.aC<m.aD;·have et:x.aH.aH m=(x.aH.aJ m.aD 0).aO 0:=WW c;rw[et]at snd;simp only[go_sem,k3,k5,W,B5,e1,WZ c];have tm:=u4.2 L0 H r o x.aH m.aD 0 I (by show (0+1)*216<=2^46;decide);refine fK ⟨u4.1,tm⟩ ?_;intro _ H4 T4;simp only[go_sem,k0];have fl:=fJ.aD (Q':=fB) T4 (fq.aC _ _) (λ_ _ y=>y) λL1 x1=>u5.2 L1 H4 r o _ 0 x1;refine fK ⟨u5.1,fl⟩ ?_;intro _ H5 T5;simp only[go_sem];refine snd o n5 L0 H H5 _ ho a6 a3 X I U B0 B5 ?_ ?_ ?_ ?_ a8 T5<;>simp[fE,k0,k3,k4,k5]
  ·have et:x.aH.aH m=x.aH:=WY c;rw[et]at snd;simp only[go_sem,e1,WV c];refine snd o n5 L0 H H _ ho a6 a3 X I U B0 B5 ?_ ?_ ?_ ?_ a8 I.to<;>simp[fE,k0,k3,k4,k5]
 have e0:(jZ f1 f2 f3 f4 f5 f6 f7 f8 f9 f10 f11).aA=(jZ f1 f2 f3 f4 f5 f6 f7 f8 f9 f10 f11).aA.aE (.aA (jZ f1 f2 f3 f4 f5 f6 f7 f8 f9 f10 f11).aA.aA.hd (jZ f1 f2 f3 f4 f5 f6 f7 f8 f9 f10 f11).aA.aA.tl):=rfl;rw[e0];clear O;generalize (jZ f1 f2 f3 f4 f5 f6 f7 f8 f9 f10 f11).aA.aA.tl=D at Z ⊢;simp only[jZ,DC.aI,DC.aH,DC.aG,DC.aF,AC.aE,go_sem,fF.aF,he.aA,hd.aA];obtain⟨H2,a5⟩:∃H2,H2=h++[some (fC.aA 17 [m.aF e d] false)]++[some (fC.aA 5 [[.aC,.aC,.aC,ι 0,.aE false]] false)]:=⟨_,rfl⟩;have X2:fq fB h H2:=by rw[a5];exact fq.b2 _ _
 have l2:H2.length=h.length+2:=by rw[a5];simp
 have C0:H2[h.length]?=ar 17 [m.aF e d]:=by rw[a5];exact kr _ _ _
 have C1:H2[h.length+1]?=ar 5 [[.aC,.aC,.aC,ι 0,.aE false]]:=by rw[a5];exact jy _ _ _
 simp only[fF.aF]at a5;rw[<-a5];clear a5;refine fK ⟨u1.1,u1.2 H2 r (h.length+1)⟩ ?_;rintro _ H3 ⟨rfl,X3⟩;simp only[go_sem];obtain⟨H,hH⟩:∃H,H=H3++[some (fC.aA 2 [[.aA r 21 0 0,.aA (h.length+1) 5 0 0]] false)]:=⟨_,rfl⟩;obtain⟨n5,al⟩:∃n5,n5=H3.length:=⟨_,rfl⟩;have l3:=X3.1;have X:fq fB h H:=by rw[hH];exact (X2.tr X3).tr (fq.b1 _)
 have B0:H[h.length]?=ar 17 [m.aF e d]:=by rw[hH];exact (fq.b1 _).aA (X3.aA C0)
 have B1:H[h.length+1]?=ar 5 [[.aC,.aC,.aC,ι 0,.aE false]]:=by rw[hH];exact (fq.b1 _).aA (X3.aA C1)
 have B5:H[n5]?=ar 2 [[.aA r 21 0 0,.aA (h.length+1) 5 0 0]]:=by rw[hH,al];exact h_ _ _
 have a6:h.length+2<=n5:=ω;rw[<-hH,<-al];clear hH;have I:=hx.aD X B1 ω;have U:=hm.aA hx X (show h.length<=h.length+1 by omega);obtain⟨o,ho⟩:∃o,o=h.length+1:=⟨_,rfl⟩;obtain⟨L0,a3⟩:∃L0:Nat->Nat,L0=λm=>if m=o then 7 else L m:=⟨_,rfl⟩
 rw[<-ho]at B1 B5 I U ⊢;rw[<-a3]at I U;have zL:∀n,h.length<=n->n≠o->¬wA (L0 n):=λn hn ac=>by rw[a3];show ¬wA (if n=o then 7 else L n);rw[WY ac,hx.ge hn];exact kl
 have fin:∀(Le:gx)(H':fu)(y:RX),x.aH.aT m=y->lk 4 Le=.aA o 5 0 0->fJ wA fB L0 H r o y H'->
   uI P f2 [.aF [.aA r 21 0 0,.aA o 5 0 0]] H' (uW (jZ f1 f2 f3 f4 f5 f6 f7 f8 f9 f10 f11).aC Le λv h'=>lA L h r (x.bA m) v h'):=by
  intro Le H' y ey k4 T;have yf:=(EN (x:=x.aH) (m:=m) a2 ω (oh _) a7).1;rw[ey]at yf;obtain⟨L1,x1,l1,e1⟩:=T;refine Dw ⟨u2.1,u2.2 L1 H' r o y (k+200) x1 yf ω⟩ ?_;intro _ af T2;have T3:=fJ.aE l1 e1 (λ_ _ y=>y) T2;have es:x.bA m=y.aA:=by show (x.aH.aT m).aA=_;rw[ey]
  rw[a3]at T3;obtain⟨ma,ca,aa,row,s1,s2,s3,out⟩:=T3.aJ hx X ω;rw[es];simp only[jZ,go_sem,k4,row];exact out
 have u:=fin;have ab:=Z;simp only[jZ]at u ab;clear fin Z;obtain⟨g,ff,rr⟩:=I.aA;have a1:=rr;have W:=B0;simp only[fy.aL]at a1;simp only[fF.aF]at W;have e1:x.aH.r=x:=rfl;have a4:(¬m.aK=x.aA.aE\/m.aC<1\/5<m.aC\/(m.aC=1/\x.bz m.aE=false))->x.aH.aT m=x.aH:=λc=>by rw[xi];exact WW c
 simp only[go_sem,W,a1,e1];by_cases c1:m.aK=x.aA.aE
 ·simp only[go_sem,W,WZ c1,XL];by_cases c2:m.aC<1;·simp only[go_sem,WZ c2];exact u _ H x.aH (a4 (.inr (.inl c2))) (by simp[fE]) I.to
  ·simp only[go_sem,W,WV c2];by_cases c3:5<m.aC;·simp only[go_sem,WZ c3];exact u _ H x.aH (a4 (.inr (.inr (.inl c3)))) (by simp[fE]) I.to
   ·simp only[go_sem,W,WV c3];by_cases c4:m.aC=1
    ·simp only[go_sem,W,WZ c4];refine gH u3.1 (u3.2 H r x m.aE ⟨g,ff,rr⟩ (a2.aL ω) (a2.aM δ)) ?_;rw[iY];cases c5:x.bz m.aE;·simp only[go_sem,W,a1,e1,X_];exact u _ H x.aH (a4 (.inr (.inr (.inr ⟨c4,c5⟩)))) (by simp[fE]) I.to
     ·simp only[go_sem,W,a1,e1,XL];refine ab o n5 L0 H _ ho a6 a3 X I U B0 B5 ?_ ?_ ?_ ?_ (by rintro (z | z | z | z);exact z c1;exact c2 z;exact c3 z;rw[c5]at z;cases z.2)<;>simp[fE,iw]
    ·simp only[go_sem,WV c4];refine ab o n5 L0 H _ ho a6 a3 X I U B0 B5 ?_ ?_ ?_ ?_ (by rintro (z | z | z | z);exact z c1;exact c2 z;exact c3 z;exact c4 z.1)<;>simp[fE,iw]
 ·simp only[go_sem,WV c1,X_];exact u _ H x.aH (a4 (.inl c1)) (by simp[fE]) I.to
end Glb
