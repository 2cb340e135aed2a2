/-
  A library of its own.
-/
import Derived.Test.YtdeiamnhnfmilaaGreatGlbRafC
set_option linter.unusedSimpArgs false
set_option linter.unusedVariables false
set_option maxRecDepth 10000
set_option maxHeartbeats 8000000
namespace Glb
open Go
structure fE.aL (m:fE):Prop where
 es:m.es.length<=200/\∀e∈m.es,e.aG
 aA:gI m.aG/\m.aG.length<=2^16
 aF:m.aF<=2^40
 aC:hU m.aC/\hU m.aH
 aD:3<=m.aD->0<=m.aA/\m.aA<=2^40
theorem fE.aL.aE {m:fE}(h:m.aL):me m.es:=⟨by have:=h.es.1;omega,λe he=>by have:=(h.es.2 e he).1.2;omega⟩
section
variable {k:Nat} {x:eZ}
theorem fu.aO {l:fu}{p:Int}{e:List fT}(h0:0<=l.aA)(hp:l.aF p=true)(hc:l.aH p e=0):p+e.length<=l.aC:=by
 have h1:=lL.1 hp;by_cases c:l.aG (p+1) e<e.length;·rw[(uZ hp c).2]at hc;omega
 ·have:=wy (e:=e) hp;have:=wB l e (p+1);omega
theorem eZ.aD.aZ (h:x.aD k){m:fE}(hm:m.aL)(hi:0<=m.aA/\m.aA<=2^40)(hp:x.aA.aA.aF m.aA=true)(M:x.aE<x.aA.aA.aH m.aA m.es):({x with aA:={x.aA with aA:=x.aA.aA.aE m.aA m.es}}:eZ).aD (k+200)/\(x.aA.aA.aE m.aA m.es).aC=m.aA+m.es.length:=by
 have hb:=h.aD;have h0:=h.aR;have u:x.aA.aA.aG (m.aA+1) m.es<m.es.length:=by
  apply UC;intro c;have:x.aA.aA.aH m.aA m.es=0:=by unfold fu.aH;rw[Uw (λz=>c z.2)]
  omega
 have e1:=uZ hp u;have e2:=BZ hp u;have hl:=hm.es.1;rw[e1.2]at M;obtain⟨g1,g2,g3,g4,g5,g6,g7,g8,g9,I,Z,E,W,U,O⟩:=h;refine⟨⟨?_,?_,?_,?_,g5,g6,g7,?_,⟨?_,g9.2.1,?_⟩,⟨I.1,Wa I.2 (by omega)⟩,Z,⟨E.1,Wa E.2 (by omega)⟩,UH W (by omega),U,O⟩,e2⟩;·show 0<=(x.aA.aA.aE m.aA m.es).aA/\(x.aA.aA.aE m.aA m.es).aA<=2^40+((k+200:Nat):Int);rw[(n7 _ _ _).1];exact⟨g1.1,by omega⟩
 ·show (x.aA.aA.aE m.aA m.es).es.length<=k+200;rw[e1.1];simp only[Ut,UD,UP];omega
 ·show (x.aA.aA.aE m.aA m.es).aC<=2^40+((k+200:Nat):Int);rw[e2];omega
 ·show ∀e∈(x.aA.aA.aE m.aA m.es).es,e.aG;rw[e1.1];intro e he;simp only[U4]at he;rcases he with he | he;·exact g4 e (U9 he)
  ·exact hm.es.2 e (UX he)
 ·show hU x.aA.aE/\hU x.aA.aF/\hU (x.aA.aA.aE m.aA m.es).aD;rw[(n7 _ _ _).2];exact g8
 ·show (x.aA.aA.aE m.aA m.es).aA<=x.aH;rw[(n7 _ _ _).1];exact g9.1
 ·show x.aE<=(x.aA.aA.aE m.aA m.es).aC;rw[e2];omega
theorem BI {l:fu}{b:Int}(hb:l.aF b=true):l.aK b=⟨b,l.aJ b,l.es.drop (b-l.aA).toNat⟩/\(l.aK b).aC=l.aC:=by
 have h1:=lL.1 hb;have e:l.aK b=⟨b,l.aJ b,l.es.drop (b-l.aA).toNat⟩:=by simp only[fu.aK,hb,Vm]
 refine⟨e,?_⟩;rw[e];unfold fu.aC at *;simp only[UP];omega
theorem HA (h:x.aD k){base term:Int}(hb:0<=base/\base<=2^40+k)(ht:hU term):
  (x.aS base term).aA=base/\(x.aS base term).aD=term/\(x.aS base term).es.length<=k/\(x.aS base term).aC<=2^40+k/\(∀e∈(x.aS base term).es,e.aG)/\base<=(x.aS base term).aC /\
   (x.aA.aA.aF base=true/\x.aA.aA.aJ base=term->(x.aS base term).aC=x.aA.aA.aC):=by
 unfold eZ.aS;split;·rename_i c;obtain⟨e1,e2⟩:=BI c.1;have h1:=lL.1 c.1;rw[e2,e1];refine⟨rfl,c.2,?_,h.aG,λe he=>h.aI e (UX he),h1.2,λ_=>rfl⟩;have:=h.aL;simp only[UP];omega
 ·rename_i c;refine⟨rfl,rfl,by simp,?_,by simp,by unfold fu.aC;simp,λz=>absurd z c⟩;unfold fu.aC;simp;omega
theorem eZ.aD.bD (h:x.aD k){base term c a:Int}{cf:fq}{snap:List Int}(hb:0<=base/\base<=2^40+k)(ht:hU term)(hc:cf.aE=true)(hs:gI snap/\snap.length<=2^16)
  (h1:base<=a/\a<=c/\c<=(x.aS base term).aC):({x with aA:={x.aA with aA:=x.aS base term,aD:=cf,aG:=snap},aE:=c,aH:=a}:eZ).aD k:=by
 obtain⟨s1,s2,s3,s4,s5,s6,-⟩:=HA h hb ht;obtain⟨g1,g2,g3,g4,g5,g6,g7,g8,g9,O,M,I,E,u,e⟩:=h;refine⟨?_,s3,s4,s5,hc,hs,g7,?_,⟨?_,h1.2.1,h1.2.2⟩,O,M,I,E,u,e⟩;·show 0<=(x.aS base term).aA/\(x.aS base term).aA<=2^40+k;rw[s1];exact hb
 ·show hU x.aA.aE/\hU x.aA.aF/\hU (x.aS base term).aD;rw[s2];exact⟨g8.1,g8.2.1,ht⟩
 ·show (x.aS base term).aA<=a;rw[s1];exact h1.1
end
def yI (P:Program)(f:FuncId):Prop:=fP P f=true/\∀(L:Nat->Nat)(h:eW)(r o:Nat)(x:RX)(k j:Nat)(m:fE)(a:List AV),g_ L h r o x->x.r.aD k->k+200<=2^28->x.aC j->j+1<2^20->lC L h m a->m.aL->0<=m.aA/\m.aA<=2^40->
 fC P f [.aF [.aC r 21 0 0,.aC o 5 0 0],.aF a] h λ_ h'=>fy wA eY L h r o (x.aJ m) h'
theorem PY {P:Program}{f f1 f2 f3 f4 f5 f6:FuncId}(hf:Is P f (mh f1 f2 f3 f4 f5 f6))(u1:wg P f1)(u2:nU P f2)(u3:pn P f3)(u4:xZ P f4)(u5:nT P f5)(u6:sK P f6):yI P f:=by
 refine⟨hf.2,λL h r o x k j m a hx u hk hj ab hm a2 aa=>fU hf ?_⟩;obtain⟨G,hr,h0⟩:=id hm;obtain⟨e,d,rfl,he,hd⟩:=pP hr;have ap:=hx.aC;obtain⟨R,out⟩:=x;simp only at u;have hmes:=a2.es.1;have le:ik e=some (.aA .i64 m.es.length):=by have:=he.aC;simpa [gN] using this
 have wn:IntKind.i64.wrap (m.aA+m.es.length)=m.aA+m.es.length:=gi (by omega);have wi:IntKind.i64.wrap (m.aA-1)=m.aA-1:=gi (by omega);have hlast:=u.aG;have hbase:=u.aD;obtain⟨H,hH⟩:∃H,H=h++[some (e_.aA 2 [[.aC r 21 0 0,.aC o 5 0 0]] false)]++[some (e_.aA 17 [m.aE e d] false)]:=⟨_,rfl⟩;have X1:eV eY h H:=by rw[hH];exact eV.b2 _ _
 have lH:H.length=h.length+2:=by rw[hH];simp
 have C0:H[h.length]?=some (some (e_.aA 2 [[.aC r 21 0 0,.aC o 5 0 0]] false)):=by rw[hH];exact jJ _ _ _
 have C1:H[h.length+1]?=some (some (e_.aA 17 [m.aE e d] false)):=by rw[hH];exact iO _ _ _
 have O:=hx.up X1;have z2:∀m,h.length<=m->¬wA (L m):=λm e=>by rw[hx.ge e];exact jF
 have a9:fm (λn=>G n/\n<h.length) H m.c (m.aE e d):=fm.aA (λ_ y=>y) (X1.aE _) _ _ (fm.lt _ _ hr);have a8:∀{y H'},fy wA eY L H r o y H'->fm (λn=>G n/\n<h.length) H' m.c (m.aE e d):=λT=>fm.aA (λ_ y=>y) (λn hn y hy=>T.aA (by rw[h0 n hn.1];exact jF) (λz=>z) hy) _ _ a9;have ans:∀{y H'}(j:Nat)(ok:Bool)(ix:Int),fy wA eY L H r o y H'->y.aC j->j<2^20->fC P f1 [.aF [.aC r 21 0 0,.aC o 5 0 0],.aF (m.aE e d),.aE ok,.aA .i64 ix] H' λ_ ac=>fy wA eY L H r o (y.aS m ok ix) ac:=fun {y H'} j ok ix T yf hj=>fy.aD (Q':=eY) T (eV.aC _ _) (λ_ _ y=>y) λL1 x1=>(u1.2 L1 H' r o y j m _ _ ok ix x1 yf hj (a8 T)).aA λ_ _ b=>b.aG mO;simp only[fE.aE]at ans;have E:∀(Le:fV)(H':eW)(y:RX),(RX.aJ ⟨R,out⟩ m)=(({y with r:={y.r with aE:=max y.r.aE (min m.aJ (m.aA+m.es.length))}}:RX).aS m true (m.aA+m.es.length))->y.aC (j+1)->lk 2 Le=.aC h.length 2 0 0->lk 3 Le=.aC (h.length+1) 17 0 0->fy wA eY L H r o y H'->
   vc P (mh f1 f2 f3 f4 f5 f6).aA.tl.tl.tl.tl.tl ⟨Le,[],H'⟩ (i_ (mh f1 f2 f3 f4 f5 f6).aC λ_ h'=>fy wA eY L h r o (RX.aJ ⟨R,out⟩ m) h'):=by
  intro Le H' y ey yf k2 k3 T;have D0:=T.aA (z2 _ (Uy _)) (λy=>y) C0;have D1:=T.aA (z2 _ (by omega)) (λy=>y) C1;obtain⟨g,ff,rr⟩:=T.aE;have I:=rr;simp only[eZ.aJ]at I;simp only[fE.aE]at D1;have lr:=(Up.1 rr).1;have q0:(r=h.length)=False:=UO (by omega);have q1:(r=h.length+1)=False:=UO (by omega);rw[ey];simp only[mh,AC.aD,go_sem,k2,k3,D0,D1,le,wn,I,vf,tK,rU,q0,q1,lr];have T1:=fy.aH (R:=y.r) (out:=y.o) (R':={y.r with aE:=max y.r.aE (min m.aJ (m.aA+m.es.length))}) T rr rfl rfl (λ_ z=>z);simp only[eZ.aJ]at T1;have an:=ans (j+1) true (m.aA+m.es.length) T1 yf ab;refine fA ⟨u1.1,an⟩ ?_;intro _ H2 T2;simp only[go_sem];exact fy.aC X1 T2
 have e0:(mh f1 f2 f3 f4 f5 f6).aA=.aA (mh f1 f2 f3 f4 f5 f6).aA.hd (.aA (mh f1 f2 f3 f4 f5 f6).aA.tl.hd (.aA (mh f1 f2 f3 f4 f5 f6).aA.tl.tl.hd (.aA (mh f1 f2 f3 f4 f5 f6).aA.tl.tl.tl.hd (.aA (mh f1 f2 f3 f4 f5 f6).aA.tl.tl.tl.tl.hd (mh f1 f2 f3 f4 f5 f6).aA.tl.tl.tl.tl.tl)))):=rfl;rw[e0];generalize (mh f1 f2 f3 f4 f5 f6).aA.tl.tl.tl.tl.tl=D at E ⊢;have snd:=E;simp only[mh]at snd;clear E;obtain⟨g,ff,rr⟩:=O.aA;have I:=rr;have M:=C1;simp only[eZ.aJ]at I;simp only[fE.aE]at M hH;have lr:=(Up.1 rr).1;have q0:(r=h.length)=False:=UO (by omega);have q1:(r=h.length+1)=False:=UO (by omega);have q2:(h.length=r)=False:=UO (by omega);have q3:(h.length+1=r)=False:=UO (by omega);simp only[mh,AC.aF,AC.aD,go_sem,fE.aE,he.aA,hd.aA];rw[<-hH];clear hH;have tc:=u2.2 eY H R.aA.aA _ m.aA (m_ R.aA.aA H) (u.aC (by omega));simp only[go_sem,I];by_cases c1:m.aA<R.aA.aA.aA
 ·simp only[go_sem,I,C0,M,Uu c1];have ea:(RX.aJ ⟨R,out⟩ m)=RX.aS ⟨R,out⟩ m true R.aE:=by unfold RX.aJ;rw[Uv c1]
  rw[ea];refine fA ⟨u1.1,ans j true R.aE O.to hj (by omega)⟩ ?_;intro _ H2 T2;rw[iC];simp only[go_sem];exact fy.aC X1 T2
 ·simp only[go_sem,I,C0,M,Us c1];refine gh u2.1 tc ?_;rw[iC];have no:(R.aA.aA.aF m.aA=false\/¬R.aA.aA.aJ m.aA=m.aH)->(RX.aJ ⟨R,out⟩ m)=RX.aS ⟨R,out⟩ m false (max 0 (min R.aM (m.aA-1))):=λc=>by unfold RX.aJ;rw[Uw c1,Uv c]
  have a1:(RX.aJ ⟨R,out⟩ m)=RX.aS ⟨R,out⟩ m false (max 0 (min R.aM (m.aA-1)))->mN P f1 [.aF [.aC r 21 0 0,.aC o 5 0 0],.aF (m.aE e d),.aE false,.aA .i64 (max 0 (min R.aM (m.aA-1)))] H λ_ h'=>fy wA eY L h r o (RX.aJ ⟨R,out⟩ m) h':=λe=>by rw[e];refine fA ⟨u1.1,ans j false (max 0 (min R.aM (m.aA-1))) O.to hj (by omega)⟩ ?_;intro _ H2 T2;exact fy.aC X1 T2
  simp only[fE.aE]at a1;cases c2:R.aA.aA.aF m.aA;·simp only[go_sem,I,C0,M,Vc,wi];refine gh u3.1 (u3.2 H r R O.aA (u.aC (by omega))) ?_;rw[iC];simp only[go_sem,C0,M,rU,vf,tK];refine fA (a1 (no (.inl c2))) ?_;intro _ H2 T2;rw[iC];simp only[go_sem];exact T2
  ·by_cases c3:R.aA.aA.aJ m.aA=m.aH
   ·simp only[go_sem,I,C0,M,U2,Uu c3];have R3:∀b,(H++[b])[r]?=_:=λb=>(eV.b1 b).aA I;have D0:∀b,(H++[b])[h.length]?=_:=λb=>(eV.b1 b).aA C0;have D1:∀b,(H++[b])[h.length+1]?=_:=λb=>(eV.b1 b).aA M;have N1:∀sz i o',gW (h.length+2) 1 (.aC r sz i o')=true:=λsz i o'=>iu (by omega);have N2:∀sz i o',gW (h.length+2) 1 (.aC h.length sz i o')=true:=λsz i o'=>iu (by omega);have N3:∀sz i o',gW (h.length+2) 1 (.aC (h.length+1) sz i o')=true:=λsz i o'=>iu (by omega);have U:∀a b,(H++[a]).set (h.length+2) b=H++[b]:=λa b=>by rw[WC _ _ (by omega),lH];simp
    have b2:∀b,(H++[b])[h.length+2]?=some b:=λb=>by rw[<-lH];exact gH H b
    have w0:(h.length=h.length+2)=False:=UO (by omega);have w1:(h.length+2=h.length)=False:=UO (by omega);have w2:(h.length+1=h.length+2)=False:=UO (by omega);have w3:(h.length+2=h.length+1)=False:=UO (by omega);have w4:(r=h.length+2)=False:=UO (by omega);have w5:(h.length+2=r)=False:=UO (by omega);simp only[go_sem,jK,R3,D0,D1,N1,N2,N3,lH,U];have a4:=u4.2 (λ_=>True) (H++[none]) R.aA.aA _ m.aA m.es e (fm.aA (F:=eY) (λ_ _=>UF) (λ_ _ _ y=>y) _ _ (m_ R.aA.aA _)) (Rd.aD (λ_ _=>UF) ((X1.tr (eV.b1 none)).aE _) _ _ he) (u.aC (by omega)) a2.aE;simp only[fu.aM]at a4;refine gh u4.1 a4 ?_;simp only[go_sem,jK,R3,D0,D1,U,b2,rV,WK,Bool.true_or];obtain⟨l,hl⟩:∃l,l=R.aA.aA.aE m.aA m.es:=⟨_,rfl⟩;obtain⟨at',a3⟩:∃at',at'=R.aA.aA.aH m.aA m.es:=⟨_,rfl⟩;rw[<-hl,<-a3];have ea:(RX.aJ ⟨R,out⟩ m)=(if 0<at'/\at'<=R.aE then ⟨R,out⟩ else
     let y:RX:=if 0<at' then ({({r:=R,o:=out}:RX) with r:={R with aA:={R.aA with aA:=l}}}:RX).aX {fZ.aI with aC:=2,aE:=at',aA:=⟨0,0,l.aI at' l.es.length⟩} else ⟨R,out⟩
     ({y with r:={y.r with aE:=max y.r.aE (min m.aJ (m.aA+m.es.length))}}:RX).aS m true (m.aA+m.es.length)):=by
     rw[hl,a3];unfold RX.aJ;rw[Uw c1,Uw (by rintro (z | z);rw[c2]at z;cases z;exact z c3)]
    by_cases c4:0<at'
    ·simp only[go_sem,R3,D0,Uu c4];by_cases c5:at'<=R.aE;·simp only[go_sem,Uu c5];rw[ea,Uv ⟨c4,c5⟩];exact fy.aC (X1.tr (eV.b1 _)) (O.up (eV.b1 _)).to
     ·simp only[go_sem,R3,D0,b2,Us c5,rV];rw[Uw (λz=>c5 z.2)]at ea;simp only[Uv c4]at ea;have lf:=u.aZ a2 aa c2 (by rw[<-a3];omega);rw[<-hl]at lf;have a7:=O.up (eV.b1 (some (e_.aA 3 [[.aA .i64 l.aA,.aA .i64 l.aD,ki l.es]] false)));have a5:(H++[some (e_.aA 3 [[.aA .i64 l.aA,.aA .i64 l.aD,ki l.es]] false)])[r]?=some (some (.aA 21 [R.aJ g ff] false)):=(eV.b1 _).aA rr;have T1:=fy.aH (R':={R with aA:={R.aA with aA:=l}}) (a7.to (W:=wA) (Q:=eY)) a5 rfl rfl (λ_ z=>z);have E0:=D0 (some (e_.aA 3 [[.aA .i64 l.aA,.aA .i64 l.aD,ki l.es]] false));have E1:=D1 (some (e_.aA 3 [[.aA .i64 l.aA,.aA .i64 l.aD,ki l.es]] false));have E2:=b2 (some (e_.aA 3 [[.aA .i64 l.aA,.aA .i64 l.aD,ki l.es]] false));have X3:=eV.b1 (h:=H) (some (e_.aA 3 [[.aA .i64 l.aA,.aA .i64 l.aD,ki l.es]] false));have l3:r<h.length+3:=by omega
      simp only[go_sem,b2,w4,q0,lH,l3,Ut];simp only[eZ.aJ]at T1;have K0:=T1.aA (z2 _ (Uy _)) (λy=>y) E0;have K1:=T1.aA (z2 _ (by omega)) (λy=>y) E1;have K2:=T1.aA (z2 _ (by omega)) (λy=>y) E2;generalize hH4:List.set (H++_) r _=H4 at *;obtain⟨R',Z⟩:∃R':eZ,R'={R with aA:={R.aA with aA:=l}}:=⟨_,rfl⟩;have a6:R'.aD (k+200):=by rw[Z];exact lf.1
      have ad:R'.aA.aA=l:=by rw[Z]
      have eRg:R'.aA.aE=R.aA.aE:=by rw[Z]
      rw[<-Z]at T1 ea;have sl:=u5.2 eY H4 R'.aA.aA _ at' l.es.length (m_ R'.aA.aA H4) (a6.aC (by omega));rw[ad]at sl;refine fA ⟨u5.1,sl⟩ ?_;rintro e1 H5 ⟨oe,-,X5⟩;have se:=oe.aA;have M0:=X5.aA K0;have M1:=X5.aA K1;have M2:=X5.aA K2;have hl4:H4.length=H.length+1:=by rw[<-hH4,UA,Ut];rfl
      rw[iC];simp only[go_sem,M0,M2,gC se];have tl:=fy.aD (Q':=λn=>H4.length<=n) T1 X5 (λn hn (z:H4.length<=n)=>by rw[Ut]at hn;simp at hn;omega) λL1 x1=>(u6.2 (λn=>H4.length<=n) L1 H5 r o _ {fZ.aI with aC:=2,aE:=at',aA:=⟨0,0,l.aI at' l.es.length⟩} e1 .aD .aD .aD .aD (x1.up X5) oe (eX.aD 1) (eX.aD 1) (eX.aD 1) (eX.aD 1) (λn hn=>x1.ge hn) (rD (show out.aA.length<=j from hj.2) (by omega) 216 (by omega))).aA λ_ _ b=>b.aG mO;refine fA ⟨u6.1,tl⟩ ?_;intro _ H6 T6;rw[iC];simp only[go_sem];refine snd _ H6 _ ea (RX.aC.aD (x:=({r:=R',o:=out}:RX)) hj _) ?_ ?_ (fy.aC X3 T6)<;>simp[fj]
    ·simp only[go_sem,Us c4];rw[Uw (λz=>c4 z.1)]at ea;simp only[Uw c4]at ea;refine snd _ _ ⟨R,out⟩ ea (hj.aA (by omega)) ?_ ?_ (fy.aC (eV.b1 _) (O.up (eV.b1 _)).to)<;>simp[fj]
   ·simp only[go_sem,I,C0,M,U2,Vc,Us c3,wi];refine gh u3.1 (u3.2 H r R O.aA (u.aC (by omega))) ?_;rw[iC];simp only[go_sem,C0,M,rU,vf,tK];refine fA (a1 (no (.inr c3))) ?_;intro _ H2 T2;rw[iC];simp only[go_sem];exact T2
theorem fO.bH {G w h r sz es es' gr}(g:fO G w h) (hr:h[r]?=some (some (.aA sz es gr))) (hl:es'.length=es.length) (ho:jv sz es') (hc:∀i j c',gn es' i j=some c'->∃c,gn es i j=some c/\∀v,V G w c v->V G w c' v):fO G w (h.set r (some (.aA sz es' gr))):=by
 have hlt:=(Up.1 hr).1;refine {aA:=by rw[UA];exact g.aA,aD:=?_,aE:=?_,inj:=g.inj,aF:=g.aF,aG:=g.aG,aL:=g.aL,aM:=g.aM,aH:=g.aH,aJ:=g.aJ,aC:=?_,aI:=?_,aK:=g.aK}
 ·intro m;rw[g.aD m];by_cases hm:r=m;·subst hm;exact⟨λz=>⟨⟨_,_,_,Ux hlt⟩,z.2⟩,λz=>⟨⟨_,_,_,hr⟩,z.2⟩⟩
  ·rw[Uq hm]
 ·intro m b hb;have hm:r≠m:=by rintro rfl;rw[g.aE _ _ hb]at hr;simp at hr
  rw[Uq hm];exact g.aE m b hb
 ·intro m u I E b hm hb;by_cases h1:r=m;·subst h1;rw[Ux hlt]at hm;simp only[UB,e_.aA.injEq]at hm;obtain⟨rfl,rfl,rfl⟩:=hm;obtain⟨⟨cells,ty,hh,h1,h2,h3⟩,hs⟩:=g.aC r _ _ _ b hr hb;refine⟨⟨cells,ty,hh,by rw[hl];exact h1,λe=>by rw[hl];exact h2 e,λi j c hj=>?_⟩,ho⟩;obtain⟨c0,e0,f0⟩:=hc i j c hj;obtain⟨v,hv,hV⟩:=h3 i j c0 e0;exact⟨v,hv,f0 v hV⟩
  ·rw[Uq h1]at hm;exact g.aC m u I E b hm hb
 ·intro m u I E hm hb;by_cases h1:r=m;·subst h1;rw[Ux hlt]at hm;simp only[UB,e_.aA.injEq]at hm;obtain⟨rfl,rfl,rfl⟩:=hm;have:=g.aI r _ _ _ hr hb;subst this;exact Uz (by simpa using hl)
  ·rw[Uq h1]at hm;exact g.aI m u I E hm hb
def pW (h h':eW):Prop:=∀G w,fO G w h->fO G w h'
theorem pW.aA (h:eW):pW h h:=λ_ _ g=>g
theorem fC.aE {P:Program}{f:FuncId}{e:List AV}{h h':eW}{K:AV->eW->Prop}(hl:pW h h')(hc:fC P f e h' K):fC P f e h K:=λG w vs hg hv=>hc G w vs (hl G w hg) hv
theorem N5 {h:eW}{r sz:Nat}{a b:List AV}{gr:Bool} (hr:h[r]?=some (some (.aA sz [a++.aD :: b] gr))) (ho:jv sz [a++.aM 0 false 3 [] :: b]):pW h (h.set r (some (.aA sz [a++.aM 0 false 3 [] :: b] gr))):=by
 intro G w g;refine g.bH hr rfl ho λi j c' hc=>?_;cases i with
 | succ i=>simp[gn]at hc
 | zero=>
  simp only[gn,UY,VE]at hc ⊢;rw[Vu]at hc ⊢;split at hc;·rename_i hj;exact⟨c',by rw[Uv hj];exact hc,λ_ hv=>hv⟩
  ·rename_i hj;rw[Uw hj];cases hk:j-a.length with
   | zero=>rw[hk]at hc;simp only[UY,UB]at hc;subst hc;refine⟨.aD,rfl,λv hv=>?_⟩;cases hv;exact .aG _ _ _
   | succ k=>rw[hk]at hc;exact⟨c',by simpa using hc,λ_ hv=>hv⟩
theorem SX {P:Program}{f:FuncId}{e:List AV}{r:AV}{h h':eW}{K:AV->eW->Prop}(hl:pW h h')(hi:fP P f=true)(hc:fC P f e h' λr' u=>r'=r/\u=h')(hk:K r h'):mN P f e h K:=
 fA ⟨hi,hc.aE hl⟩ λ_ _ ⟨e1,e2⟩=>by subst e1;subst e2;exact hk
def sy (P:Program)(f:FuncId):Prop:=fP P f=true/\∀(F:Nat->Prop)(h:eW)(x:fq)(a:List AV),fm F h x.c a->x.aH (2^40)->
 fC P f [.aF a] h λv h'=>∃o n e,v=.aF [o,n,e]/\eX (fM x.aA) (λm=>h.length<=m) h' o/\eX (fM x.aC) (λm=>h.length<=m) h' n/\eX (fM x.aD) (λm=>h.length<=m) h' e/\eV eY h h'
theorem Mg {P:Program}{f g:FuncId}(hf:Is P f (uM g))(hg:vO P g):sy P f:=by
 refine⟨hf.2,λF h x a ha hx=>tj hf.1 (Vx rfl) ?_⟩;show vc P (uM g).aA ⟨[(0,.aF a)],[],h⟩ (i_ (uM g).aC _);obtain⟨o,n,e,rfl,ho,hn,he⟩:=n_ ha;obtain⟨H,hH⟩:∃H,H=h++[some (e_.aA 3 [[o,n,e]] false)]++[some (e_.aA 3 [[.aD,.aD,.aD]] false)]:=⟨_,rfl⟩;have X1:eV eY h H:=by rw[hH];exact eV.b2 _ _
 have lH:H.length=h.length+2:=by rw[hH];simp
 have C0:H[h.length]?=some (some (e_.aA 3 [[o,n,e]] false)):=by rw[hH];exact jJ _ _ _
 have C1:H[h.length+1]?=some (some (e_.aA 3 [[.aD,.aD,.aD]] false)):=by rw[hH];exact iO _ _ _
 simp only[uM,go_sem,ho.aA,hn.aA,he.aA];rw[<-hH];clear hH;refine fA ⟨hg.1,hg.2 F H x.aA o (ho.up X1) hx.1⟩ ?_;rintro o1 H2 ⟨oo,-,X2⟩;have D0:=X2.aA C0;have D1:=X2.aA C1;rw[iC];simp only[go_sem,D0];refine fA ⟨hg.1,hg.2 F H2 x.aC n ((hn.up X1).up X2) hx.2.1⟩ ?_;rintro n1 H3 ⟨on,-,X3⟩;have E0:=X3.aA D0;have E1:=X3.aA D1;rw[iC];simp only[go_sem,E0];refine fA ⟨hg.1,hg.2 F H3 x.aD e (((he.up X1).up X2).up X3) hx.2.2⟩ ?_;rintro e1 H4 ⟨oe,-,X4⟩;have F0:=X4.aA E0;have F1:=X4.aA E1;have l4:=(Up.1 F1).1;have x2:=X2.1;have x3:=X3.1;have x4:=X4.1;rw[iC];simp only[go_sem,F0,F1,oo.aA,on.aA,oe.aA,gC oo.aA,gC on.aA,gC oe.aA,l4];have kk:∀v (F:Nat->Prop),(∀m,F m->H.length<=m)->gS F H4 (H4.set (h.length+1) v):=λv F hF m hm y hy=>(Uq (by have:=hF m hm;omega)).trans hy;refine⟨o1,n1,e1,rfl,?_,?_,?_,?_⟩;·exact eX.aC _ (λm hm=>by omega) (kk _ _ (λm hm=>hm)) _ (eX.aC _ (λ_ y=>y) ((X3.tr X4).aE _) _ oo)
 ·exact eX.aC _ (λm hm=>by omega) (kk _ _ (λm hm=>by omega)) _ (eX.aC _ (λ_ y=>y) (X4.aE _) _ on)
 ·exact eX.aC _ (λm hm=>by omega) (kk _ _ (λm hm=>by omega)) _ oe
 ·exact (((X1.tr X2).tr X3).tr X4).aH (by omega) _
def IB (P:Program)(f:FuncId):Prop:=fP P f=true/\∀(F:Nat->Prop)(h:eW)(x:fq)(a:List AV),fm F h x.c a->x.aH (2^40)->fC P f [.aF a] h λv h'=>v=.aF x.v/\h'=h
theorem sy.p {P:Program}{f:FuncId}(hc:sy P f):IB P f:=⟨hc.1,λF h x a ha hx=>(hc.2 F h x a ha hx).aC λ_ _ ⟨o,n,e,h1,h2,h3,h4,h5⟩=>⟨h5,_,h1▸gY.aA (ds:=x.c) (fI.fz _ (λ_ x=>x) _ (by simp only[fq.c,fI];exact⟨o,_,rfl,h2,n,_,rfl,h3,e,_,rfl,h4,rfl⟩)),rfl⟩⟩
def Ig (P:Program)(f:FuncId):Prop:=fP P f=true/\∀(F:Nat->Prop)(h:eW)(l:List Int)(a:AV),Rd F h (gj l) a->l.length<=2^40->fC P f [a] h λr h'=>r=i9 l/\h'=h
theorem qL.q {P:Program}{f:FuncId}(hc:qL P f):Ig P f:=⟨hc.1,λF h l a ha hl=>(hc.2 F h l a ha hl).aC λ_ _ ⟨h1,h2⟩=>⟨h2,_,gY.d (eX.fz _ (λ_ x=>x) _ h1),rfl⟩⟩
def Dg (P:Program)(f:FuncId):Prop:=fP P f=true/\∀(F:Nat->Prop)(h:eW)(l:fu)(a:List AV)(i:Int),fm F h l.c a->jH l->
 fC P f [.aF a,.aA .i64 i] h λr h'=>r=.aI [.aF (l.aK i).v,.aA .i64 (if l.aF i then 0 else 3)]/\h'=h
theorem ub.cp {P:Program}{f:FuncId}(hc:ub P f):Dg P f:=⟨hc.1,λF h l a i ha hl=>(hc.2 F h l a i ha hl).aC λ_ _ ⟨_,h1,h2,h3⟩=>⟨h3,_,h1▸gY.aD (gY.aA (fI.fz _ (λ_ x=>x) _ h2)) (gY.aC _ _),rfl⟩⟩
def yK (P:Program)(f:FuncId):Prop:=fP P f=true/\∀(G:Nat->Prop)(L:Nat->Nat)(h:eW)(r o:Nat)(x:RX)(j:Nat)(base term:Int)(c:fq)(a:List AV)(snap:List Int)(s:AV),g_ L h r o x->jH x.r.aA.aA->x.aC j->j<2^20->fm G h c.c a->Rd G h (gj snap) s->(∀n,G n->L n=0)->c.aH (2^40)->snap.length<=2^40->
 fC P f [.aF [.aC r 21 0 0,.aC o 5 0 0],.aA .i64 base,.aA .i64 term,.aF a,s] h λ_ h'=>fy wA eY L h r o (x.aW base term c snap) h'
theorem P4 {P:Program}{f f1 f2 f3 f4 f5:FuncId}(hf:Is P f (mD f1 f2 f3 f4 f5))(u1:nU P f1)(u2:Dg P f2)(u3:sy P f3)(u4:qL P f4)(u5:sK P f5):yK P f:=by
 refine⟨hf.2,λG L h r o x j base term c a snap s hx M hj hj2 hc hs hG a4 a3=>tj hf.1 (Vx rfl) ?_⟩;show vc P (mD f1 f2 f3 f4 f5).aA ⟨[(0,.aF [.aC r 21 0 0,.aC o 5 0 0]),(1,.aA .i64 base),(2,.aA .i64 term),(3,.aF a),(4,s)],[],h⟩ (i_ (mD f1 f2 f3 f4 f5).aC _);obtain⟨co,cn,ce,rfl,ho,hn,he⟩:=n_ hc;have ap:=hx.aC;obtain⟨R,out⟩:=x;simp only at M;obtain⟨H,hH⟩:∃H,H=h++[some (e_.aA 2 [[.aC r 21 0 0,.aC o 5 0 0]] false)]++[some (e_.aA 3 [[co,cn,ce]] false)]:=⟨_,rfl⟩;have X1:eV eY h H:=by rw[hH];exact eV.b2 _ _
 have lH:H.length=h.length+2:=by rw[hH];simp
 have C0:H[h.length]?=some (some (e_.aA 2 [[.aC r 21 0 0,.aC o 5 0 0]] false)):=by rw[hH];exact jJ _ _ _
 have C1:H[h.length+1]?=some (some (e_.aA 3 [[co,cn,ce]] false)):=by rw[hH];exact iO _ _ _
 have O:=hx.up X1;have z2:∀m,h.length<=m->¬wA (L m):=λm e=>by rw[hx.ge e];exact jF
 have a2:∀{y H'},fy wA eY L H r o y H'->fm (λn=>G n/\n<h.length) H' c.c [co,cn,ce]:=λT=>fm.aA (λ_ y=>y) (λn hn y hy=>T.aA (by rw[hG n hn.1];exact jF) (λz=>z) (X1.aA hy)) _ _ (fm.lt _ _ hc);have a1:∀{y H'},fy wA eY L H r o y H'->Rd (λn=>G n/\n<h.length) H' (gj snap) s:=λT=>Rd.aD (λ_ y=>y) (λn hn y hy=>T.aA (by rw[hG n hn.1];exact jF) (λz=>z) (X1.aA hy)) _ _ (Rd.lt _ _ hs);have u:∀(Le:fV)(H0 H':eW),pW H0 H'->H0[h.length]?=some (some (e_.aA 2 [[.aC r 21 0 0,.aC o 5 0 0]] false))->H0[h.length+1]?=some (some (e_.aA 3 [[co,cn,ce]] false))->lk 1 Le=.aA .i64 base->lk 2 Le=.aA .i64 term->lk 4 Le=s->lk 5 Le=.aC h.length 2 0 0->lk 8 Le=.aC (h.length+1) 3 0 0->fy wA eY L H r o ⟨{R with aA:={R.aA with aA:=R.aS base term}},out⟩ H'->
   vc P (mD f1 f2 f3 f4 f5).aA.tl.tl ⟨Le,[],H0⟩ (i_ (mD f1 f2 f3 f4 f5).aC λ_ h'=>fy wA eY L h r o (RX.aW ⟨R,out⟩ base term c snap) h'):=by
  intro Le H0 H' U B0 B1 k1 k2 k4 k5 k8 T;have D0:=T.aA (z2 _ (Uy _)) (λy=>y) C0;have D1:=T.aA (z2 _ (by omega)) (λy=>y) C1;obtain⟨g,ff,rr⟩:=T.aE;have E:=rr;simp only[eZ.aJ]at E;have lr:=(Up.1 rr).1;have q0:(r=h.length)=False:=UO (by omega);have q1:(r=h.length+1)=False:=UO (by omega);have q2:(h.length=r)=False:=UO (by omega);have q3:(h.length+1=r)=False:=UO (by omega);simp only[mD,AC.aD,go_sem,k4,k5,k8,B0,B1];refine SX U u3.1 (u3.p.2 _ H' c _ (a2 T) a4) ?_;rw[iC];simp only[go_sem,D0,D1];refine gh u4.1 (u4.q.2 _ H' snap _ (a1 T) a3) ?_;rw[iC];simp only[go_sem,k1,k2,k4,k5,k8,D0,D1,E,fq.aK,q0,q1,lr,Vs,UA];have T1:=fy.aH (R':={R with aA:={R.aA with aA:=R.aS base term,aD:=c,aG:=snap}}) T rr rfl rfl (λ_ z=>z);simp only[eZ.aJ]at T1;have M0:=T1.aA (z2 _ (Uy _)) (λy=>y) C0;have M1:=T1.aA (z2 _ (by omega)) (λy=>y) C1;have a7:H.length<=(H'.set r (some (.aA 21 [R.aJ g ff] false))).length:=by obtain⟨_,_,_,e⟩:=T;rw[UA];exact e.1
  rw[UA]at a7;have a6:∀v,(H'.set r v).length=H'.length:=λv=>UA;generalize hH2:List.set H' r _=H2 at *;have hl3:H2.length=H'.length:=by rw[<-hH2];exact a6 _
  refine fA ⟨u3.1,u3.2 _ H2 c _ (a2 T1) a4⟩ ?_;rintro _ H3 ⟨o1,n1,e1,rfl,o2,n2,e2,X3⟩;have N0:=X3.aA M0;have N1:=X3.aA M1;rw[iC];simp only[go_sem,N0,N1];refine fA ⟨u4.1,u4.2 _ H3 snap _ (Rd.aD (λ_ y=>y) (X3.aE _) _ _ (a1 T1)) a3⟩ ?_;rintro s1 H4 ⟨os,X4⟩;have P0:=X4.aA N0;have P1:=X4.aA N1;rw[iC];have x3:=X3.1;simp only[go_sem,P0,P1,gC os.aA];have tl:=fy.aD (Q':=λn=>H2.length<=n) T1 (X3.tr X4) (λn hn (z:H2.length<=n)=>by omega) λL1 x1=>(u5.2 (λn=>H2.length<=n) L1 H4 r o _ {fZ.aI with aC:=3,aA:=⟨base,term,[]⟩,aG:=c,aJ:=snap} .aD o1 n1 e1 s1 (x1.up (X3.tr X4)) (eX.aD 3) (eX.aC _ (λ_ y=>y) (X4.aE _) _ o2) (eX.aC _ (λ_ y=>y) (X4.aE _) _ n2) (eX.aC _ (λ_ y=>y) (X4.aE _) _ e2) (eX.aC _ (λm hm=>by omega) (λ_ _ _ y=>y) _ os) (λn hn=>x1.ge hn) (rD (show out.aA.length<=j from hj.2) (by omega) 216 (by omega))).aA λ_ _ b=>b.aG mO;refine fA ⟨u5.1,tl⟩ ?_;intro _ H5 T5;rw[iC];simp only[go_sem];exact fy.aC X1 T5
 have e0:(mD f1 f2 f3 f4 f5).aA=.aA (mD f1 f2 f3 f4 f5).aA.hd (.aA (mD f1 f2 f3 f4 f5).aA.tl.hd (mD f1 f2 f3 f4 f5).aA.tl.tl):=rfl;rw[e0];generalize (mD f1 f2 f3 f4 f5).aA.tl.tl=D at u ⊢;have snd:=u;simp only[mD]at snd;clear u;obtain⟨g,ff,rr⟩:=O.aA;have E:=rr;simp only[eZ.aJ]at E;have lr:=(Up.1 rr).1;simp only[mD,AC.aF,AC.aD,go_sem,ho.aA,hn.aA,he.aA];rw[<-hH];clear hH;simp only[go_sem,E];refine gh u1.1 (u1.2 eY H R.aA.aA _ base (m_ R.aA.aA H) M) ?_;have q0:(r=h.length)=False:=UO (by omega);have q1:(r=h.length+1)=False:=UO (by omega);have q2:(h.length=r)=False:=UO (by omega);have q3:(h.length+1=r)=False:=UO (by omega);simp only[go_sem];have I:R.aS base term=⟨base,term,[]⟩->pW (H.set r (some (.aA 21 [[.aA .i64 R.id,.aA .i64 R.aA.aE,.aA .i64 R.aA.aC,.aA .i64 R.aA.aF,.aA .i64 base,.aA .i64 term,.aD,gG R.aA.aD.aA,gG R.aA.aD.aC,gG R.aA.aD.aD,i9 R.aA.aG,
   .aA .i64 R.aE,.aA .i64 R.aH,.aA .i64 R.aG,.aA .i64 R.aX,.aA .i64 R.aK,.aA .i64 R.aY,g,ff,.aA .i64 R.aL,.aA .i64 R.aO]] false)))
   (H.set r (some (.aA 21 [({R with aA:={R.aA with aA:=R.aS base term}}:eZ).aJ g ff] false))):=by
  intro es;have a5:jv 21 [({R with aA:={R.aA with aA:=⟨base,term,[]⟩}}:eZ).aJ g ff]:=by obtain⟨g2,f2,Z⟩:=O.r;have:=Z.aA.symm.trans rr;simp only[UB,e_.aA.injEq,VI,eZ.aJ]at this;obtain⟨-,⟨⟨-,-,-,-,-,-,-,-,-,-,-,-,-,-,-,-,-,rfl,rfl,-⟩,-⟩,-⟩:=this;intro y hy;simp only[Wc]at hy;subst hy;refine⟨rfl,?_⟩;simp only[eZ.aJ,List.all_cons,List.all_nil,Z.go.aA,Z.fo.aA,rV,rW,vC,Bool.and_true,WO];rfl
  have hl:=N5 (h:=H.set r (some (.aA 21 [[.aA .i64 R.id,.aA .i64 R.aA.aE,.aA .i64 R.aA.aC,.aA .i64 R.aA.aF,.aA .i64 base,.aA .i64 term,.aD,gG R.aA.aD.aA,gG R.aA.aD.aC,gG R.aA.aD.aD,i9 R.aA.aG,
   .aA .i64 R.aE,.aA .i64 R.aH,.aA .i64 R.aG,.aA .i64 R.aX,.aA .i64 R.aK,.aA .i64 R.aY,g,ff,.aA .i64 R.aL,.aA .i64 R.aO]] false))) (r:=r) (sz:=21) (gr:=false)
   (a:=[.aA .i64 R.id,.aA .i64 R.aA.aE,.aA .i64 R.aA.aC,.aA .i64 R.aA.aF,.aA .i64 base,.aA .i64 term]) (b:=[gG R.aA.aD.aA,gG R.aA.aD.aC,gG R.aA.aD.aD,i9 R.aA.aG,
   .aA .i64 R.aE,.aA .i64 R.aH,.aA .i64 R.aG,.aA .i64 R.aX,.aA .i64 R.aK,.aA .i64 R.aY,g,ff,.aA .i64 R.aL,.aA .i64 R.aO]) (Ux lr) a5
  rw[Vs]at hl;rw[es];exact hl
 cases c2:R.aA.aA.aF base
 ·have es:R.aS base term=⟨base,term,[]⟩:=by unfold eZ.aS;rw[Uw (by rintro⟨z,-⟩;rw[c2]at z;cases z)]
  have T1:=fy.aH (R':={R with aA:={R.aA with aA:=R.aS base term}}) (O.to (W:=wA) (Q:=eY)) rr rfl rfl (λ_ z=>z);simp only[go_sem,E,C0];refine snd _ _ _ (I es) ?_ ?_ ?_ ?_ ?_ ?_ ?_ T1<;>simp[fj,h_,q0,q1,C0,C1]
 ·by_cases c3:R.aA.aA.aJ base=term
  ·have es:R.aS base term=R.aA.aA.aK base:=by unfold eZ.aS;rw[Uv ⟨c2,c3⟩]
   have T1:=fy.aH (R':={R with aA:={R.aA with aA:=R.aS base term}}) (O.to (W:=wA) (Q:=eY)) rr rfl rfl (λ_ z=>z);simp only[go_sem,E,C0,Uu c3];have cp:=u2.2 eY H R.aA.aA _ base (m_ R.aA.aA H) M;rw[<-es]at cp;simp only[fu.aM]at cp;refine gh u2.1 cp ?_;rw[iC];simp only[go_sem,E,C0,c2,q0,lr];refine snd _ _ _ (pW.aA _) ?_ ?_ ?_ ?_ ?_ ?_ ?_ T1<;>simp[fj,h_,q0,q1,C0,C1]
  ·have es:R.aS base term=⟨base,term,[]⟩:=by unfold eZ.aS;rw[Uw (λz=>c3 z.2)]
   have T1:=fy.aH (R':={R with aA:={R.aA with aA:=R.aS base term}}) (O.to (W:=wA) (Q:=eY)) rr rfl rfl (λ_ z=>z);simp only[go_sem,E,C0,Us c3];refine snd _ _ _ (I es) ?_ ?_ ?_ ?_ ?_ ?_ ?_ T1<;>simp[fj,h_,q0,q1,C0,C1]
theorem GY (st:fH):(∀b∈(gT st).1,b∈st.aC)/\(gT st).1.length<=st.aC.length/\(∀b∈(gT st).2.aC,b∈st.aC)/\(gT st).2.aC.length<=st.aC.length:=by
 cases st with
 | none=>exact⟨by simp[gT,fS],by simp[gT,fS],by simp[gT,fS,fH.aC],by simp[gT,fS,fH.aC]⟩
 | some l=>
  unfold gT fS;by_cases c:l.length<8;·simp[c,fH.aC]
  ·simp only[c,Vd];by_cases c2:kb (l.take 8)<0\/((l.drop 8).length:Int)<kb (l.take 8);·rw[Uv c2];simp[fH.aC]
   ·rw[Uw c2];refine⟨λb hb=>UX (U9 hb),?_,λb hb=>UX (UX hb),?_⟩;·show ((l.drop 8).take _).length<=l.length;simp only[UD,UP];omega
    ·show ((l.drop 8).drop _).length<=l.length;simp only[UP];omega
theorem uf.q {P:Program}{f:FuncId}(hc:uf P f):yx P f:=⟨hc.1,λG h l b hb h1 h2=>(hc.2 G h l b hb h1 h2).aC λ_ _ ⟨_,e,h3,h4⟩=>⟨h4,_,e▸gY.aD (gY.aA (fI.fz _ (λ_ x=>x) _ h3)) (gY.aC _ _),rfl⟩⟩
theorem SS {l:List Int}(hb:gI l)(hl:l.length<=2^16):(gI (iH l).1/\(iH l).1.length<=2^16)/\gI (iH l).2.1/\(iH l).2.1.length<=2^16:=by obtain⟨a1,a2,a3,a4⟩:=GY (some l);obtain⟨b1,b2,b3,b4⟩:=GY (gT (some l)).2;have e:fH.aC (some l)=l:=rfl;rw[e]at a1 a2 a3 a4;exact⟨⟨λx hx=>hb x (a1 x hx),by show (gT (some l)).1.length<=_;omega⟩,λx hx=>hb x (a3 x (b1 x hx)),by show (gT (gT (some l)).2).1.length<=_;omega⟩
def yO (P:Program)(f:FuncId):Prop:=fP P f=true/\∀(L:Nat->Nat)(h:eW)(r o:Nat)(x:RX)(k j:Nat)(m:fE)(a:List AV),g_ L h r o x->x.r.aD k->k<=2^28->x.aC j->j+1<2^20->lC L h m a->m.aL->0<=m.aA/\m.aA<=2^40->
 fC P f [.aF [.aC r 21 0 0,.aC o 5 0 0],.aF a] h λ_ h'=>fy wA eY L h r o (x.aR m) h'
theorem Rk {P:Program}{f f1 f2 f3 f4 f5 f6:FuncId}(hf:Is P f (Bc f1 f2 f3 f4 f5 f6))(u1:wg P f1)(u2:sI P f2)(u3:sj P f3)(u4:yx P f4)(u5:Is P f5 qk)(u6:yK P f6):yO P f:=by
 refine⟨hf.2,λL h r o x k j m a hx u hk hj ac hm ab hmi=>fU hf ?_⟩;obtain⟨G,hr,h0⟩:=id hm;obtain⟨e,d,rfl,he,hd⟩:=pP hr;obtain⟨ap1,ap2,a2⟩:=hx.aC;obtain⟨R,out⟩:=x;simp only at u;obtain⟨H,hH⟩:∃H,H=h++[some (e_.aA 2 [[.aC r 21 0 0,.aC o 5 0 0]] false)]++[some (e_.aA 17 [m.aE e d] false)]:=⟨_,rfl⟩;have X1:eV eY h H:=by rw[hH];exact eV.b2 _ _
 have lH:H.length=h.length+2:=by rw[hH];simp
 have C0:H[h.length]?=some (some (e_.aA 2 [[.aC r 21 0 0,.aC o 5 0 0]] false)):=by rw[hH];exact jJ _ _ _
 have C1:H[h.length+1]?=some (some (e_.aA 17 [m.aE e d] false)):=by rw[hH];exact iO _ _ _
 have W:=hx.up X1;have z2:∀m,h.length<=m->¬wA (L m):=λm e=>by rw[hx.ge e];exact jF
 have Z:fm (λn=>G n/\n<h.length) H m.c (m.aE e d):=fm.aA (λ_ y=>y) (X1.aE _) _ _ (fm.lt _ _ hr);obtain⟨g,ff,rr⟩:=W.aA;have I:=rr;have E:=C1;simp only[eZ.aJ]at I;simp only[fE.aE]at E hH;have lr:=(Up.1 rr).1;have q0:(r=h.length)=False:=UO (by omega);have q1:(r=h.length+1)=False:=UO (by omega);have q2:(h.length=r)=False:=UO (by omega);have q3:(h.length+1=r)=False:=UO (by omega);simp only[Bc,go_sem,fE.aE,he.aA,hd.aA];rw[<-hH];clear hH;have ans:∀{B:eW}{L':Nat->Nat}{y H'} (_:fm (λn=>G n/\n<h.length) B m.c (m.aE e d)) (_:∀n,G n->L' n=0) (j:Nat) (ok:Bool) (ix:Int),fy wA eY L' B r o y H'->y.aC j->j<2^20->fC P f1 [.aF [.aC r 21 0 0,.aC o 5 0 0],.aF (m.aE e d),.aE ok,.aA .i64 ix] H' λ_ ae=>fy wA eY L' B r o (y.aS m ok ix) ae:=fun {B L' y H'} hb hl j ok ix T yf hj=>fy.aD (Q':=eY) T (eV.aC _ _) (λ_ _ y=>y) λL1 x1=>(u1.2 L1 H' r o y j m _ (λn=>G n/\n<h.length) ok ix x1 yf hj (fm.aA (λ_ y=>y) (λn hn y hy=>T.aA (by rw[hl n hn.1];exact jF) (λz=>z) hy) _ _ hb)).aA λ_ _ b=>b.aG mO;simp only[fE.aE]at ans Z;simp only[go_sem,I];by_cases c1:m.aA<=R.aE
 ·have ea:(RX.aR ⟨R,out⟩ m)=RX.aS ⟨R,out⟩ m true R.aE:=by unfold RX.aR;rw[Uv c1]
  rw[ea];simp only[go_sem,I,C0,E,Uu c1];refine fA ⟨u1.1,ans Z h0 j true R.aE W.to hj (by omega)⟩ ?_;intro _ H2 T2;rw[iC];simp only[go_sem];exact fy.aC X1 T2
 ·simp only[go_sem,E,Us c1];have ad:Rd (λn=>G n/\n<h.length) H (gj m.aG) d:=Rd.aD (λ_ y=>y) (X1.aE _) _ _ (Rd.lt _ _ hd);have a1:=ab.aA;refine fA ⟨u2.1,u2.2 _ H m.aG d ad a1.1 (by omega)⟩ ?_;rintro _ H2 ⟨q,rfl,hq,S2,X2⟩;have lq:=S2.lt;simp only[go_sem];refine fA ⟨u3.1,u3.2 _ H2 q _ S2 (by omega)⟩ ?_;rintro b1 H3 ⟨o1,S3,X3⟩;simp only[go_sem];refine fA ⟨u3.1,u3.2 _ H3 q _ S3 (by omega)⟩ ?_;rintro b2 H4 ⟨o2,S4,X4⟩;have l2:=X2.1;have l3:=X3.1;have l4:=X4.1;have af:eV (iv q) H2 H4:=X3.aD X4 (λ_ _ z=>z) (λ_ _ z=>z);have XH:eV eY H H4:=⟨by omega,λm hm _=>(af.2 m (by omega) (by show m≠q;omega)).trans (X2.2 m hm (λz=>z))⟩;have a6:eX (gj (gT (some m.aG)).1) (λm=>H.length<=m/\m<q) H4 b1:=eX.aC _ (λ_ y=>y) (λn hn y hy=>(X4.2 n (Up.1 hy).1 (by show n≠q;omega)).trans hy) _ o1;obtain⟨O,a3⟩:=SS a1.1 a1.2;have et:iH m.aG=((gT (some m.aG)).1,(gT (gT (some m.aG)).2).1,(gT (gT (some m.aG)).2).2.aD):=rfl;rw[et]at O a3;simp only at O a3;have D0:=XH.aA C0;have D1:=XH.aA E;have r4:=XH.aA I;simp only[go_sem];refine gh u4.1 (u4.2 (λ_=>True) H4 _ b1 (eX.rd _ (λ_ _=>UF) _ a6) O.1 (by omega)) ?_;obtain⟨cf,M⟩:∃cf,cf=ie (gT (some m.aG)).1:=⟨_,rfl⟩;rw[<-M];simp only[go_sem,fq.aK,rW];have S5:=S4.up (eV.b1 (some (e_.aA 3 [[gG cf.1.aA,gG cf.1.aC,gG cf.1.aD]] false)));have X5:=XH.tr (eV.b1 (some (e_.aA 3 [[gG cf.1.aA,gG cf.1.aC,gG cf.1.aD]] false)));have C5:=gH H4 (some (e_.aA 3 [[gG cf.1.aA,gG cf.1.aC,gG cf.1.aD]] false));have U:=W.up X5;have E0:=X5.aA C0;have E1:=X5.aA E;have a5:Rd (λn=>H.length<=n) (H4++[some (e_.aA 3 [[gG cf.1.aA,gG cf.1.aC,gG cf.1.aD]] false)]) (gj (gT (gT (some m.aG)).2).1) b2:=Rd.aD (λ_ y=>y) ((eV.b1 _).aE _) _ _ (eX.rd _ (λn hn=>hn.1) _ o2);have a9:=fm.aA (λ_ y=>y) (X5.aE _) _ _ Z;have er:(RX.aR ⟨R,out⟩ m)=(if ¬(gT (gT (some m.aG)).2).2.aD=0\/¬cf.2=0 then ⟨R,out⟩ else
    let y:=RX.aW ⟨R,out⟩ m.aA m.aH cf.1 (gT (gT (some m.aG)).2).1
    (⟨{y.r with aE:=m.aA,aH:=m.aA},{y.o with aC:=true}⟩:RX).aS m true m.aA):=by
   unfold RX.aR;rw[Uw c1];simp only[et,<-M]
  have l5:H4.length<(H4++[some (e_.aA 3 [[gG cf.1.aA,gG cf.1.aC,gG cf.1.aD]] false)]).length:=by simp
  generalize hH5:H4++_=H5 at *;refine gh u5.2 (GS u5 S5) ?_;generalize (gT (gT (some m.aG)).2).2.aD=en at *;generalize (gT (gT (some m.aG)).2).1=sn at *;by_cases c2:en=0
  ·by_cases c3:cf.2=0
   ·rw[Uw (by rintro (z | z);exact z c2;exact z c3)]at er;simp only[go_sem,E0,E1,C5,Uu c2,Uu c3,U2];have bs:=u6.2 (λn=>H.length<=n) L H5 r o ⟨R,out⟩ j m.aA m.aH cf.1 _ sn b2 U (u.aC hk) hj (by omega) (fm.aA (F:=eY) (λ_ z=>z.elim) (λ_ hm=>hm.elim) _ _ (vw cf.1 H5)) a5 (λn hn=>hx.ge (by omega)) (by have:=mI (uS (l:=(gT (some m.aG)).1) (by rw[<-M];exact c3));rw[<-M]at this;exact this.le (by decide)) (by omega);refine fA ⟨u6.1,bs⟩ ?_;intro _ H6 T6;obtain⟨g6,f6,r6⟩:=T6.aE;obtain⟨ma,ca,aa,o6,sma,sca,saa⟩:=T6.aN;have M0:=T6.aA (z2 _ (Uy _)) (λy=>y) E0;have M1:=T6.aA (z2 _ (by omega)) (λy=>y) E1;have a7:=(Up.1 r6).1;have a8:=(Up.1 o6).1;have w0:(o=h.length)=False:=UO (by omega);have w1:(o=h.length+1)=False:=UO (by omega);have w2:(h.length=o)=False:=UO (by omega);have w3:(h.length+1=o)=False:=UO (by omega);have w4:(r=o)=False:=UO a2;have w5:(o=r)=False:=UO (λz=>a2 z.symm);obtain⟨y,hy⟩:∃y,y=RX.aW ⟨R,out⟩ m.aA m.aH cf.1 sn:=⟨_,rfl⟩;have yf:y.aC (j+1):=by rw[hy];exact RX.aC.aD (x:=({r:={R with aA:={R.aA with aA:=R.aS m.aA m.aH,aD:=cf.1,aG:=sn}},o:=out}:RX)) hj _
    rw[<-hy]at T6 r6 o6 er;have T7:=fy.aH (R:=y.r) (out:=y.o) (R':={y.r with aE:=m.aA,aH:=m.aA}) T6 r6 rfl rfl (λ_ z=>z);have o7:(H6.set r (some (.aA 21 [({y.r with aE:=m.aA,aH:=m.aA}:eZ).aJ g6 f6] false)))[o]?=some (some (.aA 5 [[ma,ca,aa,.aA .i64 y.o.aE,.aE y.o.aC]] false)):=(Uq (λz=>a2 z)).trans o6;have T8:=fy.aO (n:=y.o.aE) (b:=true) T7 o7 (λ_ z=>z);have a4:=r6;simp only[eZ.aJ]at a4 T8;simp only[go_sem,M0,M1,a4,o6,a7,a8,q0,q1,w0,w1,w4,Vs,UA];have eo:({y.o with aE:=y.o.aE,aC:=true}:kT)={y.o with aC:=true}:=rfl;have an:=ans a9 h0 (j+1) true m.aA T8 yf ac;refine fA ⟨u1.1,an⟩ ?_;intro _ H8 T9;rw[er];simp only[go_sem];exact fy.aC X1 (fy.aC X5 T9)
   ·rw[Uv (.inr c3)]at er;rw[er];simp only[go_sem,Uu c2,Us c3,U2,Vc];exact fy.aC X1 (fy.aC X5 U.to)
  ·rw[Uv (.inl c2)]at er;rw[er];simp only[go_sem,Us c2,Vc];exact fy.aC X1 (fy.aC X5 U.to)
theorem HK {l:List Int}(hb:gI l)(hl:l.length<=2^16):(gI (iH l).1/\(iH l).1.length<=2^16)/\gI (iH l).2.1/\(iH l).2.1.length<=2^16:=by
 have key:∀st:fH,(∀b∈(gT st).1,b∈st.aC)/\(gT st).1.length<=st.aC.length/\(∀b∈(gT st).2.aC,b∈st.aC)/\(gT st).2.aC.length<=st.aC.length:=by
  intro st;cases st with
  | none=>exact⟨by simp[gT,fS],by simp[gT,fS],by simp[gT,fS,fH.aC],by simp[gT,fS,fH.aC]⟩
  | some l=>
   unfold gT fS;by_cases c:l.length<8;·simp[c,fH.aC]
   ·simp only[c,Vd];by_cases c2:kb (l.take 8)<0\/((l.drop 8).length:Int)<kb (l.take 8);·rw[Uv c2];simp[fH.aC]
    ·rw[Uw c2];refine⟨λb hb=>UX (U9 hb),?_,λb hb=>UX (UX hb),?_⟩;·show ((l.drop 8).take _).length<=l.length;simp only[UD,UP];omega
     ·show ((l.drop 8).drop _).length<=l.length;simp only[UP];omega
 obtain⟨a1,a2,a3,a4⟩:=key (some l);obtain⟨b1,b2,b3,b4⟩:=key (gT (some l)).2;have e:fH.aC (some l)=l:=rfl;rw[e]at a1 a2 a3 a4;exact⟨⟨λx hx=>hb x (a1 x hx),by show (gT (some l)).1.length<=_;omega⟩,λx hx=>hb x (a3 x (b1 x hx)),by show (gT (gT (some l)).2).1.length<=_;omega⟩
section
variable {k j:Nat} {x:RX} {m:fE}
theorem eZ.aD.aN {x:eZ}(h:x.aD k):({x with aK:=0}:eZ).aD k:=by obtain⟨g1,g2,g3,g4,g5,g6,g7,g8,g9,g10,M,I,E,u,e⟩:=h;exact⟨g1,g2,g3,g4,g5,g6,g7,g8,g9,⟨UL _,by show (0:Int)<=k;omega⟩,M,I,E,u,e⟩
theorem eZ.aD.bI {x:eZ}(h:x.aD k){v:Int}(hv:hU v):({x with aA:={x.aA with aF:=v}}:eZ).aD k:=by obtain⟨g1,g2,g3,g4,g5,g6,g7,g8,g9,O,M,I,E,u,e⟩:=h;exact⟨g1,g2,g3,g4,g5,g6,g7,⟨g8.1,hv,g8.2.2⟩,g9,O,M,I,E,u,e⟩
theorem JD (h:x.r.aD k)(hj:x.aC j)(hm:m.aL):(x.aQ m).r.aD k/\(x.aQ m).aC (j+2):=by
 have e:x.aQ m=(if mo x.r.aA.aC x.r.aA.aF x.r.aA.aA m then (let z:RX:={x with r:={x.r with aK:=0}};if z.r.aA.aF=m.aC then z else z.aI z.r.aA.aC m.aC) else x).aK {fE.aI with aD:=2,to:=m.aC,ok:=mo x.r.aA.aC x.r.aA.aF x.r.aA.aA m}:=rfl;rw[e];split
 ·simp only;split;·exact⟨h.aN,(RX.aC.aC (x:={x with r:={x.r with aK:=0}}) hj _).aA (by omega)⟩
  ·exact⟨h.aN.bI hm.aC.1,(RX.aC.aD (x:={x with r:={x.r with aK:=0,aA:={x.r.aA with aC:=x.r.aA.aC,aF:=m.aC}}}) hj _).aC _⟩
 ·exact⟨h,(hj.aC _).aA (by omega)⟩
theorem TR (h:x.r.aD k)(hk:k<2^28)(hj:x.aC j):(x.aU m).r.aD (k+2)/\(x.aU m).aC (j+22):=by
 unfold RX.aU;split;·exact⟨h.aA (by omega),hj.aA (by omega)⟩
 ·have f:({x.r with aI:=x.r.aI++[m.aC]}:eZ).aD (k+1):=by obtain⟨g1,g2,g3,g4,g5,g6,g7,g8,g9,M,I,E,g13,u,e⟩:=h.aA (V4 k);have:=h.aY;exact⟨g1,g2,g3,g4,g5,g6,g7,g8,g9,M,I,E,by show (x.r.aI++[m.aC]).length<=k+1+1;simp;omega,u,e⟩
  simp only;split;·exact⟨eZ.aD.bz (x:={x with r:={x.r with aI:=x.r.aI++[m.aC]}}) f (by omega),RX.aC.aG (x:={x with r:={x.r with aI:=x.r.aI++[m.aC]}}) f (by omega) hj⟩
  ·exact⟨f.aA (by omega),RX.aC.aA (x:={x with r:={x.r with aI:=x.r.aI++[m.aC]}}) hj (by omega)⟩
theorem fR.aH.aD {w:fR}(h:w.aH)(m:fE)(hi:0<=m.aA/\m.aA<=2^40):(w.aF m).aH:=by
 obtain⟨h1,⟨h2,h3⟩,h4,h5⟩:=h;unfold fR.aF;split
 ·split;·exact⟨h1,⟨by show 0<=max w.aC (max w.aE m.aA+1);omega,by show max w.aC (max w.aE m.aA+1)<=_;omega⟩,by show 0<=max w.aE m.aA;omega,by show max w.aE m.aA<=_;omega⟩
  ·exact⟨h1,⟨by show 0<=max (w.aE+1) (min (w.aC-1) (m.aA+1));omega,by show max (w.aE+1) (min (w.aC-1) (m.aA+1))<=_;omega⟩,h4,h5⟩
 ·exact⟨h1,⟨h2,h3⟩,h4,h5⟩
theorem eZ.aD.bG {x:eZ}(h:x.aD k)(i:Nat){w:fR}(hw:w.aH):({x with aC:=x.aC.set i w}:eZ).aD k:=by
 obtain⟨g1,g2,g3,g4,g5,g6,g7,g8,g9,O,M,I,E,e,u⟩:=h;refine⟨g1,g2,g3,g4,g5,g6,g7,g8,g9,O,M,I,E,⟨by show (x.aC.set i w).length<=21;rw[UA];exact e.1,λy hy=>?_⟩,u⟩;rcases Wj hy with z | z;·exact e.2 y z
 ·rw[z];exact hw
theorem MG (h:x.r.aD k)(hj:x.aC j)(hi:0<=m.aA/\m.aA<=2^40):(x.aP m).r.aD k/\(x.aP m).aC (j+1):=by
 unfold RX.aP;split;·exact⟨h,hj.aA (by omega)⟩
 ·split;·exact⟨h,hj.aA (by omega)⟩
  ·rename_i i E;have u:i<x.r.aC.length:=by unfold tg at E;exact (List.findIdx?_eq_some_iff_getElem.1 E).1
   have ww:=(h.aE.2 _ (UT u)).aD m hi;have e:(x.r.aC[i]?).getD ⟨0,0,0,0⟩=x.r.aC[i]:=by rw[Ur u];rfl
   rw[e];have f:=h.bG i ww;simp only;split<;>split<;>first
    | exact⟨f.aQ,(RX.aC.aC (x:=RX.aH {x with r:={x.r with aC:=x.r.aC.set i (x.r.aC[i].aF m)}}) hj _)⟩
    | exact⟨f,(RX.aC.aC (x:={x with r:={x.r with aC:=x.r.aC.set i (x.r.aC[i].aF m)}}) hj _)⟩
    | exact⟨f.aQ,RX.aC.aA (x:=RX.aH {x with r:={x.r with aC:=x.r.aC.set i (x.r.aC[i].aF m)}}) hj (V4 j)⟩
    | exact⟨f,RX.aC.aA (x:={x with r:={x.r with aC:=x.r.aC.set i (x.r.aC[i].aF m)}}) hj (V4 j)⟩
theorem Jv (h:x.r.aD k)(hj:x.aC j)(hm:m.aL)(hi:0<=m.aA/\m.aA<=2^40):(x.aJ m).r.aD (k+200)/\(x.aJ m).aC (j+2):=by
 unfold RX.aJ;split;·exact⟨h.aA (by omega),(RX.aC.aC hj _).aA (by omega)⟩
 ·split;·exact⟨h.aA (by omega),(RX.aC.aC hj _).aA (by omega)⟩
  ·rename_i c1 c2;simp only;have hp:x.r.aA.aA.aF m.aA=true:=by
    cases e:x.r.aA.aA.aF m.aA with
    | false=>exact absurd (.inl e) c2
    | true=>rfl
   split;·exact⟨h.aA (by omega),hj.aA (by omega)⟩
   ·rename_i c3;have hb:=h.aD;by_cases c4:0<x.r.aA.aA.aH m.aA m.es;·rw[Uv c4];obtain⟨f,el⟩:=h.aZ hm hi hp (by omega);have fc:=f.aR;refine⟨f.a_ (c:=max x.r.aE (min m.aJ (m.aA+m.es.length))) (by show x.r.aE<=_;omega) (by show _<=(x.r.aA.aA.aE m.aA m.es).aC;rw[el];have:=fc.2.2;have e3:x.r.aE<=(x.r.aA.aA.aE m.aA m.es).aC:=this;omega),?_⟩;exact (RX.aC.aD (x:={x with r:={x.r with aA:={x.r.aA with aA:=x.r.aA.aA.aE m.aA m.es}}}) hj _).aC _
    ·rw[Uw c4];have h0:x.r.aA.aA.aH m.aA m.es=0:=by
      unfold fu.aH at c4 ⊢;split at c4;·have h1:=lL.1 hp;omega
      ·rename_i c;rw[Uw c]
     have hl:=fu.aO hb.1 hp h0;have:=h.aR;exact⟨(h.a_ (c:=max x.r.aE (min m.aJ (m.aA+m.es.length))) (by omega) (by omega)).aA (by omega),(RX.aC.aC (x:={x with r:={x.r with aE:=max x.r.aE (min m.aJ (m.aA+m.es.length))}}) hj _).aA (by omega)⟩
theorem QD (h:x.r.aD k)(hj:x.aC j)(hm:m.aL)(hi:0<=m.aA/\m.aA<=2^40):(x.aR m).r.aD k/\(x.aR m).aC (j+2):=by
 unfold RX.aR;split;·exact⟨h,(RX.aC.aC hj _).aA (by omega)⟩
 ·simp only;split;·exact⟨h,hj.aA (by omega)⟩
  ·rename_i c1 c2;obtain⟨tb1,e⟩:=HK hm.aA.1 hm.aA.2;have hc:(ie (iH m.aG).1).2=0:=UC λz=>c2 (.inr z);obtain⟨s1,s2,s3,s4,s5,s6,s7⟩:=HA h ⟨hi.1,by omega⟩ hm.aC.2;exact⟨h.bD (c:=m.aA) (a:=m.aA) ⟨hi.1,by omega⟩ hm.aC.2 (uS hc) e ⟨UL _,UL _,s6⟩,
    RX.aC.aC (x:=(⟨{(x.aW m.aA m.aH (ie (iH m.aG).1).1 (iH m.aG).2.1).r with aE:=m.aA,aH:=m.aA},{(x.aW m.aA m.aH (ie (iH m.aG).1).1 (iH m.aG).2.1).o with aC:=true}⟩:RX)) (RX.aC.aD (x:={x with r:={x.r with aA:={x.r.aA with aA:=x.r.aS m.aA m.aH,aD:=(ie (iH m.aG).1).1,aG:=(iH m.aG).2.1}}}) hj _) _⟩
def RX.aG (x:RX)(m:fE):RX:=if x.r.aA.aC<m.aF then (x.aI m.aF 0).aL 0 else x
theorem CP (h:x.r.aD k)(hj:x.aC j)(hm:m.aL):(x.aG m).r.aD k/\(x.aG m).aC (j+1)/\(x.aG m).r.aA.aA=x.r.aA.aA/\(x.aG m).r.aA.aD=x.r.aA.aD/\(x.aG m).r.aA.aE=x.r.aA.aE/\(x.aG m).r.aE=x.r.aE:=by
 unfold RX.aG;split;·rename_i c;have ht:=h.aF;refine⟨(h.aW (t:=m.aF) (v:=0) ⟨by omega,hm.aF⟩ ⟨by omega,by omega⟩).aJ 0,?_,rfl,rfl,rfl,rfl⟩;exact RX.aC.aD (x:={x with r:={x.r with aA:={x.r.aA with aC:=m.aF,aF:=0}}}) hj _
 ·exact⟨h,hj.aA (by omega),rfl,rfl,rfl,rfl⟩
def RX.aY (y:RX)(m:fE):RX:=
 if m.aD=1 then y.aQ m else if m.aD=2 then y.aU m else if m.aD=4 then y.aP m
 else if y.r.aG=2 then y else
  let z:RX:={y with r:={y.r.aW m.aC with aK:=0}}
  if m.aD=3 then z.aJ m else z.aR m
theorem vF (x:RX)(m:fE):x.aT m=if ¬m.aM=x.r.aA.aE\/m.aD<1\/5<m.aD\/(m.aD=1/\x.r.aZ m.aC=false) then x else
 if m.aF<(x.aG m).r.aA.aC then
  (if m.aD=1 then (x.aG m).aK {fE.aI with aD:=2,to:=m.aC} else if m.aD=3\/m.aD=5 then (x.aG m).aK {fE.aI with aD:=4,to:=m.aC} else x.aG m)
 else (x.aG m).aY m:=rfl
theorem Sz (h:x.r.aD k)(hk:k<2^28)(hj:x.aC j)(hm:m.aL)(h1:1<=m.aD/\m.aD<=5):(x.aY m).r.aD (k+200)/\(x.aY m).aC (j+22):=by
 unfold RX.aY;split;·obtain⟨a,b⟩:=JD h hj hm;exact⟨a.aA (by omega),b.aA (by omega)⟩
 ·split;·obtain⟨a,b⟩:=TR (m:=m) h hk hj;exact⟨a.aA (by omega),b.aA (by omega)⟩
  ·split;·obtain⟨a,b⟩:=MG h hj (hm.aD (by omega));exact⟨a.aA (by omega),b.aA (by omega)⟩
   ·split;·exact⟨h.aA (by omega),hj.aA (by omega)⟩
    ·simp only;split;·obtain⟨a,b⟩:=Jv (x:={x with r:={x.r.aW m.aC with aK:=0}}) (h.aJ m.aC).aN hj hm (hm.aD (by omega));exact⟨a,b.aA (by omega)⟩
     ·obtain⟨a,b⟩:=QD (x:={x with r:={x.r.aW m.aC with aK:=0}}) (h.aJ m.aC).aN hj hm (hm.aD (by omega));exact⟨a.aA (by omega),b.aA (by omega)⟩
theorem CM (h:x.r.aD k)(hk:k<2^28)(hj:x.aC j)(hm:m.aL):(x.aT m).r.aD (k+200)/\(x.aT m).aC (j+23):=by
 rw[vF];split;·exact⟨h.aA (by omega),hj.aA (by omega)⟩
 ·rename_i c;obtain⟨t1,t2,-⟩:=CP h hj hm;split
  ·split;·exact⟨t1.aA (by omega),(RX.aC.aC t2 _).aA (by omega)⟩
   ·split;·exact⟨t1.aA (by omega),(RX.aC.aC t2 _).aA (by omega)⟩
    ·exact⟨t1.aA (by omega),t2.aA (by omega)⟩
  ·exact Sz t1 hk t2 hm ⟨by omega,by omega⟩
theorem xe (h:x.r.aD k):x.aA.r.aD k/\x.aA.o.aD=x.o.aD/\x.aA.o.aA=x.o.aA:=by
 have f:x.r.aT.aD k:=by unfold eZ.aT;split;exact h.aJ 0;exact h
 unfold RX.aA;simp only;split;·exact⟨f,rfl,rfl⟩
 ·refine⟨?_,rfl,rfl⟩;obtain⟨g1,g2,g3,g4,g5,g6,g7,g8,g9,O,M,I,E,u,e⟩:=f;exact⟨g1,g2,g3,g4,g5,g6,g7,g8,⟨Wa g9.1 g9.2.1,UL _,g9.2.2⟩,O,M,I,E,u,e⟩
theorem HD (h:x.r.aD k)(hk:k<2^28)(hj:x.aC j)(ht:x.r.aA.aC<2^40)(u:Int):(x.aV u).r.aD (k+1)/\(x.aV u).aC (j+23):=by
 have h0:=h.aF;have f:=(h.aW (t:=x.r.aA.aC+1) (v:=x.r.id) ⟨by omega,by omega⟩ ⟨by have:=h.id;omega,by have:=h.id;omega⟩).aJ 0;obtain⟨z,hz⟩:∃z:RX,z={(x.aI (x.r.aA.aC+1) x.r.id).aL 0 with r:={((x.aI (x.r.aA.aC+1) x.r.id).aL 0).r with aG:=1,aK:=0,aY:=lZ u,aI:=[((x.aI (x.r.aA.aC+1) x.r.id).aL 0).r.id]}}:=⟨_,rfl⟩;have e:x.aV u=if z.r.aN.aF z.r.aI then z.aN else z.aM (kj z.r.id z.r.aA.aE z.r.aA.aC z.r.aA.aA z.r.aN):=by rw[hz];rfl
 have zf:z.r.aD k:=by rw[hz];obtain⟨g1,g2,g3,g4,g5,g6,g7,g8,g9,g10,O,M,g13,I,E⟩:=f;exact⟨g1,g2,g3,g4,g5,g6,g7,g8,g9,⟨UL _,by show (0:Int)<=k;omega⟩,O,M,by show [_].length<=k+1;simp,I,E⟩
 have zw:z.aC (j+1):=by rw[hz];exact RX.aC.aD (x:={x with r:={x.r with aA:={x.r.aA with aC:=x.r.aA.aC+1,aF:=x.r.id}}}) hj _
 rw[e];split;·exact⟨zf.bz (by omega),zw.aG zf (by omega)⟩
 ·have hl:(kj z.r.id z.r.aA.aE z.r.aA.aC z.r.aA.aA z.r.aN).length<=21:=UH (Ej _ _ _ _ _) (UH (xS zf.aP) (by omega));obtain⟨a,-,-⟩:=CG (kj z.r.id z.r.aA.aE z.r.aA.aC z.r.aA.aA z.r.aN) z;exact⟨by rw[a];exact zf.aA (by omega),(zw.aH hl).aA (by omega)⟩
end
theorem mV (r:eZ):r.aF.aC 0:=⟨Uy _,Uy _⟩
theorem Cj {k j:Nat}{x:RX}(h:x.r.aD k)(hj:x.aC j):x.on.r.aD k/\x.on.aC (j+21):=⟨by show (RX.aO _ _).r.aD k;rw[(pG _ _).1];exact h,hj.aF h.aE.1⟩
theorem eZ.bF {k:Nat}{x:eZ}(h:x.aD k)(hk:k+2<2^28)(M:Int):(x.aQ M).r.aD (k+2):=by
 unfold eZ.aQ;split
 ·refine (xe ?_).1;have hb:=h.bw;split
  ·have f:({x with aO:=0}:eZ).aD k:=by obtain⟨g1,g2,g3,g4,g5,g6,g7,g8,g9,O,U,I,E,u,e⟩:=h;exact⟨g1,g2,g3,g4,g5,g6,g7,g8,g9,O,⟨UL _,by show (0:Int)<=1;omega⟩,I,E,u,e⟩
   exact (Cj (x:=({x with aO:=0}:eZ).aF) f (mV _)).1.aA (by omega)
  ·rename_i c;obtain⟨g1,g2,g3,g4,g5,g6,g7,g8,g9,O,U,I,E,u,e⟩:=h.aA (show k<=k+2 by omega);exact⟨g1,g2,g3,g4,g5,g6,g7,g8,g9,O,⟨by show 0<=x.aO+1;omega,by show x.aO+1<=1;omega⟩,I,E,u,e⟩
 ·simp only;have f:({x with aK:=x.aK+1}:eZ).aD (k+1):=by have he:=h.aX;obtain⟨g1,g2,g3,g4,g5,g6,g7,g8,g9,O,U,I,E,u,e⟩:=h.aA (V4 k);exact⟨g1,g2,g3,g4,g5,g6,g7,g8,g9,⟨by show 0<=x.aK+1;omega,by show x.aK+1<=((k+1:Nat):Int);omega⟩,U,I,E,u,e⟩
  refine (xe ?_).1;split;·rename_i c;exact (HD (x:=({x with aK:=x.aK+1}:eZ).aF) f (by omega) (mV _) c.2.2.1 M).1
  ·exact f.aA (by omega)
theorem eZ.bG {k:Nat}{x:eZ}(h:x.aD k)(hk:k<2^28){m:fE}(hm:m.aL):(x.a_ m).r.aD (k+200):=(xe (Glb.CM (x:=x.aF) h hk (mV _) hm).1).1
def DC.aE:DC->AC->DC
 | .aD a d,r=>.aD a (d.aE r)
 | .aC o g xs _,r=>.aC o g xs r
def DC.aA:DC->AC
 | .aD _ d=>d.aA
 | .aC _ _ _ r=>r
theorem DC.aI (a:AC)(d:DC)(r:AC):(DC.aD a d).aE r=.aD a (d.aE r):=rfl
theorem DC.aH (o:List AO)(g:FuncId)(xs:List fB)(x r:AC):(DC.aC o g xs x).aE r=.aC o g xs r:=rfl
theorem DC.aG (a:AC)(d:DC):(DC.aD a d).aA=d.aA:=rfl
theorem DC.aF (o:List AO)(g:FuncId)(xs:List fB)(x:AC):(DC.aC o g xs x).aA=x:=rfl
structure iN (L:Nat->Nat)(h:eW)(r:Nat)(x:eZ):Prop where
 r:∃g f,nQ L h r x g f
 aA:∀m,L m≠0->m<h.length/\(L m=1\/L m=2\/L m=6)
def jT (L:Nat->Nat)(h:eW)(r:Nat)(x:RX)(v:AV)(h':eW):Prop:=∃L' o ma ca aa,v=.aF [ma,ca,aa,.aA .i64 x.o.aE,.aE x.o.aC]/\(∃g f,nQ L' h' r x.r g f)/\pf L' h' o x.o ma ca aa/\(∀m,L' m≠0->m<h'.length)/\h.length<=o /\
 (∀m,m<h.length->L' m=L m)/\eV (λm=>wA (L m)) h h'
theorem iN.aD {L h r x h0 o}(a:iN L h r x)(hx:eV eY h h0) (ho:h0[o]?=some (some (.aA 5 [[.aD,.aD,.aD,.aA .i64 0,.aE false]] false))) (hlo:h.length<=o):g_ (λm=>if m=o then 7 else L m) h0 r o x.aF:=by
 obtain⟨⟨g,f,ra⟩,lab⟩:=a;have hl:=hx.1;have e:∀m,m<h.length->(if m=o then 7 else L m)=L m:=λm hm=>Uw (by omega);refine⟨⟨g,f,ra.aC (λm hm _=>e m hm) λm hm _=>hx.2 m hm (λy=>y)⟩,⟨.aD,.aD,.aD,ho,eX.aD 17,UF,eX.aD 17,UF,eX.aD 3,Uv rfl⟩,λm hm=>?_⟩;by_cases c:m=o;·rw[c];exact (Up.1 ho).1
 ·simp only[Uw c]at hm;have:=(lab m hm).1;omega
theorem iN.lt {L h r x}(a:iN L h r x):r<h.length:=let⟨_,_,ra⟩:=a.r;(a.aA r (by rw[ra.lr];omega)).1
theorem iN.ge {L h r x}(a:iN L h r x){m:Nat}(hm:h.length<=m):L m=0:=UC λz=>by have:=(a.aA m z).1;omega
theorem fy.aJ {L h r x h0 o X h'}(a:iN L h r x)(hx:eV eY h h0)(u:h.length<=o)(T:fy wA eY (λm=>if m=o then 7 else L m) h0 r o X h'):
  ∃ma ca aa,h'[o]?=some (some (.aA 5 [[ma,ca,aa,.aA .i64 X.o.aE,.aE X.o.aC]] false))/\ma.aH=true/\ca.aH=true/\aa.aH=true/\jT L h r X (.aF [ma,ca,aa,.aA .i64 X.o.aE,.aE X.o.aC]) h':=by
 obtain⟨L1,x1,l1,e1⟩:=T;obtain⟨ma,ca,aa,oa⟩:=x1.o;have hl:=hx.1;have e:∀m,m<h.length->(if m=o then 7 else L m)=L m:=λm hm=>Uw (by omega);refine⟨ma,ca,aa,oa.aA,oa.m.aA,oa.c.aA,oa.a.aA,L1,o,ma,ca,aa,rfl,x1.r,oa,x1.lt,u,λm hm=>(l1 m (by omega) (.inr (λz=>z))).trans (e m hm),?_⟩;refine⟨by have:=e1.1;omega,λm hm hn=>(e1.2 m (by omega) ?_).trans (hx.2 m hm (λz=>z))⟩;rintro (z | z);·exact hn (by have z':wA (if m=o then 7 else L m):=z;rw[e m hm]at z';exact z')
 ·exact z
theorem lC.aA {L h r x m a h0 o}(hm:lC L h m a)(ha:iN L h r x)(hx:eV eY h h0)(hlo:h.length<=o):lC (λm=>if m=o then 7 else L m) h0 m a:=by obtain⟨G,hr,e⟩:=hm;exact⟨λn=>G n/\n<h.length,fm.aA (λ_ y=>y) (hx.aE _) _ _ (fm.lt _ _ hr),λn hn=>by show (if n=o then 7 else L n)=0;rw[Uw (by have:=hn.2;omega)];exact e n hn.1⟩
def yQ (P:Program)(f:FuncId):Prop:=fP P f=true/\∀(L:Nat->Nat)(h:eW)(r:Nat)(x:eZ)(k:Nat)(m:fE)(a:List AV),iN L h r x->x.aD k->k+200<=2^28->lC L h m a->m.aL->
 fC P f [.aC r 21 0 0,.aF a] h λv h'=>jT L h r (x.a_ m) v h'
theorem Rp {P:Program}{f f1 f2 f3 f4 f5 f6 f7 f8 f9 f10 f11:FuncId}(hf:vW P f (jC f1 f2 f3 f4 f5 f6 f7 f8 f9 f10 f11))(u1:r_ P f1)(u2:wh P f2)(u3:uD P f3)(u4:uC P f4)(u5:qO P f5)(u6:qW P f6)
  (u7:yJ P f7) (u8:yR P f8) (u9:yM P f9) (af:yI P f10) (ae:yO P f11):yQ P f:=by
 refine⟨hf.1,λL h r x k m a hx a1 hk hm a6=>Fj hf.2 (Vx rfl) ?_⟩;show oM P (jC f1 f2 f3 f4 f5 f6 f7 f8 f9 f10 f11).aA ⟨[(0,.aC r 21 0 0),(1,.aF a)],[],h⟩ (qg P (jC f1 f2 f3 f4 f5 f6 f7 f8 f9 f10 f11).aC _);obtain⟨G,hr,h0⟩:=id hm;obtain⟨e,d,rfl,he,hd⟩:=pP hr;have M:∀(o n5:Nat)(L0:Nat->Nat)(H H':eW)(Le:fV),o=h.length+1->h.length+2<=n5->L0=(λm=>if m=o then 7 else L m)->eV eY h H->g_ L0 H r o x.aF->lC L0 H m (m.aE e d)->
   H[h.length]?=some (some (e_.aA 17 [m.aE e d] false))->H[n5]?=some (some (e_.aA 2 [[.aC r 21 0 0,.aC o 5 0 0]] false))->lk 0 Le=.aC r 21 0 0->lk 3 Le=.aC h.length 17 0 0->lk 4 Le=.aC o 5 0 0->lk 5 Le=.aC n5 2 0 0->
   ¬(¬m.aM=x.aF.r.aA.aE\/m.aD<1\/5<m.aD\/(m.aD=1/\x.aF.r.aZ m.aC=false))->fy wA eY L0 H r o (x.aF.aG m) H'->
   vc P (jC f1 f2 f3 f4 f5 f6 f7 f8 f9 f10 f11).aA.aA.tl.tl ⟨Le,[],H'⟩ (qg P (jC f1 f2 f3 f4 f5 f6 f7 f8 f9 f10 f11).aC (λv h'=>jT L h r (x.a_ m) v h') f2 [.aF [.aC r 21 0 0,.aC o 5 0 0]]):=by
  intro o n5 L0 H H' Le ho a5 a2 X I O B0 B5 k0 k3 k4 k5 a7 T;have zL:∀n,h.length<=n->n≠o->¬wA (L0 n):=λn hn ab=>by rw[a2];show ¬wA (if n=o then 7 else L n);rw[Uw ab,hx.ge hn];exact jF
  have fin:∀(Le:fV)(H':eW)(y:RX),x.aF.aT m=y->lk 4 Le=.aC o 5 0 0->fy wA eY L0 H r o y H'->
    ta P f2 [.aF [.aC r 21 0 0,.aC o 5 0 0]] H' (tG (jC f1 f2 f3 f4 f5 f6 f7 f8 f9 f10 f11).aC Le λv h'=>jT L h r (x.a_ m) v h'):=by
   intro Le H' y ey k4 T;have yf:=(CM (x:=x.aF) (m:=m) a1 (by omega) (mV _) a6).1;rw[ey]at yf;obtain⟨L1,x1,l1,e1⟩:=T;refine BJ ⟨u2.1,u2.2 L1 H' r o y (k+200) x1 yf (by omega)⟩ ?_;intro _ ad T2;have T3:=fy.aF l1 e1 (λ_ _ y=>y) T2;have es:x.a_ m=y.aA:=by show (x.aF.aT m).aA=_;rw[ey]
   rw[a2]at T3;obtain⟨ma,ca,aa,row,s1,s2,s3,out⟩:=T3.aJ hx X (by omega);rw[es];simp only[jC,go_sem,k4,row];exact out
  obtain⟨t1,t2,t3,t4,t5,t6⟩:=CP (x:=x.aF) (m:=m) a1 (mV _) a6;have E:x.aF.aT m=if m.aF<(x.aF.aG m).r.aA.aC then
    (if m.aD=1 then (x.aF.aG m).aK {fE.aI with aD:=2,to:=m.aC} else if m.aD=3\/m.aD=5 then (x.aF.aG m).aK {fE.aI with aD:=4,to:=m.aC} else x.aF.aG m)
   else (x.aF.aG m).aY m:=by rw[vF,Uw a7]
  have k15:1<=m.aD/\m.aD<=5:=by
   constructor;·exact UC λz=>a7 (.inr (.inl (by omega)))
   ·exact UC λz=>a7 (.inr (.inr (.inl (by omega))))
  have u:=fin;simp only[jC]at u;clear fin;generalize x.aF.aG m=y at *;have D0:=T.aA (zL _ (Uy _) (by omega)) (λz=>z) B0;have D5:=T.aA (zL _ (by omega) (by omega)) (λz=>z) B5;obtain⟨g,ff,rr⟩:=T.aE;have Z:=rr;simp only[eZ.aJ]at Z;simp only[fE.aE]at D0;have a8:∀(kd:Int),fC P f6 [.aF [.aC r 21 0 0,.aC o 5 0 0],.aF (({fE.aI with aD:=kd,to:=m.aC}:fE).aE .aD .aD)] H' λ_ ad=>fy wA eY L0 H r o (y.aK {fE.aI with aD:=kd,to:=m.aC}) ad:=λkd=>fy.aD (Q':=eY) T (eV.aC _ _) (λ_ _ y=>y) λL1 x1=>(u6.2 eY L1 H' r o y {fE.aI with aD:=kd,to:=m.aC} .aD .aD x1 (eX.aD 3) (eX.aD 1) (λ_ z=>z.elim) (rD t2.1 (by omega) 168 (by omega))).aA λ_ _ b=>b.aG mO;have s2:=a8 2;have s4:=a8 4;simp only[fE.aE,fE.aI]at s2 s4;have lr:=(Up.1 rr).1;simp only[jC,DC.aG,DC.aF,AC.aD,go_sem,k0,k3,D0,Z];have use:∀{g:FuncId}{y':RX}{Le:fV}{H2:eW}(_:fP P g=true),True:=λ_=>UF;by_cases c1:m.aF<y.r.aA.aC
  ·rw[Uv c1]at E;simp only[go_sem,k3,D0,Uu c1];by_cases c2:m.aD=1;·rw[Uv c2]at E;simp only[go_sem,k3,k5,D0,D5,Uu c2];refine fA ⟨u6.1,s2⟩ ?_;intro _ H2 T2;simp only[go_sem];exact u _ H2 _ E (by simp[fj,k4]) T2
   ·rw[Uw c2]at E;simp only[go_sem,Us c2];by_cases c3:m.aD=3;·rw[Uv (.inl c3)]at E;simp only[go_sem,k3,k5,D0,D5,Uu c3];refine fA ⟨u6.1,s4⟩ ?_;intro _ H2 T2;simp only[go_sem];exact u _ H2 _ E (by simp[fj,k4]) T2
    ·simp only[go_sem,Us c3];by_cases c4:m.aD=5;·rw[Uv (.inr c4)]at E;simp only[go_sem,k3,k5,D0,D5,Uu c4];refine fA ⟨u6.1,s4⟩ ?_;intro _ H2 T2;simp only[go_sem];exact u _ H2 _ E (by simp[fj,k4]) T2
     ·rw[Uw (by rintro (z | z);exact c3 z;exact c4 z)]at E;simp only[go_sem,Us c4];exact u _ H' _ E (by simp[fj,k4]) T
  ·rw[Uw c1]at E;have et:y.aY m=if m.aD=1 then y.aQ m else if m.aD=2 then y.aU m else if m.aD=4 then y.aP m
    else if y.r.aG=2 then y else
     let z:RX:={y with r:={y.r.aW m.aC with aK:=0}}
     if m.aD=3 then z.aJ m else z.aR m:=rfl
   rw[et]at E;simp only[go_sem,k3,D0,Us c1];have q7:=fy.aI T O jF λL1 x1 m1=>u7.2 L1 H' r o y k 1 m _ x1 t1 (by omega) t2 (by omega) m1;have q8:=fy.aI T O jF λL1 x1 m1=>u8.2 L1 H' r o y k 1 m _ x1 t1 (by omega) t2 (by omega) m1;simp only[fE.aE]at q7 q8;by_cases c2:m.aD=1;·rw[Uv c2]at E;simp only[go_sem,k3,k5,D0,D5,Uu c2];refine fA ⟨u7.1,q7⟩ ?_;intro _ H2 T2;simp only[go_sem];exact u _ H2 _ E (by simp[fj,k4]) T2
   ·rw[Uw c2]at E;simp only[go_sem,Us c2];by_cases c3:m.aD=2;·rw[Uv c3]at E;simp only[go_sem,k3,k5,D0,D5,Uu c3];refine fA ⟨u8.1,q8⟩ ?_;intro _ H2 T2;simp only[go_sem];exact u _ H2 _ E (by simp[fj,k4]) T2
    ·rw[Uw c3]at E;simp only[go_sem,Us c3];have ac:=a6.aD (by omega);by_cases c4:m.aD=4;·rw[Uv c4]at E;simp only[go_sem,k3,k5,D0,D5,Uu c4];have q9:=fy.aI T O jF λL1 x1 m1=>u9.2 L1 H' r o y k 1 m _ x1 t1 (by omega) t2 (by omega) m1 ac;simp only[fE.aE]at q9;refine fA ⟨u9.1,q9⟩ ?_;intro _ H2 T2;simp only[go_sem];exact u _ H2 _ E (by simp[fj,k4]) T2
     ·rw[Uw c4]at E;simp only[go_sem,k0,Z,Us c4];by_cases c5:y.r.aG=2;·rw[Uv c5]at E;simp only[go_sem,Uu c5];exact u _ H' _ E (by simp[fj,k4]) T
      ·rw[Uw c5]at E;simp only[go_sem,k0,k3,D0,Us c5];have fl:=fy.aD (Q':=eY) T (eV.aC _ _) (λ_ _ y=>y) λL1 x1=>u5.2 L1 H' r o y m.aC x1;refine fA ⟨u5.1,fl⟩ ?_;intro _ H2 T2;have ef:y.aL m.aC=⟨y.r.aW m.aC,y.o⟩:=rfl;rw[ef]at T2;have E0:=T2.aA (zL _ (Uy _) (by omega)) (λz=>z) B0;have E5:=T2.aA (zL _ (by omega) (by omega)) (λz=>z) B5;simp only[fE.aE]at E0;have hlr:=hx.lt;have w0:(r=h.length)=False:=UO (by omega);have w5:(r=n5)=False:=UO (by omega);obtain⟨g2,ff2,r2⟩:=T2.aE;have ak:=(Up.1 r2).1;have T3:=fy.aH (R:=y.r.aW m.aC) (out:=y.o) (R':={y.r.aW m.aC with aK:=0}) T2 r2 rfl rfl (λ_ z=>z);have ag:=r2;simp only[eZ.aJ]at ag T3;simp only[go_sem,k0,k3,ag,ak,w0,E0];generalize hH3:H2.set r _=H3 at *;have M0:=T3.aA (zL _ (Uy _) (by omega)) (λz=>z) B0;have M5:=T3.aA (zL _ (by omega) (by omega)) (λz=>z) B5;simp only[fE.aE]at M0;have zf:({y.r.aW m.aC with aK:=0}:eZ).aD k:=(t1.aJ m.aC).aN;have zw:(⟨{y.r.aW m.aC with aK:=0},y.o⟩:RX).aC 1:=t2;by_cases c6:m.aD=3
       ·have E:x.aF.aT m=RX.aJ ⟨{y.r.aW m.aC with aK:=0},y.o⟩ m:=by rw[E];exact Uv c6
        simp only[go_sem,k3,k5,M0,M5,Uu c6];have ai:=fy.aI T3 O jF λL1 x1 m1=>af.2 L1 H3 r o _ k 1 m _ x1 zf (by omega) zw (by omega) m1 a6 ac;simp only[fE.aE]at ai;refine fA ⟨af.1,ai⟩ ?_;intro _ H4 T4;simp only[go_sem];exact u _ H4 _ E (by simp[fj,k4]) T4
       ·have E:x.aF.aT m=RX.aR ⟨{y.r.aW m.aC with aK:=0},y.o⟩ m:=by rw[E];exact Uw c6
        simp only[go_sem,k3,k5,M0,M5,Us c6];have ah:=fy.aI T3 O jF λL1 x1 m1=>ae.2 L1 H3 r o _ k 1 m _ x1 zf (by omega) zw (by omega) m1 a6 ac;simp only[fE.aE]at ah;refine fA ⟨ae.1,ah⟩ ?_;intro _ H4 T4;simp only[go_sem];exact u _ H4 _ E (by simp[fj,k4]) T4
 have W:∀(o n5:Nat)(L0:Nat->Nat)(H:eW)(Le:fV),o=h.length+1->h.length+2<=n5->L0=(λm=>if m=o then 7 else L m)->eV eY h H->g_ L0 H r o x.aF->lC L0 H m (m.aE e d)->
   H[h.length]?=some (some (e_.aA 17 [m.aE e d] false))->H[n5]?=some (some (e_.aA 2 [[.aC r 21 0 0,.aC o 5 0 0]] false))->lk 0 Le=.aC r 21 0 0->lk 3 Le=.aC h.length 17 0 0->lk 4 Le=.aC o 5 0 0->lk 5 Le=.aC n5 2 0 0->
   ¬(¬m.aM=x.aA.aE\/m.aD<1\/5<m.aD\/(m.aD=1/\x.aZ m.aC=false))->
   vc P (jC f1 f2 f3 f4 f5 f6 f7 f8 f9 f10 f11).aA.aA.tl ⟨Le,[],H⟩ (qg P (jC f1 f2 f3 f4 f5 f6 f7 f8 f9 f10 f11).aC (λv h'=>jT L h r (x.a_ m) v h') f2 [.aF [.aC r 21 0 0,.aC o 5 0 0]]):=by
  intro o n5 L0 H Le ho a5 a2 X I O B0 B5 k0 k3 k4 k5 a7;have e3:(jC f1 f2 f3 f4 f5 f6 f7 f8 f9 f10 f11).aA.aA.tl=.aA (jC f1 f2 f3 f4 f5 f6 f7 f8 f9 f10 f11).aA.aA.tl.hd (jC f1 f2 f3 f4 f5 f6 f7 f8 f9 f10 f11).aA.aA.tl.tl:=rfl;rw[e3];generalize (jC f1 f2 f3 f4 f5 f6 f7 f8 f9 f10 f11).aA.aA.tl.tl=D at M ⊢;have snd:=M;simp only[jC]at snd;obtain⟨g,ff,rr⟩:=I.aA;have Z:=rr;have U:=B0;simp only[eZ.aJ]at Z;simp only[fE.aE]at U;have e1:x.aF.r=x:=rfl;simp only[jC,DC.aG,DC.aF,AC.aF,AC.aD,go_sem,k0,k3,U,Z];by_cases c:x.aA.aC<m.aF;·have et:x.aF.aG m=(x.aF.aI m.aF 0).aL 0:=Uv c;rw[et]at snd;simp only[go_sem,k3,k5,U,B5,e1,Uu c];have tm:=u4.2 L0 H r o x.aF m.aF 0 I (by show (0+1)*216<=2^46;decide);refine fA ⟨u4.1,tm⟩ ?_;intro _ H4 T4;simp only[go_sem,k0];have fl:=fy.aD (Q':=eY) T4 (eV.aC _ _) (λ_ _ y=>y) λL1 x1=>u5.2 L1 H4 r o _ 0 x1;refine fA ⟨u5.1,fl⟩ ?_;intro _ H5 T5;simp only[go_sem];refine snd o n5 L0 H H5 _ ho a5 a2 X I O B0 B5 ?_ ?_ ?_ ?_ a7 T5<;>simp[fj,k0,k3,k4,k5]
  ·have et:x.aF.aG m=x.aF:=Uw c;rw[et]at snd;simp only[go_sem,e1,Us c];refine snd o n5 L0 H H _ ho a5 a2 X I O B0 B5 ?_ ?_ ?_ ?_ a7 I.to<;>simp[fj,k0,k3,k4,k5]
 have e0:(jC f1 f2 f3 f4 f5 f6 f7 f8 f9 f10 f11).aA=(jC f1 f2 f3 f4 f5 f6 f7 f8 f9 f10 f11).aA.aE (.aA (jC f1 f2 f3 f4 f5 f6 f7 f8 f9 f10 f11).aA.aA.hd (jC f1 f2 f3 f4 f5 f6 f7 f8 f9 f10 f11).aA.aA.tl):=rfl;rw[e0];clear M;generalize (jC f1 f2 f3 f4 f5 f6 f7 f8 f9 f10 f11).aA.aA.tl=D at W ⊢;simp only[jC,DC.aI,DC.aH,DC.aG,DC.aF,AC.aF,go_sem,fE.aE,he.aA,hd.aA];obtain⟨H2,a4⟩:∃H2,H2=h++[some (e_.aA 17 [m.aE e d] false)]++[some (e_.aA 5 [[.aD,.aD,.aD,.aA .i64 0,.aE false]] false)]:=⟨_,rfl⟩;have X2:eV eY h H2:=by rw[a4];exact eV.b2 _ _
 have l2:H2.length=h.length+2:=by rw[a4];simp
 have C0:H2[h.length]?=some (some (e_.aA 17 [m.aE e d] false)):=by rw[a4];exact jJ _ _ _
 have C1:H2[h.length+1]?=some (some (e_.aA 5 [[.aD,.aD,.aD,.aA .i64 0,.aE false]] false)):=by rw[a4];exact iO _ _ _
 simp only[fE.aE]at a4;rw[<-a4];clear a4;refine fA ⟨u1.1,u1.2 H2 r (h.length+1)⟩ ?_;rintro _ H3 ⟨rfl,X3⟩;simp only[go_sem];obtain⟨H,hH⟩:∃H,H=H3++[some (e_.aA 2 [[.aC r 21 0 0,.aC (h.length+1) 5 0 0]] false)]:=⟨_,rfl⟩;obtain⟨n5,aj⟩:∃n5,n5=H3.length:=⟨_,rfl⟩;have l3:=X3.1;have X:eV eY h H:=by rw[hH];exact (X2.tr X3).tr (eV.b1 _)
 have B0:H[h.length]?=some (some (e_.aA 17 [m.aE e d] false)):=by rw[hH];exact (eV.b1 _).aA (X3.aA C0)
 have B1:H[h.length+1]?=some (some (e_.aA 5 [[.aD,.aD,.aD,.aA .i64 0,.aE false]] false)):=by rw[hH];exact (eV.b1 _).aA (X3.aA C1)
 have B5:H[n5]?=some (some (e_.aA 2 [[.aC r 21 0 0,.aC (h.length+1) 5 0 0]] false)):=by rw[hH,aj];exact gH _ _
 have a5:h.length+2<=n5:=by omega
 rw[<-hH,<-aj];clear hH;have I:=hx.aD X B1 (by omega);have O:=hm.aA hx X (show h.length<=h.length+1 by omega);obtain⟨o,ho⟩:∃o,o=h.length+1:=⟨_,rfl⟩;obtain⟨L0,a2⟩:∃L0:Nat->Nat,L0=λm=>if m=o then 7 else L m:=⟨_,rfl⟩
 rw[<-ho]at B1 B5 I O ⊢;rw[<-a2]at I O;have zL:∀n,h.length<=n->n≠o->¬wA (L0 n):=λn hn ab=>by rw[a2];show ¬wA (if n=o then 7 else L n);rw[Uw ab,hx.ge hn];exact jF
 have fin:∀(Le:fV)(H':eW)(y:RX),x.aF.aT m=y->lk 4 Le=.aC o 5 0 0->fy wA eY L0 H r o y H'->
   ta P f2 [.aF [.aC r 21 0 0,.aC o 5 0 0]] H' (tG (jC f1 f2 f3 f4 f5 f6 f7 f8 f9 f10 f11).aC Le λv h'=>jT L h r (x.a_ m) v h'):=by
  intro Le H' y ey k4 T;have yf:=(CM (x:=x.aF) (m:=m) a1 (by omega) (mV _) a6).1;rw[ey]at yf;obtain⟨L1,x1,l1,e1⟩:=T;refine BJ ⟨u2.1,u2.2 L1 H' r o y (k+200) x1 yf (by omega)⟩ ?_;intro _ ad T2;have T3:=fy.aF l1 e1 (λ_ _ y=>y) T2;have es:x.a_ m=y.aA:=by show (x.aF.aT m).aA=_;rw[ey]
  rw[a2]at T3;obtain⟨ma,ca,aa,row,s1,s2,s3,out⟩:=T3.aJ hx X (by omega);rw[es];simp only[jC,go_sem,k4,row];exact out
 have u:=fin;have a9:=W;simp only[jC]at u a9;clear fin W;obtain⟨g,ff,rr⟩:=I.aA;have Z:=rr;have U:=B0;simp only[eZ.aJ]at Z;simp only[fE.aE]at U;have e1:x.aF.r=x:=rfl;have a3:(¬m.aM=x.aA.aE\/m.aD<1\/5<m.aD\/(m.aD=1/\x.aZ m.aC=false))->x.aF.aT m=x.aF:=λc=>by rw[vF];exact Uv c
 simp only[go_sem,U,Z,e1];by_cases c1:m.aM=x.aA.aE
 ·simp only[go_sem,U,Uu c1,U2];by_cases c2:m.aD<1;·simp only[go_sem,Uu c2];exact u _ H x.aF (a3 (.inr (.inl c2))) (by simp[fj]) I.to
  ·simp only[go_sem,U,Us c2];by_cases c3:5<m.aD;·simp only[go_sem,Uu c3];exact u _ H x.aF (a3 (.inr (.inr (.inl c3)))) (by simp[fj]) I.to
   ·simp only[go_sem,U,Us c3];by_cases c4:m.aD=1
    ·simp only[go_sem,U,Uu c4];refine gh u3.1 (u3.2 H r x m.aC ⟨g,ff,rr⟩ (a1.aK (by omega)) (a1.aM (by decide))) ?_;rw[iC];cases c5:x.aZ m.aC;·simp only[go_sem,U,Z,e1,Vc];exact u _ H x.aF (a3 (.inr (.inr (.inr ⟨c4,c5⟩)))) (by simp[fj]) I.to
     ·simp only[go_sem,U,Z,e1,U2];refine a9 o n5 L0 H _ ho a5 a2 X I O B0 B5 ?_ ?_ ?_ ?_ (by rintro (z | z | z | z);exact z c1;exact c2 z;exact c3 z;rw[c5]at z;cases z.2)<;>simp[fj,h_]
    ·simp only[go_sem,Us c4];refine a9 o n5 L0 H _ ho a5 a2 X I O B0 B5 ?_ ?_ ?_ ?_ (by rintro (z | z | z | z);exact z c1;exact c2 z;exact c3 z;exact c4 z.1)<;>simp[fj,h_]
 ·simp only[go_sem,Us c1,Vc];exact u _ H x.aF (a3 (.inl c1)) (by simp[fj]) I.to
end Glb
