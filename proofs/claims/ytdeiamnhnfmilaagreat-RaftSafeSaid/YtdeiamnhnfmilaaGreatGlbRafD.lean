/-
  A library of its own.
-/
import Derived.Test.YtdeiamnhnfmilaaGreatGlbRafC
set_option linter.unusedSimpArgs false
set_option linter.unusedVariables false
set_option maxRecDepth 10000
set_option maxHeartbeats 8000000
namespace Glb
open Go
structure fJ.aJ (m:fJ):Prop where
 es:m.es.length<=200/\∀e∈m.es,e.aG
 aA:gF m.aF/\m.aF.length<=2^16
 aF:m.aG<=2^40
 aC:ia m.aC/\ia m.aH
 aD:3<=m.aE->0<=m.aA/\m.aA<=2^40
theorem fJ.aJ.aE {m:fJ}(h:m.aJ):lU m.es:=⟨by have:=h.es.1;omega,λe he=>by have:=(h.es.2 e he).1.2;omega⟩
section
variable {k:Nat} {x:fj}
theorem fA.aO {l:fA}{p:Int}{e:List fU}(h0:0<=l.aA)(hp:l.aF p=true)(hc:l.aI p e=0):p+e.length<=l.aC:=by
 have h1:=ky.1 hp;by_cases c:l.aG (p+1) e<e.length;·rw[(vh hp c).2]at hc;omega
 ·have:=wL (e:=e) hp;have:=wM l e (p+1);omega
theorem fj.aD.aZ (h:x.aD k){m:fJ}(hm:m.aJ)(hi:0<=m.aA/\m.aA<=2^40)(hp:x.aA.aA.aF m.aA=true)(I:x.aE<x.aA.aA.aI m.aA m.es):({x with aA:={x.aA with aA:=x.aA.aA.aE m.aA m.es}}:fj).aD (k+200)/\(x.aA.aA.aE m.aA m.es).aC=m.aA+m.es.length:=by
 have hb:=h.aC;have h0:=h.aM;have u:x.aA.aA.aG (m.aA+1) m.es<m.es.length:=by
  apply Vb;intro c;have:x.aA.aA.aI m.aA m.es=0:=by unfold fA.aI;rw[U6 (λz=>c z.2)]
  omega
 have e1:=vh hp u;have e2:=Cu hp u;have hl:=hm.es.1;rw[e1.2]at I;obtain⟨g1,g2,g3,g4,g5,g6,g7,g8,g9,E,W,C,U,O,M⟩:=h;refine⟨⟨?_,?_,?_,?_,g5,g6,g7,?_,⟨?_,g9.2.1,?_⟩,⟨E.1,W7 E.2 (by omega)⟩,W,⟨C.1,W7 C.2 (by omega)⟩,Vh U (by omega),O,M⟩,e2⟩;·show 0<=(x.aA.aA.aE m.aA m.es).aA/\(x.aA.aA.aE m.aA m.es).aA<=2^40+((k+200:Nat):Int);rw[(nZ _ _ _).1];exact⟨g1.1,by omega⟩
 ·show (x.aA.aA.aE m.aA m.es).es.length<=k+200;rw[e1.1];simp only[U1,Va,Vo];omega
 ·show (x.aA.aA.aE m.aA m.es).aC<=2^40+((k+200:Nat):Int);rw[e2];omega
 ·show ∀e∈(x.aA.aA.aE m.aA m.es).es,e.aG;rw[e1.1];intro e he;simp only[VK]at he;rcases he with he | he;·exact g4 e (VR he)
  ·exact hm.es.2 e (VC he)
 ·show ia x.aA.aE/\ia x.aA.aF/\ia (x.aA.aA.aE m.aA m.es).aD;rw[(nZ _ _ _).2];exact g8
 ·show (x.aA.aA.aE m.aA m.es).aA<=x.aF;rw[(nZ _ _ _).1];exact g9.1
 ·show x.aE<=(x.aA.aA.aE m.aA m.es).aC;rw[e2];omega
theorem Cd {l:fA}{b:Int}(hb:l.aF b=true):l.aK b=⟨b,l.aH b,l.es.drop (b-l.aA).toNat⟩/\(l.aK b).aC=l.aC:=by
 have h1:=ky.1 hb;have e:l.aK b=⟨b,l.aH b,l.es.drop (b-l.aA).toNat⟩:=by simp only[fA.aK,hb,VS]
 refine⟨e,?_⟩;rw[e];unfold fA.aC at *;simp only[Vo];omega
theorem Dl (h:x.aD k){base term:Int}(hb:0<=base/\base<=2^40+k)(ht:ia term):
  (x.aO base term).aA=base/\(x.aO base term).aD=term/\(x.aO base term).es.length<=k/\(x.aO base term).aC<=2^40+k/\(∀e∈(x.aO base term).es,e.aG)/\base<=(x.aO base term).aC /\
   (x.aA.aA.aF base=true/\x.aA.aA.aH base=term->(x.aO base term).aC=x.aA.aA.aC):=by
 unfold fj.aO;split;·rename_i c;obtain⟨e1,e2⟩:=Cd c.1;have h1:=ky.1 c.1;rw[e2,e1];refine⟨rfl,c.2,?_,h.aF,λe he=>h.aH e (VC he),h1.2,λ_=>rfl⟩;have:=h.aL;simp only[Vo];omega
 ·rename_i c;refine⟨rfl,rfl,by simp,?_,by simp,by unfold fA.aC;simp,λz=>absurd z c⟩;unfold fA.aC;simp;omega
theorem fj.aD.bt (h:x.aD k){base term c a:Int}{cf:fq}{snap:List Int}(hb:0<=base/\base<=2^40+k)(ht:ia term)(hc:cf.aE=true)(hs:gF snap/\snap.length<=2^16)
  (h1:base<=a/\a<=c/\c<=(x.aO base term).aC):({x with aA:={x.aA with aA:=x.aO base term,aD:=cf,aG:=snap},aE:=c,aF:=a}:fj).aD k:=by
 obtain⟨s1,s2,s3,s4,s5,s6,-⟩:=Dl h hb ht;obtain⟨g1,g2,g3,g4,g5,g6,g7,g8,g9,M,I,E,C,u,e⟩:=h;refine⟨?_,s3,s4,s5,hc,hs,g7,?_,⟨?_,h1.2.1,h1.2.2⟩,M,I,E,C,u,e⟩;·show 0<=(x.aO base term).aA/\(x.aO base term).aA<=2^40+k;rw[s1];exact hb
 ·show ia x.aA.aE/\ia x.aA.aF/\ia (x.aO base term).aD;rw[s2];exact⟨g8.1,g8.2.1,ht⟩
 ·show (x.aO base term).aA<=a;rw[s1];exact h1.1
end
def yS (P:Program)(f:FuncId):Prop:=fK P f=true/\∀(L:Nat->Nat)(h:eX)(r o:Nat)(x:RX)(k j:Nat)(m:fJ)(a:List AV),h_ L h r o x->x.r.aD k->k+200<=2^28->x.aC j->j+1<2^20->kX L h m a->m.aJ->0<=m.aA/\m.aA<=2^40->
 fC P f [.aF [.aC r 21 0 0,.aC o 5 0 0],.aF a] h λ_ h'=>fB wA eZ L h r o (x.aI m) h'
theorem QM {P:Program}{f f1 f2 f3 f4 f5 f6:FuncId}(hf:Is P f (lW f1 f2 f3 f4 f5 f6))(u1:wt P f1)(u2:nQ P f2)(u3:pt P f3)(u4:yn P f4)(u5:nP P f5)(u6:sK P f6):yS P f:=by
 refine⟨hf.2,λL h r o x k j m a hx u hk hj ab hm a2 aa=>fS hf ?_⟩;obtain⟨G,hr,h0⟩:=id hm;obtain⟨e,d,rfl,he,hd⟩:=pL hr;have ap:=hx.aC;obtain⟨R,out⟩:=x;simp only at u;have hmes:=a2.es.1;have le:ik e=some (.aA .i64 m.es.length):=by have:=he.aC;simpa [gK] using this
 have wn:IntKind.i64.wrap (m.aA+m.es.length)=m.aA+m.es.length:=gj (by omega);have wi:IntKind.i64.wrap (m.aA-1)=m.aA-1:=gj (by omega);have hlast:=u.aF;have hbase:=u.aC;obtain⟨H,hH⟩:∃H,H=h++[some (e_.aA 2 [[.aC r 21 0 0,.aC o 5 0 0]] false)]++[some (e_.aA 17 [m.aD e d] false)]:=⟨_,rfl⟩;have X1:eW eZ h H:=by rw[hH];exact eW.b2 _ _
 have lH:H.length=h.length+2:=by rw[hH];simp
 have C0:H[h.length]?=some (some (e_.aA 2 [[.aC r 21 0 0,.aC o 5 0 0]] false)):=by rw[hH];exact jx _ _ _
 have C1:H[h.length+1]?=some (some (e_.aA 17 [m.aD e d] false)):=by rw[hH];exact iF _ _ _
 have M:=hx.up X1;have z2:∀m,h.length<=m->¬wA (L m):=λm e=>by rw[hx.ge e];exact jJ
 have a9:fu (λn=>G n/\n<h.length) H m.c (m.aD e d):=fu.aA (λ_ y=>y) (X1.aE _) _ _ (fu.lt _ _ hr);have a8:∀{y H'},fB wA eZ L H r o y H'->fu (λn=>G n/\n<h.length) H' m.c (m.aD e d):=λT=>fu.aA (λ_ y=>y) (λn hn y hy=>T.aA (by rw[h0 n hn.1];exact jJ) (λz=>z) hy) _ _ a9;have Z:∀{y H'}(j:Nat)(ok:Bool)(ix:Int),fB wA eZ L H r o y H'->y.aC j->j<2^20->fC P f1 [.aF [.aC r 21 0 0,.aC o 5 0 0],.aF (m.aD e d),.aE ok,.aA .i64 ix] H' λ_ ac=>fB wA eZ L H r o (y.aS m ok ix) ac:=fun {y H'} j ok ix T yf hj=>fB.aD (Q':=eZ) T (eW.aC _ _) (λ_ _ y=>y) λL1 x1=>(u1.2 L1 H' r o y j m _ _ ok ix x1 yf hj (a8 T)).aA λ_ _ b=>b.aG m8;simp only[fJ.aD]at Z;have C:∀(Le:fX)(H':eX)(y:RX),(RX.aI ⟨R,out⟩ m)=(({y with r:={y.r with aE:=max y.r.aE (min m.aI (m.aA+m.es.length))}}:RX).aS m true (m.aA+m.es.length))->y.aC (j+1)->lk 2 Le=.aC h.length 2 0 0->lk 3 Le=.aC (h.length+1) 17 0 0->fB wA eZ L H r o y H'->
   vc P (lW f1 f2 f3 f4 f5 f6).aA.tl.tl.tl.tl.tl ⟨Le,[],H'⟩ (iE (lW f1 f2 f3 f4 f5 f6).aC λ_ h'=>fB wA eZ L h r o (RX.aI ⟨R,out⟩ m) h'):=by
  intro Le H' y ey yf k2 k3 T;have D0:=T.aA (z2 _ (U8 _)) (λy=>y) C0;have D1:=T.aA (z2 _ (by omega)) (λy=>y) C1;obtain⟨g,ff,rr⟩:=T.aF;have E:=rr;simp only[fj.aJ]at E;simp only[fJ.aD]at D1;have lr:=(UY.1 rr).1;have q0:(r=h.length)=False:=Vm (by omega);have q1:(r=h.length+1)=False:=Vm (by omega);rw[ey];simp only[lW,AC.aC,go_sem,k2,k3,D0,D1,le,wn,E,vp,tL,rT,q0,q1,lr];have T1:=fB.aH (R:=y.r) (out:=y.o) (R':={y.r with aE:=max y.r.aE (min m.aI (m.aA+m.es.length))}) T rr rfl rfl (λ_ z=>z);simp only[fj.aJ]at T1;have an:=Z (j+1) true (m.aA+m.es.length) T1 yf ab;refine fy ⟨u1.1,an⟩ ?_;intro _ H2 T2;simp only[go_sem];exact fB.aC X1 T2
 have e0:(lW f1 f2 f3 f4 f5 f6).aA=.aA (lW f1 f2 f3 f4 f5 f6).aA.hd (.aA (lW f1 f2 f3 f4 f5 f6).aA.tl.hd (.aA (lW f1 f2 f3 f4 f5 f6).aA.tl.tl.hd (.aA (lW f1 f2 f3 f4 f5 f6).aA.tl.tl.tl.hd (.aA (lW f1 f2 f3 f4 f5 f6).aA.tl.tl.tl.tl.hd (lW f1 f2 f3 f4 f5 f6).aA.tl.tl.tl.tl.tl)))):=rfl;rw[e0];generalize (lW f1 f2 f3 f4 f5 f6).aA.tl.tl.tl.tl.tl=D at C ⊢;have snd:=C;simp only[lW]at snd;clear C;obtain⟨g,ff,rr⟩:=M.aA;have E:=rr;have I:=C1;simp only[fj.aJ]at E;simp only[fJ.aD]at I hH;have lr:=(UY.1 rr).1;have q0:(r=h.length)=False:=Vm (by omega);have q1:(r=h.length+1)=False:=Vm (by omega);have q2:(h.length=r)=False:=Vm (by omega);have q3:(h.length+1=r)=False:=Vm (by omega);simp only[lW,AC.aH,AC.aC,go_sem,fJ.aD,he.aA,hd.aA];rw[<-hH];clear hH;have tc:=u2.2 eZ H R.aA.aA _ m.aA (mX R.aA.aA H) (u.aD (by omega));simp only[go_sem,E];by_cases c1:m.aA<R.aA.aA.aA
 ·simp only[go_sem,E,C0,I,U3 c1];have ea:(RX.aI ⟨R,out⟩ m)=RX.aS ⟨R,out⟩ m true R.aE:=by unfold RX.aI;rw[U4 c1]
  rw[ea];refine fy ⟨u1.1,Z j true R.aE M.to hj (by omega)⟩ ?_;intro _ H2 T2;rw[iG];simp only[go_sem];exact fB.aC X1 T2
 ·simp only[go_sem,E,C0,I,U2 c1];refine fZ u2.1 tc ?_;rw[iG];have no:(R.aA.aA.aF m.aA=false\/¬R.aA.aA.aH m.aA=m.aH)->(RX.aI ⟨R,out⟩ m)=RX.aS ⟨R,out⟩ m false (max 0 (min R.aL (m.aA-1))):=λc=>by unfold RX.aI;rw[U6 c1,U4 c]
  have a1:(RX.aI ⟨R,out⟩ m)=RX.aS ⟨R,out⟩ m false (max 0 (min R.aL (m.aA-1)))->mI P f1 [.aF [.aC r 21 0 0,.aC o 5 0 0],.aF (m.aD e d),.aE false,.aA .i64 (max 0 (min R.aL (m.aA-1)))] H λ_ h'=>fB wA eZ L h r o (RX.aI ⟨R,out⟩ m) h':=λe=>by rw[e];refine fy ⟨u1.1,Z j false (max 0 (min R.aL (m.aA-1))) M.to hj (by omega)⟩ ?_;intro _ H2 T2;exact fB.aC X1 T2
  simp only[fJ.aD]at a1;cases c2:R.aA.aA.aF m.aA;·simp only[go_sem,E,C0,I,VN,wi];refine fZ u3.1 (u3.2 H r R M.aA (u.aD (by omega))) ?_;rw[iG];simp only[go_sem,C0,I,rT,vp,tL];refine fy (a1 (no (.inl c2))) ?_;intro _ H2 T2;rw[iG];simp only[go_sem];exact T2
  ·by_cases c3:R.aA.aA.aH m.aA=m.aH
   ·simp only[go_sem,E,C0,I,VF,U3 c3];have R3:∀b,(H++[b])[r]?=_:=λb=>(eW.b1 b).aA E;have D0:∀b,(H++[b])[h.length]?=_:=λb=>(eW.b1 b).aA C0;have D1:∀b,(H++[b])[h.length+1]?=_:=λb=>(eW.b1 b).aA I;have N1:∀sz i o',gN (h.length+2) 1 (.aC r sz i o')=true:=λsz i o'=>ig (by omega);have N2:∀sz i o',gN (h.length+2) 1 (.aC h.length sz i o')=true:=λsz i o'=>ig (by omega);have N3:∀sz i o',gN (h.length+2) 1 (.aC (h.length+1) sz i o')=true:=λsz i o'=>ig (by omega);have O:∀a b,(H++[a]).set (h.length+2) b=H++[b]:=λa b=>by rw[W0 _ _ (by omega),lH];simp
    have b2:∀b,(H++[b])[h.length+2]?=some b:=λb=>by rw[<-lH];exact gJ H b
    have w0:(h.length=h.length+2)=False:=Vm (by omega);have w1:(h.length+2=h.length)=False:=Vm (by omega);have w2:(h.length+1=h.length+2)=False:=Vm (by omega);have w3:(h.length+2=h.length+1)=False:=Vm (by omega);have w4:(r=h.length+2)=False:=Vm (by omega);have w5:(h.length+2=r)=False:=Vm (by omega);simp only[go_sem,jh,R3,D0,D1,N1,N2,N3,lH,O];have a4:=u4.2 (λ_=>True) (H++[none]) R.aA.aA _ m.aA m.es e (fu.aA (F:=eZ) (λ_ _=>Vd) (λ_ _ _ y=>y) _ _ (mX R.aA.aA _)) (Rd.aE (λ_ _=>Vd) ((X1.tr (eW.b1 none)).aE _) _ _ he) (u.aD (by omega)) a2.aE;simp only[fA.aM]at a4;refine fZ u4.1 a4 ?_;simp only[go_sem,jh,R3,D0,D1,O,b2,qA,Xo,Bool.true_or];obtain⟨l,hl⟩:∃l,l=R.aA.aA.aE m.aA m.es:=⟨_,rfl⟩;obtain⟨at',a3⟩:∃at',at'=R.aA.aA.aI m.aA m.es:=⟨_,rfl⟩;rw[<-hl,<-a3];have ea:(RX.aI ⟨R,out⟩ m)=(if 0<at'/\at'<=R.aE then ⟨R,out⟩ else
     let y:RX:=if 0<at' then ({({r:=R,o:=out}:RX) with r:={R with aA:={R.aA with aA:=l}}}:RX).aX {gi.aI with aC:=2,aE:=at',aA:=⟨0,0,l.aJ at' l.es.length⟩} else ⟨R,out⟩
     ({y with r:={y.r with aE:=max y.r.aE (min m.aI (m.aA+m.es.length))}}:RX).aS m true (m.aA+m.es.length)):=by
     rw[hl,a3];unfold RX.aI;rw[U6 c1,U6 (by rintro (z | z);rw[c2]at z;cases z;exact z c3)]
    by_cases c4:0<at'
    ·simp only[go_sem,R3,D0,U3 c4];by_cases c5:at'<=R.aE;·simp only[go_sem,U3 c5];rw[ea,U4 ⟨c4,c5⟩];exact fB.aC (X1.tr (eW.b1 _)) (M.up (eW.b1 _)).to
     ·simp only[go_sem,R3,D0,b2,U2 c5,qA];rw[U6 (λz=>c5 z.2)]at ea;simp only[U4 c4]at ea;have lf:=u.aZ a2 aa c2 (by rw[<-a3];omega);rw[<-hl]at lf;have a7:=M.up (eW.b1 (some (e_.aA 3 [[.aA .i64 l.aA,.aA .i64 l.aD,jv l.es]] false)));have a5:(H++[some (e_.aA 3 [[.aA .i64 l.aA,.aA .i64 l.aD,jv l.es]] false)])[r]?=some (some (.aA 21 [R.aJ g ff] false)):=(eW.b1 _).aA rr;have T1:=fB.aH (R':={R with aA:={R.aA with aA:=l}}) (a7.to (W:=wA) (Q:=eZ)) a5 rfl rfl (λ_ z=>z);have E0:=D0 (some (e_.aA 3 [[.aA .i64 l.aA,.aA .i64 l.aD,jv l.es]] false));have E1:=D1 (some (e_.aA 3 [[.aA .i64 l.aA,.aA .i64 l.aD,jv l.es]] false));have E2:=b2 (some (e_.aA 3 [[.aA .i64 l.aA,.aA .i64 l.aD,jv l.es]] false));have X3:=eW.b1 (h:=H) (some (e_.aA 3 [[.aA .i64 l.aA,.aA .i64 l.aD,jv l.es]] false));have l3:r<h.length+3:=by omega
      simp only[go_sem,b2,w4,q0,lH,l3,U1];simp only[fj.aJ]at T1;have K0:=T1.aA (z2 _ (U8 _)) (λy=>y) E0;have K1:=T1.aA (z2 _ (by omega)) (λy=>y) E1;have K2:=T1.aA (z2 _ (by omega)) (λy=>y) E2;generalize hH4:List.set (H++_) r _=H4 at *;obtain⟨R',U⟩:∃R':fj,R'={R with aA:={R.aA with aA:=l}}:=⟨_,rfl⟩;have a6:R'.aD (k+200):=by rw[U];exact lf.1
      have ad:R'.aA.aA=l:=by rw[U]
      have eRg:R'.aA.aE=R.aA.aE:=by rw[U]
      rw[<-U]at T1 ea;have sl:=u5.2 eZ H4 R'.aA.aA _ at' l.es.length (mX R'.aA.aA H4) (a6.aD (by omega));rw[ad]at sl;refine fy ⟨u5.1,sl⟩ ?_;rintro e1 H5 ⟨oe,-,X5⟩;have se:=oe.aA;have M0:=X5.aA K0;have M1:=X5.aA K1;have M2:=X5.aA K2;have hl4:H4.length=H.length+1:=by rw[<-hH4,U9,U1];rfl
      rw[iG];simp only[go_sem,M0,M2,gz se];have tl:=fB.aD (Q':=λn=>H4.length<=n) T1 X5 (λn hn (z:H4.length<=n)=>by rw[U1]at hn;simp at hn;omega) λL1 x1=>(u6.2 (λn=>H4.length<=n) L1 H5 r o _ {gi.aI with aC:=2,aE:=at',aA:=⟨0,0,l.aJ at' l.es.length⟩} e1 .aD .aD .aD .aD (x1.up X5) oe (eY.aD 1) (eY.aD 1) (eY.aD 1) (eY.aD 1) (λn hn=>x1.ge hn) (rD (show out.aC.length<=j from hj.2) (by omega) 216 (by omega))).aA λ_ _ b=>b.aG m8;refine fy ⟨u6.1,tl⟩ ?_;intro _ H6 T6;rw[iG];simp only[go_sem];refine snd _ H6 _ ea (RX.aC.aD (x:=({r:=R',o:=out}:RX)) hj _) ?_ ?_ (fB.aC X3 T6)<;>simp[fm]
    ·simp only[go_sem,U2 c4];rw[U6 (λz=>c4 z.1)]at ea;simp only[U6 c4]at ea;refine snd _ _ ⟨R,out⟩ ea (hj.aA (by omega)) ?_ ?_ (fB.aC (eW.b1 _) (M.up (eW.b1 _)).to)<;>simp[fm]
   ·simp only[go_sem,E,C0,I,VF,VN,U2 c3,wi];refine fZ u3.1 (u3.2 H r R M.aA (u.aD (by omega))) ?_;rw[iG];simp only[go_sem,C0,I,rT,vp,tL];refine fy (a1 (no (.inr c3))) ?_;intro _ H2 T2;rw[iG];simp only[go_sem];exact T2
theorem fO.bG {G w h r sz es es' gr}(g:fO G w h) (hr:h[r]?=some (some (.aA sz es gr))) (hl:es'.length=es.length) (ho:jy sz es') (hc:∀i j c',gw es' i j=some c'->∃c,gw es i j=some c/\∀v,V G w c v->V G w c' v):fO G w (h.set r (some (.aA sz es' gr))):=by
 have hlt:=(UY.1 hr).1;refine {aA:=by rw[U9];exact g.aA,aD:=?_,aE:=?_,inj:=g.inj,aF:=g.aF,aG:=g.aG,aL:=g.aL,aM:=g.aM,aH:=g.aH,aJ:=g.aJ,aC:=?_,aI:=?_,aK:=g.aK}
 ·intro m;rw[g.aD m];by_cases hm:r=m;·subst hm;exact⟨λz=>⟨⟨_,_,_,U5 hlt⟩,z.2⟩,λz=>⟨⟨_,_,_,hr⟩,z.2⟩⟩
  ·rw[UZ hm]
 ·intro m b hb;have hm:r≠m:=by rintro rfl;rw[g.aE _ _ hb]at hr;simp at hr
  rw[UZ hm];exact g.aE m b hb
 ·intro m u E C b hm hb;by_cases h1:r=m;·subst h1;rw[U5 hlt]at hm;simp only[U_,e_.aA.injEq]at hm;obtain⟨rfl,rfl,rfl⟩:=hm;obtain⟨⟨cells,ty,hh,h1,h2,h3⟩,hs⟩:=g.aC r _ _ _ b hr hb;refine⟨⟨cells,ty,hh,by rw[hl];exact h1,λe=>by rw[hl];exact h2 e,λi j c hj=>?_⟩,ho⟩;obtain⟨c0,e0,f0⟩:=hc i j c hj;obtain⟨v,hv,hV⟩:=h3 i j c0 e0;exact⟨v,hv,f0 v hV⟩
  ·rw[UZ h1]at hm;exact g.aC m u E C b hm hb
 ·intro m u E C hm hb;by_cases h1:r=m;·subst h1;rw[U5 hlt]at hm;simp only[U_,e_.aA.injEq]at hm;obtain⟨rfl,rfl,rfl⟩:=hm;have:=g.aI r _ _ _ hr hb;subst this;exact U7 (by simpa using hl)
  ·rw[UZ h1]at hm;exact g.aI m u E C hm hb
def pT (h h':eX):Prop:=∀G w,fO G w h->fO G w h'
theorem pT.aA (h:eX):pT h h:=λ_ _ g=>g
theorem fC.aE {P:Program}{f:FuncId}{e:List AV}{h h':eX}{K:AV->eX->Prop}(hl:pT h h')(hc:fC P f e h' K):fC P f e h K:=λG w vs hg hv=>hc G w vs (hl G w hg) hv
theorem OL {h:eX}{r sz:Nat}{a b:List AV}{gr:Bool} (hr:h[r]?=some (some (.aA sz [a++.aD :: b] gr))) (ho:jy sz [a++.aM 0 false 3 [] :: b]):pT h (h.set r (some (.aA sz [a++.aM 0 false 3 [] :: b] gr))):=by
 intro G w g;refine g.bG hr rfl ho λi j c' hc=>?_;cases i with
 | succ i=>simp[gw]at hc
 | zero=>
  simp only[gw,Vw,Wi]at hc ⊢;rw[V_]at hc ⊢;split at hc;·rename_i hj;exact⟨c',by rw[U4 hj];exact hc,λ_ hv=>hv⟩
  ·rename_i hj;rw[U6 hj];cases hk:j-a.length with
   | zero=>rw[hk]at hc;simp only[Vw,U_]at hc;subst hc;refine⟨.aD,rfl,λv hv=>?_⟩;cases hv;exact .aF _ _ _
   | succ k=>rw[hk]at hc;exact⟨c',by simpa using hc,λ_ hv=>hv⟩
theorem TA {P:Program}{f:FuncId}{e:List AV}{r:AV}{h h':eX}{K:AV->eX->Prop}(hl:pT h h')(hi:fK P f=true)(hc:fC P f e h' λr' u=>r'=r/\u=h')(hk:K r h'):mI P f e h K:=
 fy ⟨hi,hc.aE hl⟩ λ_ _ ⟨e1,e2⟩=>by subst e1;subst e2;exact hk
def sw (P:Program)(f:FuncId):Prop:=fK P f=true/\∀(F:Nat->Prop)(h:eX)(x:fq)(a:List AV),fu F h x.c a->x.aG (2^40)->
 fC P f [.aF a] h λv h'=>∃o n e,v=.aF [o,n,e]/\eY (fN x.aA) (λm=>h.length<=m) h' o/\eY (fN x.aC) (λm=>h.length<=m) h' n/\eY (fN x.aD) (λm=>h.length<=m) h' e/\eW eZ h h'
theorem MW {P:Program}{f g:FuncId}(hf:Is P f (uQ g))(hg:o8 P g):sw P f:=by
 refine⟨hf.2,λF h x a ha hx=>pD hf.1 (V3 rfl) ?_⟩;show vc P (uQ g).aA ⟨[(0,.aF a)],[],h⟩ (iE (uQ g).aC _);obtain⟨o,n,e,rfl,ho,hn,he⟩:=kI ha;obtain⟨H,hH⟩:∃H,H=h++[some (e_.aA 3 [[o,n,e]] false)]++[some (e_.aA 3 [[.aD,.aD,.aD]] false)]:=⟨_,rfl⟩;have X1:eW eZ h H:=by rw[hH];exact eW.b2 _ _
 have lH:H.length=h.length+2:=by rw[hH];simp
 have C0:H[h.length]?=some (some (e_.aA 3 [[o,n,e]] false)):=by rw[hH];exact jx _ _ _
 have C1:H[h.length+1]?=some (some (e_.aA 3 [[.aD,.aD,.aD]] false)):=by rw[hH];exact iF _ _ _
 simp only[uQ,go_sem,ho.aA,hn.aA,he.aA];rw[<-hH];clear hH;refine fy ⟨hg.1,hg.2 F H x.aA o (ho.up X1) hx.1⟩ ?_;rintro o1 H2 ⟨oo,-,X2⟩;have D0:=X2.aA C0;have D1:=X2.aA C1;rw[iG];simp only[go_sem,D0];refine fy ⟨hg.1,hg.2 F H2 x.aC n ((hn.up X1).up X2) hx.2.1⟩ ?_;rintro n1 H3 ⟨on,-,X3⟩;have E0:=X3.aA D0;have E1:=X3.aA D1;rw[iG];simp only[go_sem,E0];refine fy ⟨hg.1,hg.2 F H3 x.aD e (((he.up X1).up X2).up X3) hx.2.2⟩ ?_;rintro e1 H4 ⟨oe,-,X4⟩;have F0:=X4.aA E0;have F1:=X4.aA E1;have l4:=(UY.1 F1).1;have x2:=X2.1;have x3:=X3.1;have x4:=X4.1;rw[iG];simp only[go_sem,F0,F1,oo.aA,on.aA,oe.aA,gz oo.aA,gz on.aA,gz oe.aA,l4];have kk:∀v (F:Nat->Prop),(∀m,F m->H.length<=m)->gY F H4 (H4.set (h.length+1) v):=λv F hF m hm y hy=>(UZ (by have:=hF m hm;omega)).trans hy;refine⟨o1,n1,e1,rfl,?_,?_,?_,?_⟩;·exact eY.aC _ (λm hm=>by omega) (kk _ _ (λm hm=>hm)) _ (eY.aC _ (λ_ y=>y) ((X3.tr X4).aE _) _ oo)
 ·exact eY.aC _ (λm hm=>by omega) (kk _ _ (λm hm=>by omega)) _ (eY.aC _ (λ_ y=>y) (X4.aE _) _ on)
 ·exact eY.aC _ (λm hm=>by omega) (kk _ _ (λm hm=>by omega)) _ oe
 ·exact (((X1.tr X2).tr X3).tr X4).aG (by omega) _
def Jo (P:Program)(f:FuncId):Prop:=fK P f=true/\∀(F:Nat->Prop)(h:eX)(x:fq)(a:List AV),fu F h x.c a->x.aG (2^40)->fC P f [.aF a] h λv h'=>v=.aF x.v/\h'=h
theorem sw.p {P:Program}{f:FuncId}(hc:sw P f):Jo P f:=⟨hc.1,λF h x a ha hx=>(hc.2 F h x a ha hx).aC λ_ _ ⟨o,n,e,h1,h2,h3,h4,h5⟩=>⟨h5,_,h1▸gU.aA (ds:=x.c) (fI.fz _ (λ_ x=>x) _ (by simp only[fq.c,fI];exact⟨o,_,rfl,h2,n,_,rfl,h3,e,_,rfl,h4,rfl⟩)),rfl⟩⟩
def I3 (P:Program)(f:FuncId):Prop:=fK P f=true/\∀(F:Nat->Prop)(h:eX)(l:List Int)(a:AV),Rd F h (gq l) a->l.length<=2^40->fC P f [a] h λr h'=>r=iS l/\h'=h
theorem qF.q {P:Program}{f:FuncId}(hc:qF P f):I3 P f:=⟨hc.1,λF h l a ha hl=>(hc.2 F h l a ha hl).aC λ_ _ ⟨h1,h2⟩=>⟨h2,_,gU.d (eY.fz _ (λ_ x=>x) _ h1),rfl⟩⟩
def DT (P:Program)(f:FuncId):Prop:=fK P f=true/\∀(F:Nat->Prop)(h:eX)(l:fA)(a:List AV)(i:Int),fu F h l.c a->jL l->
 fC P f [.aF a,.aA .i64 i] h λr h'=>r=.aI [.aF (l.aK i).v,.aA .i64 (if l.aF i then 0 else 3)]/\h'=h
theorem uk.cp {P:Program}{f:FuncId}(hc:uk P f):DT P f:=⟨hc.1,λF h l a i ha hl=>(hc.2 F h l a i ha hl).aC λ_ _ ⟨_,h1,h2,h3⟩=>⟨h3,_,h1▸gU.aC (gU.aA (fI.fz _ (λ_ x=>x) _ h2)) (gU.aD _ _),rfl⟩⟩
def wu (P:Program)(f:FuncId):Prop:=fK P f=true/\∀(G:Nat->Prop)(L:Nat->Nat)(h:eX)(r o:Nat)(x:RX)(j:Nat)(base term:Int)(c:fq)(a:List AV)(snap:List Int)(s:AV),h_ L h r o x->jL x.r.aA.aA->x.aC j->j<2^20->fu G h c.c a->Rd G h (gq snap) s->(∀n,G n->L n=0)->c.aG (2^40)->snap.length<=2^40->
 fC P f [.aF [.aC r 21 0 0,.aC o 5 0 0],.aA .i64 base,.aA .i64 term,.aF a,s] h λ_ h'=>fB wA eZ L h r o (x.aQ base term c snap) h'
theorem QO {P:Program}{f f1 f2 f3 f4 f5:FuncId}(hf:Is P f (mA f1 f2 f3 f4 f5))(u1:nQ P f1)(u2:DT P f2)(u3:sw P f3)(u4:qF P f4)(u5:sK P f5):wu P f:=by
 refine⟨hf.2,λG L h r o x j base term c a snap s hx I hj hj2 hc hs hG a3 a2=>pD hf.1 (V3 rfl) ?_⟩;show vc P (mA f1 f2 f3 f4 f5).aA ⟨[(0,.aF [.aC r 21 0 0,.aC o 5 0 0]),(1,.aA .i64 base),(2,.aA .i64 term),(3,.aF a),(4,s)],[],h⟩ (iE (mA f1 f2 f3 f4 f5).aC _);obtain⟨co,cn,ce,rfl,ho,hn,he⟩:=kI hc;have ap:=hx.aC;obtain⟨R,out⟩:=x;simp only at I;obtain⟨H,hH⟩:∃H,H=h++[some (e_.aA 2 [[.aC r 21 0 0,.aC o 5 0 0]] false)]++[some (e_.aA 3 [[co,cn,ce]] false)]:=⟨_,rfl⟩;have X1:eW eZ h H:=by rw[hH];exact eW.b2 _ _
 have lH:H.length=h.length+2:=by rw[hH];simp
 have C0:H[h.length]?=some (some (e_.aA 2 [[.aC r 21 0 0,.aC o 5 0 0]] false)):=by rw[hH];exact jx _ _ _
 have C1:H[h.length+1]?=some (some (e_.aA 3 [[co,cn,ce]] false)):=by rw[hH];exact iF _ _ _
 have M:=hx.up X1;have z2:∀m,h.length<=m->¬wA (L m):=λm e=>by rw[hx.ge e];exact jJ
 have a1:∀{y H'},fB wA eZ L H r o y H'->fu (λn=>G n/\n<h.length) H' c.c [co,cn,ce]:=λT=>fu.aA (λ_ y=>y) (λn hn y hy=>T.aA (by rw[hG n hn.1];exact jJ) (λz=>z) (X1.aA hy)) _ _ (fu.lt _ _ hc);have Z:∀{y H'},fB wA eZ L H r o y H'->Rd (λn=>G n/\n<h.length) H' (gq snap) s:=λT=>Rd.aE (λ_ y=>y) (λn hn y hy=>T.aA (by rw[hG n hn.1];exact jJ) (λz=>z) (X1.aA hy)) _ _ (Rd.lt _ _ hs);have u:∀(Le:fX)(H0 H':eX),pT H0 H'->H0[h.length]?=some (some (e_.aA 2 [[.aC r 21 0 0,.aC o 5 0 0]] false))->H0[h.length+1]?=some (some (e_.aA 3 [[co,cn,ce]] false))->lk 1 Le=.aA .i64 base->lk 2 Le=.aA .i64 term->lk 4 Le=s->lk 5 Le=.aC h.length 2 0 0->lk 8 Le=.aC (h.length+1) 3 0 0->fB wA eZ L H r o ⟨{R with aA:={R.aA with aA:=R.aO base term}},out⟩ H'->
   vc P (mA f1 f2 f3 f4 f5).aA.tl.tl ⟨Le,[],H0⟩ (iE (mA f1 f2 f3 f4 f5).aC λ_ h'=>fB wA eZ L h r o (RX.aQ ⟨R,out⟩ base term c snap) h'):=by
  intro Le H0 H' O B0 B1 k1 k2 k4 k5 k8 T;have D0:=T.aA (z2 _ (U8 _)) (λy=>y) C0;have D1:=T.aA (z2 _ (by omega)) (λy=>y) C1;obtain⟨g,ff,rr⟩:=T.aF;have C:=rr;simp only[fj.aJ]at C;have lr:=(UY.1 rr).1;have q0:(r=h.length)=False:=Vm (by omega);have q1:(r=h.length+1)=False:=Vm (by omega);have q2:(h.length=r)=False:=Vm (by omega);have q3:(h.length+1=r)=False:=Vm (by omega);simp only[mA,AC.aC,go_sem,k4,k5,k8,B0,B1];refine TA O u3.1 (u3.p.2 _ H' c _ (a1 T) a3) ?_;rw[iG];simp only[go_sem,D0,D1];refine fZ u4.1 (u4.q.2 _ H' snap _ (Z T) a2) ?_;rw[iG];simp only[go_sem,k1,k2,k4,k5,k8,D0,D1,C,fq.aP,q0,q1,lr,VX,U9];have T1:=fB.aH (R':={R with aA:={R.aA with aA:=R.aO base term,aD:=c,aG:=snap}}) T rr rfl rfl (λ_ z=>z);simp only[fj.aJ]at T1;have M0:=T1.aA (z2 _ (U8 _)) (λy=>y) C0;have M1:=T1.aA (z2 _ (by omega)) (λy=>y) C1;have a6:H.length<=(H'.set r (some (.aA 21 [R.aJ g ff] false))).length:=by obtain⟨_,_,_,e⟩:=T;rw[U9];exact e.1
  rw[U9]at a6;have a5:∀v,(H'.set r v).length=H'.length:=λv=>U9;generalize hH2:List.set H' r _=H2 at *;have hl3:H2.length=H'.length:=by rw[<-hH2];exact a5 _
  refine fy ⟨u3.1,u3.2 _ H2 c _ (a1 T1) a3⟩ ?_;rintro _ H3 ⟨o1,n1,e1,rfl,o2,n2,e2,X3⟩;have N0:=X3.aA M0;have N1:=X3.aA M1;rw[iG];simp only[go_sem,N0,N1];refine fy ⟨u4.1,u4.2 _ H3 snap _ (Rd.aE (λ_ y=>y) (X3.aE _) _ _ (Z T1)) a2⟩ ?_;rintro s1 H4 ⟨os,X4⟩;have P0:=X4.aA N0;have P1:=X4.aA N1;rw[iG];have x3:=X3.1;simp only[go_sem,P0,P1,gz os.aA];have tl:=fB.aD (Q':=λn=>H2.length<=n) T1 (X3.tr X4) (λn hn (z:H2.length<=n)=>by omega) λL1 x1=>(u5.2 (λn=>H2.length<=n) L1 H4 r o _ {gi.aI with aC:=3,aA:=⟨base,term,[]⟩,aG:=c,aJ:=snap} .aD o1 n1 e1 s1 (x1.up (X3.tr X4)) (eY.aD 3) (eY.aC _ (λ_ y=>y) (X4.aE _) _ o2) (eY.aC _ (λ_ y=>y) (X4.aE _) _ n2) (eY.aC _ (λ_ y=>y) (X4.aE _) _ e2) (eY.aC _ (λm hm=>by omega) (λ_ _ _ y=>y) _ os) (λn hn=>x1.ge hn) (rD (show out.aC.length<=j from hj.2) (by omega) 216 (by omega))).aA λ_ _ b=>b.aG m8;refine fy ⟨u5.1,tl⟩ ?_;intro _ H5 T5;rw[iG];simp only[go_sem];exact fB.aC X1 T5
 have e0:(mA f1 f2 f3 f4 f5).aA=.aA (mA f1 f2 f3 f4 f5).aA.hd (.aA (mA f1 f2 f3 f4 f5).aA.tl.hd (mA f1 f2 f3 f4 f5).aA.tl.tl):=rfl;rw[e0];generalize (mA f1 f2 f3 f4 f5).aA.tl.tl=D at u ⊢;have snd:=u;simp only[mA]at snd;clear u;obtain⟨g,ff,rr⟩:=M.aA;have C:=rr;simp only[fj.aJ]at C;have lr:=(UY.1 rr).1;simp only[mA,AC.aH,AC.aC,go_sem,ho.aA,hn.aA,he.aA];rw[<-hH];clear hH;simp only[go_sem,C];refine fZ u1.1 (u1.2 eZ H R.aA.aA _ base (mX R.aA.aA H) I) ?_;have q0:(r=h.length)=False:=Vm (by omega);have q1:(r=h.length+1)=False:=Vm (by omega);have q2:(h.length=r)=False:=Vm (by omega);have q3:(h.length+1=r)=False:=Vm (by omega);simp only[go_sem];have E:R.aO base term=⟨base,term,[]⟩->pT (H.set r (some (.aA 21 [[.aA .i64 R.id,.aA .i64 R.aA.aE,.aA .i64 R.aA.aC,.aA .i64 R.aA.aF,.aA .i64 base,.aA .i64 term,.aD,ga R.aA.aD.aA,ga R.aA.aD.aC,ga R.aA.aD.aD,iS R.aA.aG,
   .aA .i64 R.aE,.aA .i64 R.aF,.aA .i64 R.aI,.aA .i64 R.aV,.aA .i64 R.aK,.aA .i64 R.aX,g,ff,.aA .i64 R.bw,.aA .i64 R.aN]] false)))
   (H.set r (some (.aA 21 [({R with aA:={R.aA with aA:=R.aO base term}}:fj).aJ g ff] false))):=by
  intro es;have a4:jy 21 [({R with aA:={R.aA with aA:=⟨base,term,[]⟩}}:fj).aJ g ff]:=by obtain⟨g2,f2,U⟩:=M.r;have:=U.aA.symm.trans rr;simp only[U_,e_.aA.injEq,Wc,fj.aJ]at this;obtain⟨-,⟨⟨-,-,-,-,-,-,-,-,-,-,-,-,-,-,-,-,-,rfl,rfl,-⟩,-⟩,-⟩:=this;intro y hy;simp only[List.mem_singleton]at hy;subst hy;refine⟨rfl,?_⟩;simp only[fj.aJ,List.all_cons,List.all_nil,U.go.aA,U.fo.aA,qA,nH,tX,Bool.and_true,Xs];rfl
  have hl:=OL (h:=H.set r (some (.aA 21 [[.aA .i64 R.id,.aA .i64 R.aA.aE,.aA .i64 R.aA.aC,.aA .i64 R.aA.aF,.aA .i64 base,.aA .i64 term,.aD,ga R.aA.aD.aA,ga R.aA.aD.aC,ga R.aA.aD.aD,iS R.aA.aG,
   .aA .i64 R.aE,.aA .i64 R.aF,.aA .i64 R.aI,.aA .i64 R.aV,.aA .i64 R.aK,.aA .i64 R.aX,g,ff,.aA .i64 R.bw,.aA .i64 R.aN]] false))) (r:=r) (sz:=21) (gr:=false)
   (a:=[.aA .i64 R.id,.aA .i64 R.aA.aE,.aA .i64 R.aA.aC,.aA .i64 R.aA.aF,.aA .i64 base,.aA .i64 term]) (b:=[ga R.aA.aD.aA,ga R.aA.aD.aC,ga R.aA.aD.aD,iS R.aA.aG,
   .aA .i64 R.aE,.aA .i64 R.aF,.aA .i64 R.aI,.aA .i64 R.aV,.aA .i64 R.aK,.aA .i64 R.aX,g,ff,.aA .i64 R.bw,.aA .i64 R.aN]) (U5 lr) a4
  rw[VX]at hl;rw[es];exact hl
 cases c2:R.aA.aA.aF base
 ·have es:R.aO base term=⟨base,term,[]⟩:=by unfold fj.aO;rw[U6 (by rintro⟨z,-⟩;rw[c2]at z;cases z)]
  have T1:=fB.aH (R':={R with aA:={R.aA with aA:=R.aO base term}}) (M.to (W:=wA) (Q:=eZ)) rr rfl rfl (λ_ z=>z);simp only[go_sem,C,C0];refine snd _ _ _ (E es) ?_ ?_ ?_ ?_ ?_ ?_ ?_ T1<;>simp[fm,g_,q0,q1,C0,C1]
 ·by_cases c3:R.aA.aA.aH base=term
  ·have es:R.aO base term=R.aA.aA.aK base:=by unfold fj.aO;rw[U4 ⟨c2,c3⟩]
   have T1:=fB.aH (R':={R with aA:={R.aA with aA:=R.aO base term}}) (M.to (W:=wA) (Q:=eZ)) rr rfl rfl (λ_ z=>z);simp only[go_sem,C,C0,U3 c3];have cp:=u2.2 eZ H R.aA.aA _ base (mX R.aA.aA H) I;rw[<-es]at cp;simp only[fA.aM]at cp;refine fZ u2.1 cp ?_;rw[iG];simp only[go_sem,C,C0,c2,q0,lr];refine snd _ _ _ (pT.aA _) ?_ ?_ ?_ ?_ ?_ ?_ ?_ T1<;>simp[fm,g_,q0,q1,C0,C1]
  ·have es:R.aO base term=⟨base,term,[]⟩:=by unfold fj.aO;rw[U6 (λz=>c3 z.2)]
   have T1:=fB.aH (R':={R with aA:={R.aA with aA:=R.aO base term}}) (M.to (W:=wA) (Q:=eZ)) rr rfl rfl (λ_ z=>z);simp only[go_sem,C,C0,U2 c3];refine snd _ _ _ (E es) ?_ ?_ ?_ ?_ ?_ ?_ ?_ T1<;>simp[fm,g_,q0,q1,C0,C1]
theorem HI (st:fH):(∀b∈(gW st).1,b∈st.aC)/\(gW st).1.length<=st.aC.length/\(∀b∈(gW st).2.aC,b∈st.aC)/\(gW st).2.aC.length<=st.aC.length:=by
 cases st with
 | none=>exact⟨by simp[gW,fT],by simp[gW,fT],by simp[gW,fT,fH.aC],by simp[gW,fT,fH.aC]⟩
 | some l=>
  unfold gW fT;by_cases c:l.length<8;·simp[c,fH.aC]
  ·simp only[c,VI];by_cases c2:j_ (l.take 8)<0\/((l.drop 8).length:Int)<j_ (l.take 8);·rw[U4 c2];simp[fH.aC]
   ·rw[U6 c2];refine⟨λb hb=>VC (VR hb),?_,λb hb=>VC (VC hb),?_⟩;·show ((l.drop 8).take _).length<=l.length;simp only[Va,Vo];omega
    ·show ((l.drop 8).drop _).length<=l.length;simp only[Vo];omega
theorem uv.q {P:Program}{f:FuncId}(hc:uv P f):yG P f:=⟨hc.1,λG h l b hb h1 h2=>(hc.2 G h l b hb h1 h2).aC λ_ _ ⟨_,e,h3,h4⟩=>⟨h4,_,e▸gU.aC (gU.aA (fI.fz _ (λ_ x=>x) _ h3)) (gU.aD _ _),rfl⟩⟩
theorem Tv {l:List Int}(hb:gF l)(hl:l.length<=2^16):(gF (iL l).1/\(iL l).1.length<=2^16)/\gF (iL l).2.1/\(iL l).2.1.length<=2^16:=by obtain⟨a1,a2,a3,a4⟩:=HI (some l);obtain⟨b1,b2,b3,b4⟩:=HI (gW (some l)).2;have e:fH.aC (some l)=l:=rfl;rw[e]at a1 a2 a3 a4;exact⟨⟨λx hx=>hb x (a1 x hx),by show (gW (some l)).1.length<=_;omega⟩,λx hx=>hb x (a3 x (b1 x hx)),by show (gW (gW (some l)).2).1.length<=_;omega⟩
def yX (P:Program)(f:FuncId):Prop:=fK P f=true/\∀(L:Nat->Nat)(h:eX)(r o:Nat)(x:RX)(k j:Nat)(m:fJ)(a:List AV),h_ L h r o x->x.r.aD k->k<=2^28->x.aC j->j+1<2^20->kX L h m a->m.aJ->0<=m.aA/\m.aA<=2^40->
 fC P f [.aF [.aC r 21 0 0,.aC o 5 0 0],.aF a] h λ_ h'=>fB wA eZ L h r o (x.aP m) h'
theorem RY {P:Program}{f f1 f2 f3 f4 f5 f6:FuncId}(hf:Is P f (By f1 f2 f3 f4 f5 f6))(u1:wt P f1)(u2:sH P f2)(u3:r9 P f3)(u4:yG P f4)(u5:Is P f5 qf)(u6:wu P f6):yX P f:=by
 refine⟨hf.2,λL h r o x k j m a hx u hk hj ac hm ab hmi=>fS hf ?_⟩;obtain⟨G,hr,h0⟩:=id hm;obtain⟨e,d,rfl,he,hd⟩:=pL hr;obtain⟨ap1,ap2,a1⟩:=hx.aC;obtain⟨R,out⟩:=x;simp only at u;obtain⟨H,hH⟩:∃H,H=h++[some (e_.aA 2 [[.aC r 21 0 0,.aC o 5 0 0]] false)]++[some (e_.aA 17 [m.aD e d] false)]:=⟨_,rfl⟩;have X1:eW eZ h H:=by rw[hH];exact eW.b2 _ _
 have lH:H.length=h.length+2:=by rw[hH];simp
 have C0:H[h.length]?=some (some (e_.aA 2 [[.aC r 21 0 0,.aC o 5 0 0]] false)):=by rw[hH];exact jx _ _ _
 have C1:H[h.length+1]?=some (some (e_.aA 17 [m.aD e d] false)):=by rw[hH];exact iF _ _ _
 have U:=hx.up X1;have z2:∀m,h.length<=m->¬wA (L m):=λm e=>by rw[hx.ge e];exact jJ
 have W:fu (λn=>G n/\n<h.length) H m.c (m.aD e d):=fu.aA (λ_ y=>y) (X1.aE _) _ _ (fu.lt _ _ hr);obtain⟨g,ff,rr⟩:=U.aA;have E:=rr;have C:=C1;simp only[fj.aJ]at E;simp only[fJ.aD]at C hH;have lr:=(UY.1 rr).1;have q0:(r=h.length)=False:=Vm (by omega);have q1:(r=h.length+1)=False:=Vm (by omega);have q2:(h.length=r)=False:=Vm (by omega);have q3:(h.length+1=r)=False:=Vm (by omega);simp only[By,go_sem,fJ.aD,he.aA,hd.aA];rw[<-hH];clear hH;have a2:∀{B:eX}{L':Nat->Nat}{y H'} (_:fu (λn=>G n/\n<h.length) B m.c (m.aD e d)) (_:∀n,G n->L' n=0) (j:Nat) (ok:Bool) (ix:Int),fB wA eZ L' B r o y H'->y.aC j->j<2^20->fC P f1 [.aF [.aC r 21 0 0,.aC o 5 0 0],.aF (m.aD e d),.aE ok,.aA .i64 ix] H' λ_ ae=>fB wA eZ L' B r o (y.aS m ok ix) ae:=fun {B L' y H'} hb hl j ok ix T yf hj=>fB.aD (Q':=eZ) T (eW.aC _ _) (λ_ _ y=>y) λL1 x1=>(u1.2 L1 H' r o y j m _ (λn=>G n/\n<h.length) ok ix x1 yf hj (fu.aA (λ_ y=>y) (λn hn y hy=>T.aA (by rw[hl n hn.1];exact jJ) (λz=>z) hy) _ _ hb)).aA λ_ _ b=>b.aG m8;simp only[fJ.aD]at a2 W;simp only[go_sem,E];by_cases c1:m.aA<=R.aE
 ·have ea:(RX.aP ⟨R,out⟩ m)=RX.aS ⟨R,out⟩ m true R.aE:=by unfold RX.aP;rw[U4 c1]
  rw[ea];simp only[go_sem,E,C0,C,U3 c1];refine fy ⟨u1.1,a2 W h0 j true R.aE U.to hj (by omega)⟩ ?_;intro _ H2 T2;rw[iG];simp only[go_sem];exact fB.aC X1 T2
 ·simp only[go_sem,C,U2 c1];have ad:Rd (λn=>G n/\n<h.length) H (gq m.aF) d:=Rd.aE (λ_ y=>y) (X1.aE _) _ _ (Rd.lt _ _ hd);have Z:=ab.aA;refine fy ⟨u2.1,u2.2 _ H m.aF d ad Z.1 (by omega)⟩ ?_;rintro _ H2 ⟨q,rfl,hq,S2,X2⟩;have lq:=S2.lt;simp only[go_sem];refine fy ⟨u3.1,u3.2 _ H2 q _ S2 (by omega)⟩ ?_;rintro b1 H3 ⟨o1,S3,X3⟩;simp only[go_sem];refine fy ⟨u3.1,u3.2 _ H3 q _ S3 (by omega)⟩ ?_;rintro b2 H4 ⟨o2,S4,X4⟩;have l2:=X2.1;have l3:=X3.1;have l4:=X4.1;have af:eW (iC q) H2 H4:=X3.aD X4 (λ_ _ z=>z) (λ_ _ z=>z);have XH:eW eZ H H4:=⟨by omega,λm hm _=>(af.2 m (by omega) (by show m≠q;omega)).trans (X2.2 m hm (λz=>z))⟩;have a6:eY (gq (gW (some m.aF)).1) (λm=>H.length<=m/\m<q) H4 b1:=eY.aC _ (λ_ y=>y) (λn hn y hy=>(X4.2 n (UY.1 hy).1 (by show n≠q;omega)).trans hy) _ o1;obtain⟨M,a3⟩:=Tv Z.1 Z.2;have et:iL m.aF=((gW (some m.aF)).1,(gW (gW (some m.aF)).2).1,(gW (gW (some m.aF)).2).2.aD):=rfl;rw[et]at M a3;simp only at M a3;have D0:=XH.aA C0;have D1:=XH.aA C;have r4:=XH.aA E;simp only[go_sem];refine fZ u4.1 (u4.2 (λ_=>True) H4 _ b1 (eY.rd _ (λ_ _=>Vd) _ a6) M.1 (by omega)) ?_;obtain⟨cf,I⟩:∃cf,cf=im (gW (some m.aF)).1:=⟨_,rfl⟩;rw[<-I];simp only[go_sem,fq.aP,nH];have S5:=S4.up (eW.b1 (some (e_.aA 3 [[ga cf.1.aA,ga cf.1.aC,ga cf.1.aD]] false)));have X5:=XH.tr (eW.b1 (some (e_.aA 3 [[ga cf.1.aA,ga cf.1.aC,ga cf.1.aD]] false)));have C5:=gJ H4 (some (e_.aA 3 [[ga cf.1.aA,ga cf.1.aC,ga cf.1.aD]] false));have O:=U.up X5;have E0:=X5.aA C0;have E1:=X5.aA C;have a5:Rd (λn=>H.length<=n) (H4++[some (e_.aA 3 [[ga cf.1.aA,ga cf.1.aC,ga cf.1.aD]] false)]) (gq (gW (gW (some m.aF)).2).1) b2:=Rd.aE (λ_ y=>y) ((eW.b1 _).aE _) _ _ (eY.rd _ (λn hn=>hn.1) _ o2);have a9:=fu.aA (λ_ y=>y) (X5.aE _) _ _ W;have er:(RX.aP ⟨R,out⟩ m)=(if ¬(gW (gW (some m.aF)).2).2.aD=0\/¬cf.2=0 then ⟨R,out⟩ else
    let y:=RX.aQ ⟨R,out⟩ m.aA m.aH cf.1 (gW (gW (some m.aF)).2).1
    (⟨{y.r with aE:=m.aA,aF:=m.aA},{y.o with aA:=true}⟩:RX).aS m true m.aA):=by
   unfold RX.aP;rw[U6 c1];simp only[et,<-I]
  have l5:H4.length<(H4++[some (e_.aA 3 [[ga cf.1.aA,ga cf.1.aC,ga cf.1.aD]] false)]).length:=by simp
  generalize hH5:H4++_=H5 at *;refine fZ u5.2 (HC u5 S5) ?_;generalize (gW (gW (some m.aF)).2).2.aD=en at *;generalize (gW (gW (some m.aF)).2).1=sn at *;by_cases c2:en=0
  ·by_cases c3:cf.2=0
   ·rw[U6 (by rintro (z | z);exact z c2;exact z c3)]at er;simp only[go_sem,E0,E1,C5,U3 c2,U3 c3,VF];have bs:=u6.2 (λn=>H.length<=n) L H5 r o ⟨R,out⟩ j m.aA m.aH cf.1 _ sn b2 O (u.aD hk) hj (by omega) (fu.aA (F:=eZ) (λ_ z=>z.elim) (λ_ hm=>hm.elim) _ _ (tP cf.1 H5)) a5 (λn hn=>hx.ge (by omega)) (by have:=lA (uY (l:=(gW (some m.aF)).1) (by rw[<-I];exact c3));rw[<-I]at this;exact this.le (by decide)) (by omega);refine fy ⟨u6.1,bs⟩ ?_;intro _ H6 T6;obtain⟨g6,f6,r6⟩:=T6.aF;obtain⟨ma,ca,aa,o6,sma,sca,saa⟩:=T6.aN;have M0:=T6.aA (z2 _ (U8 _)) (λy=>y) E0;have M1:=T6.aA (z2 _ (by omega)) (λy=>y) E1;have a7:=(UY.1 r6).1;have a8:=(UY.1 o6).1;have w0:(o=h.length)=False:=Vm (by omega);have w1:(o=h.length+1)=False:=Vm (by omega);have w2:(h.length=o)=False:=Vm (by omega);have w3:(h.length+1=o)=False:=Vm (by omega);have w4:(r=o)=False:=Vm a1;have w5:(o=r)=False:=Vm (λz=>a1 z.symm);obtain⟨y,hy⟩:∃y,y=RX.aQ ⟨R,out⟩ m.aA m.aH cf.1 sn:=⟨_,rfl⟩;have yf:y.aC (j+1):=by rw[hy];exact RX.aC.aD (x:=({r:={R with aA:={R.aA with aA:=R.aO m.aA m.aH,aD:=cf.1,aG:=sn}},o:=out}:RX)) hj _
    rw[<-hy]at T6 r6 o6 er;have T7:=fB.aH (R:=y.r) (out:=y.o) (R':={y.r with aE:=m.aA,aF:=m.aA}) T6 r6 rfl rfl (λ_ z=>z);have o7:(H6.set r (some (.aA 21 [({y.r with aE:=m.aA,aF:=m.aA}:fj).aJ g6 f6] false)))[o]?=some (some (.aA 5 [[ma,ca,aa,.aA .i64 y.o.aE,.aE y.o.aA]] false)):=(UZ (λz=>a1 z)).trans o6;have T8:=fB.aO (n:=y.o.aE) (b:=true) T7 o7 (λ_ z=>z);have a4:=r6;simp only[fj.aJ]at a4 T8;simp only[go_sem,M0,M1,a4,o6,a7,a8,q0,q1,w0,w1,w4,VX,U9];have eo:({y.o with aE:=y.o.aE,aA:=true}:mu)={y.o with aA:=true}:=rfl;have an:=a2 a9 h0 (j+1) true m.aA T8 yf ac;refine fy ⟨u1.1,an⟩ ?_;intro _ H8 T9;rw[er];simp only[go_sem];exact fB.aC X1 (fB.aC X5 T9)
   ·rw[U4 (.inr c3)]at er;rw[er];simp only[go_sem,U3 c2,U2 c3,VF,VN];exact fB.aC X1 (fB.aC X5 O.to)
  ·rw[U4 (.inl c2)]at er;rw[er];simp only[go_sem,U2 c2,VN];exact fB.aC X1 (fB.aC X5 O.to)
theorem IG {l:List Int}(hb:gF l)(hl:l.length<=2^16):(gF (iL l).1/\(iL l).1.length<=2^16)/\gF (iL l).2.1/\(iL l).2.1.length<=2^16:=by
 have key:∀st:fH,(∀b∈(gW st).1,b∈st.aC)/\(gW st).1.length<=st.aC.length/\(∀b∈(gW st).2.aC,b∈st.aC)/\(gW st).2.aC.length<=st.aC.length:=by
  intro st;cases st with
  | none=>exact⟨by simp[gW,fT],by simp[gW,fT],by simp[gW,fT,fH.aC],by simp[gW,fT,fH.aC]⟩
  | some l=>
   unfold gW fT;by_cases c:l.length<8;·simp[c,fH.aC]
   ·simp only[c,VI];by_cases c2:j_ (l.take 8)<0\/((l.drop 8).length:Int)<j_ (l.take 8);·rw[U4 c2];simp[fH.aC]
    ·rw[U6 c2];refine⟨λb hb=>VC (VR hb),?_,λb hb=>VC (VC hb),?_⟩;·show ((l.drop 8).take _).length<=l.length;simp only[Va,Vo];omega
     ·show ((l.drop 8).drop _).length<=l.length;simp only[Vo];omega
 obtain⟨a1,a2,a3,a4⟩:=key (some l);obtain⟨b1,b2,b3,b4⟩:=key (gW (some l)).2;have e:fH.aC (some l)=l:=rfl;rw[e]at a1 a2 a3 a4;exact⟨⟨λx hx=>hb x (a1 x hx),by show (gW (some l)).1.length<=_;omega⟩,λx hx=>hb x (a3 x (b1 x hx)),by show (gW (gW (some l)).2).1.length<=_;omega⟩
section
variable {k j:Nat} {x:RX} {m:fJ}
theorem fj.aD.aP {x:fj}(h:x.aD k):({x with aK:=0}:fj).aD k:=by obtain⟨g1,g2,g3,g4,g5,g6,g7,g8,g9,g10,I,E,C,u,e⟩:=h;exact⟨g1,g2,g3,g4,g5,g6,g7,g8,g9,⟨Vi _,by show (0:Int)<=k;omega⟩,I,E,C,u,e⟩
theorem fj.aD.bG {x:fj}(h:x.aD k){v:Int}(hv:ia v):({x with aA:={x.aA with aF:=v}}:fj).aD k:=by obtain⟨g1,g2,g3,g4,g5,g6,g7,g8,g9,M,I,E,C,u,e⟩:=h;exact⟨g1,g2,g3,g4,g5,g6,g7,⟨g8.1,hv,g8.2.2⟩,g9,M,I,E,C,u,e⟩
theorem Kt (h:x.r.aD k)(hj:x.aC j)(hm:m.aJ):(x.aT m).r.aD k/\(x.aT m).aC (j+2):=by
 have e:x.aT m=(if lZ x.r.aA.aC x.r.aA.aF x.r.aA.aA m then (let z:RX:={x with r:={x.r with aK:=0}};if z.r.aA.aF=m.aC then z else z.aJ z.r.aA.aC m.aC) else x).aH {fJ.aK with aE:=2,to:=m.aC,ok:=lZ x.r.aA.aC x.r.aA.aF x.r.aA.aA m}:=rfl;rw[e];split
 ·simp only;split;·exact⟨h.aP,(RX.aC.aC (x:={x with r:={x.r with aK:=0}}) hj _).aA (by omega)⟩
  ·exact⟨h.aP.bG hm.aC.1,(RX.aC.aD (x:={x with r:={x.r with aK:=0,aA:={x.r.aA with aC:=x.r.aA.aC,aF:=m.aC}}}) hj _).aC _⟩
 ·exact⟨h,(hj.aC _).aA (by omega)⟩
theorem Ux (h:x.r.aD k)(hk:k<2^28)(hj:x.aC j):(x.aV m).r.aD (k+2)/\(x.aV m).aC (j+22):=by
 unfold RX.aV;split;·exact⟨h.aA (by omega),hj.aA (by omega)⟩
 ·have f:({x.r with aH:=x.r.aH++[m.aC]}:fj).aD (k+1):=by obtain⟨g1,g2,g3,g4,g5,g6,g7,g8,g9,I,E,C,g13,u,e⟩:=h.aA (WQ k);have:=h.aY;exact⟨g1,g2,g3,g4,g5,g6,g7,g8,g9,I,E,C,by show (x.r.aH++[m.aC]).length<=k+1+1;simp;omega,u,e⟩
  simp only;split;·exact⟨fj.aD.bz (x:={x with r:={x.r with aH:=x.r.aH++[m.aC]}}) f (by omega),RX.aC.aG (x:={x with r:={x.r with aH:=x.r.aH++[m.aC]}}) f (by omega) hj⟩
  ·exact⟨f.aA (by omega),RX.aC.aA (x:={x with r:={x.r with aH:=x.r.aH++[m.aC]}}) hj (by omega)⟩
theorem fV.aG.aD {w:fV}(h:w.aG)(m:fJ)(hi:0<=m.aA/\m.aA<=2^40):(w.aF m).aG:=by
 obtain⟨h1,⟨h2,h3⟩,h4,h5⟩:=h;unfold fV.aF;split
 ·split;·exact⟨h1,⟨by show 0<=max w.aC (max w.aD m.aA+1);omega,by show max w.aC (max w.aD m.aA+1)<=_;omega⟩,by show 0<=max w.aD m.aA;omega,by show max w.aD m.aA<=_;omega⟩
  ·exact⟨h1,⟨by show 0<=max (w.aD+1) (min (w.aC-1) (m.aA+1));omega,by show max (w.aD+1) (min (w.aC-1) (m.aA+1))<=_;omega⟩,h4,h5⟩
 ·exact⟨h1,⟨h2,h3⟩,h4,h5⟩
theorem fj.aD.bE {x:fj}(h:x.aD k)(i:Nat){w:fV}(hw:w.aG):({x with aC:=x.aC.set i w}:fj).aD k:=by
 obtain⟨g1,g2,g3,g4,g5,g6,g7,g8,g9,M,I,E,C,e,u⟩:=h;refine⟨g1,g2,g3,g4,g5,g6,g7,g8,g9,M,I,E,C,⟨by show (x.aC.set i w).length<=21;rw[U9];exact e.1,λy hy=>?_⟩,u⟩;rcases List.mem_or_eq_of_mem_set hy with z | z;·exact e.2 y z
 ·rw[z];exact hw
theorem Nv (h:x.r.aD k)(hj:x.aC j)(hi:0<=m.aA/\m.aA<=2^40):(x.aO m).r.aD k/\(x.aO m).aC (j+1):=by
 unfold RX.aO;split;·exact⟨h,hj.aA (by omega)⟩
 ·split;·exact⟨h,hj.aA (by omega)⟩
  ·rename_i i C;have u:i<x.r.aC.length:=by unfold tj at C;exact (List.findIdx?_eq_some_iff_getElem.1 C).1
   have ww:=(h.aG.2 _ (Vx u)).aD m hi;have e:(x.r.aC[i]?).getD ⟨0,0,0,0⟩=x.r.aC[i]:=by rw[U0 u];rfl
   rw[e];have f:=h.bE i ww;simp only;split<;>split<;>first
    | exact⟨f.aR,(RX.aC.aC (x:=RX.aK {x with r:={x.r with aC:=x.r.aC.set i (x.r.aC[i].aF m)}}) hj _)⟩
    | exact⟨f,(RX.aC.aC (x:={x with r:={x.r with aC:=x.r.aC.set i (x.r.aC[i].aF m)}}) hj _)⟩
    | exact⟨f.aR,RX.aC.aA (x:=RX.aK {x with r:={x.r with aC:=x.r.aC.set i (x.r.aC[i].aF m)}}) hj (WQ j)⟩
    | exact⟨f,RX.aC.aA (x:={x with r:={x.r with aC:=x.r.aC.set i (x.r.aC[i].aF m)}}) hj (WQ j)⟩
theorem Kj (h:x.r.aD k)(hj:x.aC j)(hm:m.aJ)(hi:0<=m.aA/\m.aA<=2^40):(x.aI m).r.aD (k+200)/\(x.aI m).aC (j+2):=by
 unfold RX.aI;split;·exact⟨h.aA (by omega),(RX.aC.aC hj _).aA (by omega)⟩
 ·split;·exact⟨h.aA (by omega),(RX.aC.aC hj _).aA (by omega)⟩
  ·rename_i c1 c2;simp only;have hp:x.r.aA.aA.aF m.aA=true:=by
    cases e:x.r.aA.aA.aF m.aA with
    | false=>exact absurd (.inl e) c2
    | true=>rfl
   split;·exact⟨h.aA (by omega),hj.aA (by omega)⟩
   ·rename_i c3;have hb:=h.aC;by_cases c4:0<x.r.aA.aA.aI m.aA m.es;·rw[U4 c4];obtain⟨f,el⟩:=h.aZ hm hi hp (by omega);have fc:=f.aM;refine⟨f.a_ (c:=max x.r.aE (min m.aI (m.aA+m.es.length))) (by show x.r.aE<=_;omega) (by show _<=(x.r.aA.aA.aE m.aA m.es).aC;rw[el];have:=fc.2.2;have e3:x.r.aE<=(x.r.aA.aA.aE m.aA m.es).aC:=this;omega),?_⟩;exact (RX.aC.aD (x:={x with r:={x.r with aA:={x.r.aA with aA:=x.r.aA.aA.aE m.aA m.es}}}) hj _).aC _
    ·rw[U6 c4];have h0:x.r.aA.aA.aI m.aA m.es=0:=by
      unfold fA.aI at c4 ⊢;split at c4;·have h1:=ky.1 hp;omega
      ·rename_i c;rw[U6 c]
     have hl:=fA.aO hb.1 hp h0;have:=h.aM;exact⟨(h.a_ (c:=max x.r.aE (min m.aI (m.aA+m.es.length))) (by omega) (by omega)).aA (by omega),(RX.aC.aC (x:={x with r:={x.r with aE:=max x.r.aE (min m.aI (m.aA+m.es.length))}}) hj _).aA (by omega)⟩
theorem Rf (h:x.r.aD k)(hj:x.aC j)(hm:m.aJ)(hi:0<=m.aA/\m.aA<=2^40):(x.aP m).r.aD k/\(x.aP m).aC (j+2):=by
 unfold RX.aP;split;·exact⟨h,(RX.aC.aC hj _).aA (by omega)⟩
 ·simp only;split;·exact⟨h,hj.aA (by omega)⟩
  ·rename_i c1 c2;obtain⟨tb1,e⟩:=IG hm.aA.1 hm.aA.2;have hc:(im (iL m.aF).1).2=0:=Vb λz=>c2 (.inr z);obtain⟨s1,s2,s3,s4,s5,s6,s7⟩:=Dl h ⟨hi.1,by omega⟩ hm.aC.2;exact⟨h.bt (c:=m.aA) (a:=m.aA) ⟨hi.1,by omega⟩ hm.aC.2 (uY hc) e ⟨Vi _,Vi _,s6⟩,
    RX.aC.aC (x:=(⟨{(x.aQ m.aA m.aH (im (iL m.aF).1).1 (iL m.aF).2.1).r with aE:=m.aA,aF:=m.aA},{(x.aQ m.aA m.aH (im (iL m.aF).1).1 (iL m.aF).2.1).o with aA:=true}⟩:RX)) (RX.aC.aD (x:={x with r:={x.r with aA:={x.r.aA with aA:=x.r.aO m.aA m.aH,aD:=(im (iL m.aF).1).1,aG:=(iL m.aF).2.1}}}) hj _) _⟩
def RX.aG (x:RX)(m:fJ):RX:=if x.r.aA.aC<m.aG then (x.aJ m.aG 0).aR 0 else x
theorem Ds (h:x.r.aD k)(hj:x.aC j)(hm:m.aJ):(x.aG m).r.aD k/\(x.aG m).aC (j+1)/\(x.aG m).r.aA.aA=x.r.aA.aA/\(x.aG m).r.aA.aD=x.r.aA.aD/\(x.aG m).r.aA.aE=x.r.aA.aE/\(x.aG m).r.aE=x.r.aE:=by
 unfold RX.aG;split;·rename_i c;have ht:=h.aI;refine⟨(h.aW (t:=m.aG) (v:=0) ⟨by omega,hm.aF⟩ ⟨by omega,by omega⟩).aK 0,?_,rfl,rfl,rfl,rfl⟩;exact RX.aC.aD (x:={x with r:={x.r with aA:={x.r.aA with aC:=m.aG,aF:=0}}}) hj _
 ·exact⟨h,hj.aA (by omega),rfl,rfl,rfl,rfl⟩
def RX.aY (y:RX)(m:fJ):RX:=
 if m.aE=1 then y.aT m else if m.aE=2 then y.aV m else if m.aE=4 then y.aO m
 else if y.r.aI=2 then y else
  let z:RX:={y with r:={y.r.aU m.aC with aK:=0}}
  if m.aE=3 then z.aI m else z.aP m
theorem vK (x:RX)(m:fJ):x.aU m=if ¬m.aL=x.r.aA.aE\/m.aE<1\/5<m.aE\/(m.aE=1/\x.r.aZ m.aC=false) then x else
 if m.aG<(x.aG m).r.aA.aC then
  (if m.aE=1 then (x.aG m).aH {fJ.aK with aE:=2,to:=m.aC} else if m.aE=3\/m.aE=5 then (x.aG m).aH {fJ.aK with aE:=4,to:=m.aC} else x.aG m)
 else (x.aG m).aY m:=rfl
theorem Tg (h:x.r.aD k)(hk:k<2^28)(hj:x.aC j)(hm:m.aJ)(h1:1<=m.aE/\m.aE<=5):(x.aY m).r.aD (k+200)/\(x.aY m).aC (j+22):=by
 unfold RX.aY;split;·obtain⟨a,b⟩:=Kt h hj hm;exact⟨a.aA (by omega),b.aA (by omega)⟩
 ·split;·obtain⟨a,b⟩:=Ux (m:=m) h hk hj;exact⟨a.aA (by omega),b.aA (by omega)⟩
  ·split;·obtain⟨a,b⟩:=Nv h hj (hm.aD (by omega));exact⟨a.aA (by omega),b.aA (by omega)⟩
   ·split;·exact⟨h.aA (by omega),hj.aA (by omega)⟩
    ·simp only;split;·obtain⟨a,b⟩:=Kj (x:={x with r:={x.r.aU m.aC with aK:=0}}) (h.aK m.aC).aP hj hm (hm.aD (by omega));exact⟨a,b.aA (by omega)⟩
     ·obtain⟨a,b⟩:=Rf (x:={x with r:={x.r.aU m.aC with aK:=0}}) (h.aK m.aC).aP hj hm (hm.aD (by omega));exact⟨a.aA (by omega),b.aA (by omega)⟩
theorem Dp (h:x.r.aD k)(hk:k<2^28)(hj:x.aC j)(hm:m.aJ):(x.aU m).r.aD (k+200)/\(x.aU m).aC (j+23):=by
 rw[vK];split;·exact⟨h.aA (by omega),hj.aA (by omega)⟩
 ·rename_i c;obtain⟨t1,t2,-⟩:=Ds h hj hm;split
  ·split;·exact⟨t1.aA (by omega),(RX.aC.aC t2 _).aA (by omega)⟩
   ·split;·exact⟨t1.aA (by omega),(RX.aC.aC t2 _).aA (by omega)⟩
    ·exact⟨t1.aA (by omega),t2.aA (by omega)⟩
  ·exact Tg t1 hk t2 hm ⟨by omega,by omega⟩
theorem uV (h:x.r.aD k):x.aA.r.aD k/\x.aA.o.aD=x.o.aD/\x.aA.o.aC=x.o.aC:=by
 have f:x.r.aS.aD k:=by unfold fj.aS;split;exact h.aK 0;exact h
 unfold RX.aA;simp only;split;·exact⟨f,rfl,rfl⟩
 ·refine⟨?_,rfl,rfl⟩;obtain⟨g1,g2,g3,g4,g5,g6,g7,g8,g9,M,I,E,C,u,e⟩:=f;exact⟨g1,g2,g3,g4,g5,g6,g7,g8,⟨W7 g9.1 g9.2.1,Vi _,g9.2.2⟩,M,I,E,C,u,e⟩
theorem Ix (h:x.r.aD k)(hk:k<2^28)(hj:x.aC j)(ht:x.r.aA.aC<2^40)(u:Int):(x.aW u).r.aD (k+1)/\(x.aW u).aC (j+23):=by
 have h0:=h.aI;have f:=(h.aW (t:=x.r.aA.aC+1) (v:=x.r.id) ⟨by omega,by omega⟩ ⟨by have:=h.id;omega,by have:=h.id;omega⟩).aK 0;obtain⟨z,hz⟩:∃z:RX,z={(x.aJ (x.r.aA.aC+1) x.r.id).aR 0 with r:={((x.aJ (x.r.aA.aC+1) x.r.id).aR 0).r with aI:=1,aK:=0,aX:=mi u,aH:=[((x.aJ (x.r.aA.aC+1) x.r.id).aR 0).r.id]}}:=⟨_,rfl⟩;have e:x.aW u=if z.r.aM.aH z.r.aH then z.aN else z.aL (kh z.r.id z.r.aA.aE z.r.aA.aC z.r.aA.aA z.r.aM):=by rw[hz];rfl
 have zf:z.r.aD k:=by rw[hz];obtain⟨g1,g2,g3,g4,g5,g6,g7,g8,g9,g10,M,I,g13,E,C⟩:=f;exact⟨g1,g2,g3,g4,g5,g6,g7,g8,g9,⟨Vi _,by show (0:Int)<=k;omega⟩,M,I,by show [_].length<=k+1;simp,E,C⟩
 have zw:z.aC (j+1):=by rw[hz];exact RX.aC.aD (x:={x with r:={x.r with aA:={x.r.aA with aC:=x.r.aA.aC+1,aF:=x.r.id}}}) hj _
 rw[e];split;·exact⟨zf.bz (by omega),zw.aG zf (by omega)⟩
 ·have hl:(kh z.r.id z.r.aA.aE z.r.aA.aC z.r.aA.aA z.r.aM).length<=21:=Vh (EX _ _ _ _ _) (Vh (ye zf.aQ) (by omega));obtain⟨a,-,-⟩:=Dh (kh z.r.id z.r.aA.aE z.r.aA.aC z.r.aA.aA z.r.aM) z;exact⟨by rw[a];exact zf.aA (by omega),(zw.aH hl).aA (by omega)⟩
end
theorem mR (r:fj):r.aG.aC 0:=⟨U8 _,U8 _⟩
theorem CN {k j:Nat}{x:RX}(h:x.r.aD k)(hj:x.aC j):x.on.r.aD k/\x.on.aC (j+21):=⟨by show (RX.aM _ _).r.aD k;rw[(tg _ _).1];exact h,hj.aF h.aG.1⟩
theorem fj.bC {k:Nat}{x:fj}(h:x.aD k)(hk:k+2<2^28)(I:Int):(x.aR I).r.aD (k+2):=by
 unfold fj.aR;split
 ·refine (uV ?_).1;have hb:=h.bu;split
  ·have f:({x with aN:=0}:fj).aD k:=by obtain⟨g1,g2,g3,g4,g5,g6,g7,g8,g9,M,O,E,C,u,e⟩:=h;exact⟨g1,g2,g3,g4,g5,g6,g7,g8,g9,M,⟨Vi _,by show (0:Int)<=1;omega⟩,E,C,u,e⟩
   exact (CN (x:=({x with aN:=0}:fj).aG) f (mR _)).1.aA (by omega)
  ·rename_i c;obtain⟨g1,g2,g3,g4,g5,g6,g7,g8,g9,M,O,E,C,u,e⟩:=h.aA (show k<=k+2 by omega);exact⟨g1,g2,g3,g4,g5,g6,g7,g8,g9,M,⟨by show 0<=x.aN+1;omega,by show x.aN+1<=1;omega⟩,E,C,u,e⟩
 ·simp only;have f:({x with aK:=x.aK+1}:fj).aD (k+1):=by have he:=h.aX;obtain⟨g1,g2,g3,g4,g5,g6,g7,g8,g9,M,O,E,C,u,e⟩:=h.aA (WQ k);exact⟨g1,g2,g3,g4,g5,g6,g7,g8,g9,⟨by show 0<=x.aK+1;omega,by show x.aK+1<=((k+1:Nat):Int);omega⟩,O,E,C,u,e⟩
  refine (uV ?_).1;split;·rename_i c;exact (Ix (x:=({x with aK:=x.aK+1}:fj).aG) f (by omega) (mR _) c.2.2.1 I).1
  ·exact f.aA (by omega)
theorem fj.bD {k:Nat}{x:fj}(h:x.aD k)(hk:k<2^28){m:fJ}(hm:m.aJ):(x.bt m).r.aD (k+200):=(uV (Glb.Dp (x:=x.aG) h hk (mR _) hm).1).1
def DC.aE:DC->AC->DC
 | .aD a d,r=>.aD a (d.aE r)
 | .aC o g xs _,r=>.aC o g xs r
def DC.aA:DC->AC
 | .aD _ d=>d.aA
 | .aC _ _ _ r=>r
theorem DC.aI (a:AC)(d:DC)(r:AC):(DC.aD a d).aE r=.aD a (d.aE r):=rfl
theorem DC.aH (o:List AO)(g:FuncId)(xs:List fE)(x r:AC):(DC.aC o g xs x).aE r=.aC o g xs r:=rfl
theorem DC.aG (a:AC)(d:DC):(DC.aD a d).aA=d.aA:=rfl
theorem DC.aF (o:List AO)(g:FuncId)(xs:List fE)(x:AC):(DC.aC o g xs x).aA=x:=rfl
structure iI (L:Nat->Nat)(h:eX)(r:Nat)(x:fj):Prop where
 r:∃g f,nM L h r x g f
 aA:∀m,L m≠0->m<h.length/\(L m=1\/L m=2\/L m=6)
def jU (L:Nat->Nat)(h:eX)(r:Nat)(x:RX)(v:AV)(h':eX):Prop:=∃L' o ma ca aa,v=.aF [ma,ca,aa,.aA .i64 x.o.aE,.aE x.o.aA]/\(∃g f,nM L' h' r x.r g f)/\pn L' h' o x.o ma ca aa/\(∀m,L' m≠0->m<h'.length)/\h.length<=o /\
 (∀m,m<h.length->L' m=L m)/\eW (λm=>wA (L m)) h h'
theorem iI.aD {L h r x h0 o}(a:iI L h r x)(hx:eW eZ h h0) (ho:h0[o]?=some (some (.aA 5 [[.aD,.aD,.aD,.aA .i64 0,.aE false]] false))) (hlo:h.length<=o):h_ (λm=>if m=o then 7 else L m) h0 r o x.aG:=by
 obtain⟨⟨g,f,ra⟩,lab⟩:=a;have hl:=hx.1;have e:∀m,m<h.length->(if m=o then 7 else L m)=L m:=λm hm=>U6 (by omega);refine⟨⟨g,f,ra.aC (λm hm _=>e m hm) λm hm _=>hx.2 m hm (λy=>y)⟩,⟨.aD,.aD,.aD,ho,eY.aD 17,Vd,eY.aD 17,Vd,eY.aD 3,U4 rfl⟩,λm hm=>?_⟩;by_cases c:m=o;·rw[c];exact (UY.1 ho).1
 ·simp only[U6 c]at hm;have:=(lab m hm).1;omega
theorem iI.lt {L h r x}(a:iI L h r x):r<h.length:=let⟨_,_,ra⟩:=a.r;(a.aA r (by rw[ra.lr];omega)).1
theorem iI.ge {L h r x}(a:iI L h r x){m:Nat}(hm:h.length<=m):L m=0:=Vb λz=>by have:=(a.aA m z).1;omega
theorem fB.aJ {L h r x h0 o X h'}(a:iI L h r x)(hx:eW eZ h h0)(u:h.length<=o)(T:fB wA eZ (λm=>if m=o then 7 else L m) h0 r o X h'):
  ∃ma ca aa,h'[o]?=some (some (.aA 5 [[ma,ca,aa,.aA .i64 X.o.aE,.aE X.o.aA]] false))/\ma.aH=true/\ca.aH=true/\aa.aH=true/\jU L h r X (.aF [ma,ca,aa,.aA .i64 X.o.aE,.aE X.o.aA]) h':=by
 obtain⟨L1,x1,l1,e1⟩:=T;obtain⟨ma,ca,aa,oa⟩:=x1.o;have hl:=hx.1;have e:∀m,m<h.length->(if m=o then 7 else L m)=L m:=λm hm=>U6 (by omega);refine⟨ma,ca,aa,oa.aA,oa.m.aA,oa.c.aA,oa.a.aA,L1,o,ma,ca,aa,rfl,x1.r,oa,x1.lt,u,λm hm=>(l1 m (by omega) (.inr (λz=>z))).trans (e m hm),?_⟩;refine⟨by have:=e1.1;omega,λm hm hn=>(e1.2 m (by omega) ?_).trans (hx.2 m hm (λz=>z))⟩;rintro (z | z);·exact hn (by have z':wA (if m=o then 7 else L m):=z;rw[e m hm]at z';exact z')
 ·exact z
theorem kX.aA {L h r x m a h0 o}(hm:kX L h m a)(ha:iI L h r x)(hx:eW eZ h h0)(hlo:h.length<=o):kX (λm=>if m=o then 7 else L m) h0 m a:=by obtain⟨G,hr,e⟩:=hm;exact⟨λn=>G n/\n<h.length,fu.aA (λ_ y=>y) (hx.aE _) _ _ (fu.lt _ _ hr),λn hn=>by show (if n=o then 7 else L n)=0;rw[U6 (by have:=hn.2;omega)];exact e n hn.1⟩
def yZ (P:Program)(f:FuncId):Prop:=fK P f=true/\∀(L:Nat->Nat)(h:eX)(r:Nat)(x:fj)(k:Nat)(m:fJ)(a:List AV),iI L h r x->x.aD k->k+200<=2^28->kX L h m a->m.aJ->
 fC P f [.aC r 21 0 0,.aF a] h λv h'=>jU L h r (x.bt m) v h'
theorem Sa {P:Program}{f f1 f2 f3 f4 f5 f6 f7 f8 f9 I E:FuncId}(hf:wa P f (jE f1 f2 f3 f4 f5 f6 f7 f8 f9 I E))(u1:rZ P f1)(u2:wx P f2)(u3:uG P f3)(u4:uF P f4)(u5:qJ P f5)(u6:qS P f6)
  (u7:yT P f7) (u8:y0 P f8) (u9:yV P f9) (ag:yS P I) (af:yX P E):yZ P f:=by
 refine⟨hf.1,λL h r x k m a hx a2 hk hm a7=>F8 hf.2 (V3 rfl) ?_⟩;show oK P (jE f1 f2 f3 f4 f5 f6 f7 f8 f9 I E).aA ⟨[(0,.aC r 21 0 0),(1,.aF a)],[],h⟩ (p8 P (jE f1 f2 f3 f4 f5 f6 f7 f8 f9 I E).aC _);obtain⟨G,hr,h0⟩:=id hm;obtain⟨e,d,rfl,he,hd⟩:=pL hr;have O:∀(o n5:Nat)(L0:Nat->Nat)(H H':eX)(Le:fX),o=h.length+1->h.length+2<=n5->L0=(λm=>if m=o then 7 else L m)->eW eZ h H->h_ L0 H r o x.aG->kX L0 H m (m.aD e d)->
   H[h.length]?=some (some (e_.aA 17 [m.aD e d] false))->H[n5]?=some (some (e_.aA 2 [[.aC r 21 0 0,.aC o 5 0 0]] false))->lk 0 Le=.aC r 21 0 0->lk 3 Le=.aC h.length 17 0 0->lk 4 Le=.aC o 5 0 0->lk 5 Le=.aC n5 2 0 0->
   ¬(¬m.aL=x.aG.r.aA.aE\/m.aE<1\/5<m.aE\/(m.aE=1/\x.aG.r.aZ m.aC=false))->fB wA eZ L0 H r o (x.aG.aG m) H'->
   vc P (jE f1 f2 f3 f4 f5 f6 f7 f8 f9 I E).aA.aA.tl.tl ⟨Le,[],H'⟩ (p8 P (jE f1 f2 f3 f4 f5 f6 f7 f8 f9 I E).aC (λv h'=>jU L h r (x.bt m) v h') f2 [.aF [.aC r 21 0 0,.aC o 5 0 0]]):=by
  intro o n5 L0 H H' Le ho a6 a3 X M U B0 B5 k0 k3 k4 k5 a8 T;have zL:∀n,h.length<=n->n≠o->¬wA (L0 n):=λn hn ac=>by rw[a3];show ¬wA (if n=o then 7 else L n);rw[U6 ac,hx.ge hn];exact jJ
  have fin:∀(Le:fX)(H':eX)(y:RX),x.aG.aU m=y->lk 4 Le=.aC o 5 0 0->fB wA eZ L0 H r o y H'->
    ta P f2 [.aF [.aC r 21 0 0,.aC o 5 0 0]] H' (tG (jE f1 f2 f3 f4 f5 f6 f7 f8 f9 I E).aC Le λv h'=>jU L h r (x.bt m) v h'):=by
   intro Le H' y ey k4 T;have yf:=(Dp (x:=x.aG) (m:=m) a2 (by omega) (mR _) a7).1;rw[ey]at yf;obtain⟨L1,x1,l1,e1⟩:=T;refine Ce ⟨u2.1,u2.2 L1 H' r o y (k+200) x1 yf (by omega)⟩ ?_;intro _ ae T2;have T3:=fB.aE l1 e1 (λ_ _ y=>y) T2;have es:x.bt m=y.aA:=by show (x.aG.aU m).aA=_;rw[ey]
   rw[a3]at T3;obtain⟨ma,ca,aa,row,s1,s2,s3,out⟩:=T3.aJ hx X (by omega);rw[es];simp only[jE,go_sem,k4,row];exact out
  obtain⟨t1,t2,t3,t4,t5,t6⟩:=Ds (x:=x.aG) (m:=m) a2 (mR _) a7;have C:x.aG.aU m=if m.aG<(x.aG.aG m).r.aA.aC then
    (if m.aE=1 then (x.aG.aG m).aH {fJ.aK with aE:=2,to:=m.aC} else if m.aE=3\/m.aE=5 then (x.aG.aG m).aH {fJ.aK with aE:=4,to:=m.aC} else x.aG.aG m)
   else (x.aG.aG m).aY m:=by rw[vK,U6 a8]
  have k15:1<=m.aE/\m.aE<=5:=by
   constructor;·exact Vb λz=>a8 (.inr (.inl (by omega)))
   ·exact Vb λz=>a8 (.inr (.inr (.inl (by omega))))
  have u:=fin;simp only[jE]at u;clear fin;generalize x.aG.aG m=y at *;have D0:=T.aA (zL _ (U8 _) (by omega)) (λz=>z) B0;have D5:=T.aA (zL _ (by omega) (by omega)) (λz=>z) B5;obtain⟨g,ff,rr⟩:=T.aF;have a1:=rr;simp only[fj.aJ]at a1;simp only[fJ.aD]at D0;have a9:∀(kd:Int),fC P f6 [.aF [.aC r 21 0 0,.aC o 5 0 0],.aF (({fJ.aK with aE:=kd,to:=m.aC}:fJ).aD .aD .aD)] H' λ_ ae=>fB wA eZ L0 H r o (y.aH {fJ.aK with aE:=kd,to:=m.aC}) ae:=λkd=>fB.aD (Q':=eZ) T (eW.aC _ _) (λ_ _ y=>y) λL1 x1=>(u6.2 eZ L1 H' r o y {fJ.aK with aE:=kd,to:=m.aC} .aD .aD x1 (eY.aD 3) (eY.aD 1) (λ_ z=>z.elim) (rD t2.1 (by omega) 168 (by omega))).aA λ_ _ b=>b.aG m8;have s2:=a9 2;have s4:=a9 4;simp only[fJ.aD,fJ.aK]at s2 s4;have lr:=(UY.1 rr).1;simp only[jE,DC.aG,DC.aF,AC.aC,go_sem,k0,k3,D0,a1];have use:∀{g:FuncId}{y':RX}{Le:fX}{H2:eX}(_:fK P g=true),True:=λ_=>Vd;by_cases c1:m.aG<y.r.aA.aC
  ·rw[U4 c1]at C;simp only[go_sem,k3,D0,U3 c1];by_cases c2:m.aE=1;·rw[U4 c2]at C;simp only[go_sem,k3,k5,D0,D5,U3 c2];refine fy ⟨u6.1,s2⟩ ?_;intro _ H2 T2;simp only[go_sem];exact u _ H2 _ C (by simp[fm,k4]) T2
   ·rw[U6 c2]at C;simp only[go_sem,U2 c2];by_cases c3:m.aE=3;·rw[U4 (.inl c3)]at C;simp only[go_sem,k3,k5,D0,D5,U3 c3];refine fy ⟨u6.1,s4⟩ ?_;intro _ H2 T2;simp only[go_sem];exact u _ H2 _ C (by simp[fm,k4]) T2
    ·simp only[go_sem,U2 c3];by_cases c4:m.aE=5;·rw[U4 (.inr c4)]at C;simp only[go_sem,k3,k5,D0,D5,U3 c4];refine fy ⟨u6.1,s4⟩ ?_;intro _ H2 T2;simp only[go_sem];exact u _ H2 _ C (by simp[fm,k4]) T2
     ·rw[U6 (by rintro (z | z);exact c3 z;exact c4 z)]at C;simp only[go_sem,U2 c4];exact u _ H' _ C (by simp[fm,k4]) T
  ·rw[U6 c1]at C;have et:y.aY m=if m.aE=1 then y.aT m else if m.aE=2 then y.aV m else if m.aE=4 then y.aO m
    else if y.r.aI=2 then y else
     let z:RX:={y with r:={y.r.aU m.aC with aK:=0}}
     if m.aE=3 then z.aI m else z.aP m:=rfl
   rw[et]at C;simp only[go_sem,k3,D0,U2 c1];have q7:=fB.aI T U jJ λL1 x1 m1=>u7.2 L1 H' r o y k 1 m _ x1 t1 (by omega) t2 (by omega) m1;have q8:=fB.aI T U jJ λL1 x1 m1=>u8.2 L1 H' r o y k 1 m _ x1 t1 (by omega) t2 (by omega) m1;simp only[fJ.aD]at q7 q8;by_cases c2:m.aE=1;·rw[U4 c2]at C;simp only[go_sem,k3,k5,D0,D5,U3 c2];refine fy ⟨u7.1,q7⟩ ?_;intro _ H2 T2;simp only[go_sem];exact u _ H2 _ C (by simp[fm,k4]) T2
   ·rw[U6 c2]at C;simp only[go_sem,U2 c2];by_cases c3:m.aE=2;·rw[U4 c3]at C;simp only[go_sem,k3,k5,D0,D5,U3 c3];refine fy ⟨u8.1,q8⟩ ?_;intro _ H2 T2;simp only[go_sem];exact u _ H2 _ C (by simp[fm,k4]) T2
    ·rw[U6 c3]at C;simp only[go_sem,U2 c3];have ad:=a7.aD (by omega);by_cases c4:m.aE=4;·rw[U4 c4]at C;simp only[go_sem,k3,k5,D0,D5,U3 c4];have q9:=fB.aI T U jJ λL1 x1 m1=>u9.2 L1 H' r o y k 1 m _ x1 t1 (by omega) t2 (by omega) m1 ad;simp only[fJ.aD]at q9;refine fy ⟨u9.1,q9⟩ ?_;intro _ H2 T2;simp only[go_sem];exact u _ H2 _ C (by simp[fm,k4]) T2
     ·rw[U6 c4]at C;simp only[go_sem,k0,a1,U2 c4];by_cases c5:y.r.aI=2;·rw[U4 c5]at C;simp only[go_sem,U3 c5];exact u _ H' _ C (by simp[fm,k4]) T
      ·rw[U6 c5]at C;simp only[go_sem,k0,k3,D0,U2 c5];have fl:=fB.aD (Q':=eZ) T (eW.aC _ _) (λ_ _ y=>y) λL1 x1=>u5.2 L1 H' r o y m.aC x1;refine fy ⟨u5.1,fl⟩ ?_;intro _ H2 T2;have ef:y.aR m.aC=⟨y.r.aU m.aC,y.o⟩:=rfl;rw[ef]at T2;have E0:=T2.aA (zL _ (U8 _) (by omega)) (λz=>z) B0;have E5:=T2.aA (zL _ (by omega) (by omega)) (λz=>z) B5;simp only[fJ.aD]at E0;have hlr:=hx.lt;have w0:(r=h.length)=False:=Vm (by omega);have w5:(r=n5)=False:=Vm (by omega);obtain⟨g2,ff2,r2⟩:=T2.aF;have al:=(UY.1 r2).1;have T3:=fB.aH (R:=y.r.aU m.aC) (out:=y.o) (R':={y.r.aU m.aC with aK:=0}) T2 r2 rfl rfl (λ_ z=>z);have ah:=r2;simp only[fj.aJ]at ah T3;simp only[go_sem,k0,k3,ah,al,w0,E0];generalize hH3:H2.set r _=H3 at *;have M0:=T3.aA (zL _ (U8 _) (by omega)) (λz=>z) B0;have M5:=T3.aA (zL _ (by omega) (by omega)) (λz=>z) B5;simp only[fJ.aD]at M0;have zf:({y.r.aU m.aC with aK:=0}:fj).aD k:=(t1.aK m.aC).aP;have zw:(⟨{y.r.aU m.aC with aK:=0},y.o⟩:RX).aC 1:=t2;by_cases c6:m.aE=3
       ·have C:x.aG.aU m=RX.aI ⟨{y.r.aU m.aC with aK:=0},y.o⟩ m:=by rw[C];exact U4 c6
        simp only[go_sem,k3,k5,M0,M5,U3 c6];have aj:=fB.aI T3 U jJ λL1 x1 m1=>ag.2 L1 H3 r o _ k 1 m _ x1 zf (by omega) zw (by omega) m1 a7 ad;simp only[fJ.aD]at aj;refine fy ⟨ag.1,aj⟩ ?_;intro _ H4 T4;simp only[go_sem];exact u _ H4 _ C (by simp[fm,k4]) T4
       ·have C:x.aG.aU m=RX.aP ⟨{y.r.aU m.aC with aK:=0},y.o⟩ m:=by rw[C];exact U6 c6
        simp only[go_sem,k3,k5,M0,M5,U2 c6];have ai:=fB.aI T3 U jJ λL1 x1 m1=>af.2 L1 H3 r o _ k 1 m _ x1 zf (by omega) zw (by omega) m1 a7 ad;simp only[fJ.aD]at ai;refine fy ⟨af.1,ai⟩ ?_;intro _ H4 T4;simp only[go_sem];exact u _ H4 _ C (by simp[fm,k4]) T4
 have Z:∀(o n5:Nat)(L0:Nat->Nat)(H:eX)(Le:fX),o=h.length+1->h.length+2<=n5->L0=(λm=>if m=o then 7 else L m)->eW eZ h H->h_ L0 H r o x.aG->kX L0 H m (m.aD e d)->
   H[h.length]?=some (some (e_.aA 17 [m.aD e d] false))->H[n5]?=some (some (e_.aA 2 [[.aC r 21 0 0,.aC o 5 0 0]] false))->lk 0 Le=.aC r 21 0 0->lk 3 Le=.aC h.length 17 0 0->lk 4 Le=.aC o 5 0 0->lk 5 Le=.aC n5 2 0 0->
   ¬(¬m.aL=x.aA.aE\/m.aE<1\/5<m.aE\/(m.aE=1/\x.aZ m.aC=false))->
   vc P (jE f1 f2 f3 f4 f5 f6 f7 f8 f9 I E).aA.aA.tl ⟨Le,[],H⟩ (p8 P (jE f1 f2 f3 f4 f5 f6 f7 f8 f9 I E).aC (λv h'=>jU L h r (x.bt m) v h') f2 [.aF [.aC r 21 0 0,.aC o 5 0 0]]):=by
  intro o n5 L0 H Le ho a6 a3 X M U B0 B5 k0 k3 k4 k5 a8;have e3:(jE f1 f2 f3 f4 f5 f6 f7 f8 f9 I E).aA.aA.tl=.aA (jE f1 f2 f3 f4 f5 f6 f7 f8 f9 I E).aA.aA.tl.hd (jE f1 f2 f3 f4 f5 f6 f7 f8 f9 I E).aA.aA.tl.tl:=rfl;rw[e3];generalize (jE f1 f2 f3 f4 f5 f6 f7 f8 f9 I E).aA.aA.tl.tl=D at O ⊢;have snd:=O;simp only[jE]at snd;obtain⟨g,ff,rr⟩:=M.aA;have a1:=rr;have W:=B0;simp only[fj.aJ]at a1;simp only[fJ.aD]at W;have e1:x.aG.r=x:=rfl;simp only[jE,DC.aG,DC.aF,AC.aH,AC.aC,go_sem,k0,k3,W,a1];by_cases c:x.aA.aC<m.aG;·have et:x.aG.aG m=(x.aG.aJ m.aG 0).aR 0:=U4 c;rw[et]at snd;simp only[go_sem,k3,k5,W,B5,e1,U3 c];have tm:=u4.2 L0 H r o x.aG m.aG 0 M (by show (0+1)*216<=2^46;decide);refine fy ⟨u4.1,tm⟩ ?_;intro _ H4 T4;simp only[go_sem,k0];have fl:=fB.aD (Q':=eZ) T4 (eW.aC _ _) (λ_ _ y=>y) λL1 x1=>u5.2 L1 H4 r o _ 0 x1;refine fy ⟨u5.1,fl⟩ ?_;intro _ H5 T5;simp only[go_sem];refine snd o n5 L0 H H5 _ ho a6 a3 X M U B0 B5 ?_ ?_ ?_ ?_ a8 T5<;>simp[fm,k0,k3,k4,k5]
  ·have et:x.aG.aG m=x.aG:=U6 c;rw[et]at snd;simp only[go_sem,e1,U2 c];refine snd o n5 L0 H H _ ho a6 a3 X M U B0 B5 ?_ ?_ ?_ ?_ a8 M.to<;>simp[fm,k0,k3,k4,k5]
 have e0:(jE f1 f2 f3 f4 f5 f6 f7 f8 f9 I E).aA=(jE f1 f2 f3 f4 f5 f6 f7 f8 f9 I E).aA.aE (.aA (jE f1 f2 f3 f4 f5 f6 f7 f8 f9 I E).aA.aA.hd (jE f1 f2 f3 f4 f5 f6 f7 f8 f9 I E).aA.aA.tl):=rfl;rw[e0];clear O;generalize (jE f1 f2 f3 f4 f5 f6 f7 f8 f9 I E).aA.aA.tl=D at Z ⊢;simp only[jE,DC.aI,DC.aH,DC.aG,DC.aF,AC.aH,go_sem,fJ.aD,he.aA,hd.aA];obtain⟨H2,a5⟩:∃H2,H2=h++[some (e_.aA 17 [m.aD e d] false)]++[some (e_.aA 5 [[.aD,.aD,.aD,.aA .i64 0,.aE false]] false)]:=⟨_,rfl⟩;have X2:eW eZ h H2:=by rw[a5];exact eW.b2 _ _
 have l2:H2.length=h.length+2:=by rw[a5];simp
 have C0:H2[h.length]?=some (some (e_.aA 17 [m.aD e d] false)):=by rw[a5];exact jx _ _ _
 have C1:H2[h.length+1]?=some (some (e_.aA 5 [[.aD,.aD,.aD,.aA .i64 0,.aE false]] false)):=by rw[a5];exact iF _ _ _
 simp only[fJ.aD]at a5;rw[<-a5];clear a5;refine fy ⟨u1.1,u1.2 H2 r (h.length+1)⟩ ?_;rintro _ H3 ⟨rfl,X3⟩;simp only[go_sem];obtain⟨H,hH⟩:∃H,H=H3++[some (e_.aA 2 [[.aC r 21 0 0,.aC (h.length+1) 5 0 0]] false)]:=⟨_,rfl⟩;obtain⟨n5,ak⟩:∃n5,n5=H3.length:=⟨_,rfl⟩;have l3:=X3.1;have X:eW eZ h H:=by rw[hH];exact (X2.tr X3).tr (eW.b1 _)
 have B0:H[h.length]?=some (some (e_.aA 17 [m.aD e d] false)):=by rw[hH];exact (eW.b1 _).aA (X3.aA C0)
 have B1:H[h.length+1]?=some (some (e_.aA 5 [[.aD,.aD,.aD,.aA .i64 0,.aE false]] false)):=by rw[hH];exact (eW.b1 _).aA (X3.aA C1)
 have B5:H[n5]?=some (some (e_.aA 2 [[.aC r 21 0 0,.aC (h.length+1) 5 0 0]] false)):=by rw[hH,ak];exact gJ _ _
 have a6:h.length+2<=n5:=by omega
 rw[<-hH,<-ak];clear hH;have M:=hx.aD X B1 (by omega);have U:=hm.aA hx X (show h.length<=h.length+1 by omega);obtain⟨o,ho⟩:∃o,o=h.length+1:=⟨_,rfl⟩;obtain⟨L0,a3⟩:∃L0:Nat->Nat,L0=λm=>if m=o then 7 else L m:=⟨_,rfl⟩
 rw[<-ho]at B1 B5 M U ⊢;rw[<-a3]at M U;have zL:∀n,h.length<=n->n≠o->¬wA (L0 n):=λn hn ac=>by rw[a3];show ¬wA (if n=o then 7 else L n);rw[U6 ac,hx.ge hn];exact jJ
 have fin:∀(Le:fX)(H':eX)(y:RX),x.aG.aU m=y->lk 4 Le=.aC o 5 0 0->fB wA eZ L0 H r o y H'->
   ta P f2 [.aF [.aC r 21 0 0,.aC o 5 0 0]] H' (tG (jE f1 f2 f3 f4 f5 f6 f7 f8 f9 I E).aC Le λv h'=>jU L h r (x.bt m) v h'):=by
  intro Le H' y ey k4 T;have yf:=(Dp (x:=x.aG) (m:=m) a2 (by omega) (mR _) a7).1;rw[ey]at yf;obtain⟨L1,x1,l1,e1⟩:=T;refine Ce ⟨u2.1,u2.2 L1 H' r o y (k+200) x1 yf (by omega)⟩ ?_;intro _ ae T2;have T3:=fB.aE l1 e1 (λ_ _ y=>y) T2;have es:x.bt m=y.aA:=by show (x.aG.aU m).aA=_;rw[ey]
  rw[a3]at T3;obtain⟨ma,ca,aa,row,s1,s2,s3,out⟩:=T3.aJ hx X (by omega);rw[es];simp only[jE,go_sem,k4,row];exact out
 have u:=fin;have ab:=Z;simp only[jE]at u ab;clear fin Z;obtain⟨g,ff,rr⟩:=M.aA;have a1:=rr;have W:=B0;simp only[fj.aJ]at a1;simp only[fJ.aD]at W;have e1:x.aG.r=x:=rfl;have a4:(¬m.aL=x.aA.aE\/m.aE<1\/5<m.aE\/(m.aE=1/\x.aZ m.aC=false))->x.aG.aU m=x.aG:=λc=>by rw[vK];exact U4 c
 simp only[go_sem,W,a1,e1];by_cases c1:m.aL=x.aA.aE
 ·simp only[go_sem,W,U3 c1,VF];by_cases c2:m.aE<1;·simp only[go_sem,U3 c2];exact u _ H x.aG (a4 (.inr (.inl c2))) (by simp[fm]) M.to
  ·simp only[go_sem,W,U2 c2];by_cases c3:5<m.aE;·simp only[go_sem,U3 c3];exact u _ H x.aG (a4 (.inr (.inr (.inl c3)))) (by simp[fm]) M.to
   ·simp only[go_sem,W,U2 c3];by_cases c4:m.aE=1
    ·simp only[go_sem,W,U3 c4];refine fZ u3.1 (u3.2 H r x m.aC ⟨g,ff,rr⟩ (a2.aJ (by omega)) (a2.aO (by decide))) ?_;rw[iG];cases c5:x.aZ m.aC;·simp only[go_sem,W,a1,e1,VN];exact u _ H x.aG (a4 (.inr (.inr (.inr ⟨c4,c5⟩)))) (by simp[fm]) M.to
     ·simp only[go_sem,W,a1,e1,VF];refine ab o n5 L0 H _ ho a6 a3 X M U B0 B5 ?_ ?_ ?_ ?_ (by rintro (z | z | z | z);exact z c1;exact c2 z;exact c3 z;rw[c5]at z;cases z.2)<;>simp[fm,g_]
    ·simp only[go_sem,U2 c4];refine ab o n5 L0 H _ ho a6 a3 X M U B0 B5 ?_ ?_ ?_ ?_ (by rintro (z | z | z | z);exact z c1;exact c2 z;exact c3 z;exact c4 z.1)<;>simp[fm,g_]
 ·simp only[go_sem,U2 c1,VN];exact u _ H x.aG (a4 (.inl c1)) (by simp[fm]) M.to
end Glb
