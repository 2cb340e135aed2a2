/-
  A library of its own.
-/
import Derived.Test.YtdeiamnhnfmilaaGreatGlbRafB
set_option linter.unusedSimpArgs false
set_option linter.unusedVariables false
set_option maxRecDepth 10000
set_option maxHeartbeats 8000000
namespace Glb
open Go
def AC.hd:AC->AC
 | .aA a _=>a
 | x=>x
def AC.tl:AC->AC
 | .aA _ b=>b
 | x=>x
theorem AC.aH (a b:AC):(AC.aA a b).hd=a:=rfl
theorem AC.aC (a b:AC):(AC.aA a b).tl=b:=rfl
theorem fB.aO {W Q L h r o R out h' ma ca aa}{n:Int}{b:Bool}(T:fB W Q L h r o ⟨R,out⟩ h') (row:h'[o]?=some (some (.aA 5 [[ma,ca,aa,.aA .i64 out.aE,.aE out.aA]] false))) (hW:∀k,k≠0->W k):
  fB W Q L h r o ⟨R,{out with aE:=n,aA:=b}⟩ (h'.set o (some (.aA 5 [[ma,ca,aa,.aA .i64 n,.aE b]] false))):=by
 obtain⟨L1,x1,l1,E⟩:=T;obtain⟨g1,f1,ra⟩:=x1.r;obtain⟨e,u,C,oa⟩:=x1.o;have:=oa.aA.symm.trans row;simp only[U_,e_.aA.injEq,Wc]at this;obtain⟨-,⟨⟨rfl,rfl,rfl,-⟩,-⟩,-⟩:=this;have lo:=(UY.1 oa.aA).1;have ne:∀m,L1 m≠7->(h'.set o (some (.aA 5 [[e,u,C,.aA .i64 n,.aE b]] false)))[m]?=h'[m]?:=λm hm=>UZ (by rintro rfl;exact hm oa.lo);refine fB.aE l1 E (λ_ _ y=>y) ⟨L1,⟨⟨g1,f1,ra.aC (λ_ _ _=>rfl) λm hm y=>ne m (by omega)⟩,⟨e,u,C,U5 lo,?_,?_,?_,?_,?_,oa.lo⟩,λm hm=>by rw[U9];exact x1.lt m hm⟩,λ_ _ _=>rfl,eW.aI _ λ_=>.inl (hW _ (by rw[oa.lo];omega))⟩;·exact eY.aC _ (λ_ y=>y) (λm hm y hy=>(ne m (by omega)).trans hy) _ oa.m
 ·exact oa.mc.aA oa.m (λm hm y hy=>(ne m (by omega)).trans hy)
 ·exact eY.aC _ (λ_ y=>y) (λm hm y hy=>(ne m (by omega)).trans hy) _ oa.c
 ·exact oa.cc.aA oa.c (λm hm y hy=>(ne m (by omega)).trans hy)
 ·exact eY.aC _ (λ_ y=>y) (λm hm y hy=>(ne m (by omega)).trans hy) _ oa.a
theorem fB.aQ {W Q L h r o R out h' h3 ma ca aa e}{l:List fU}(T:fB W Q L h r o ⟨R,out⟩ h')(X:eW eZ h' h3) (row:h'[o]?=some (some (.aA 5 [[ma,ca,aa,.aA .i64 out.aE,.aE out.aA]] false))) (he:eY (gK l) (λm=>h'.length<=m) h3 e) (hW:∀k,k≠0->W k):
  fB W Q L h r o ⟨R,{out with aF:=l}⟩ (h3.set o (some (.aA 5 [[ma,ca,e,.aA .i64 out.aE,.aE out.aA]] false))):=by
 obtain⟨L1,x1,l1,E⟩:=T;obtain⟨g1,f1,ra⟩:=x1.r;obtain⟨u,C,aa',oa⟩:=x1.o;have:=oa.aA.symm.trans row;simp only[U_,e_.aA.injEq,Wc]at this;obtain⟨-,⟨⟨rfl,rfl,rfl,-⟩,-⟩,-⟩:=this;have lo:=(UY.1 oa.aA).1;have hl:=X.1;have st:∀m,m<h'.length->L1 m≠7->(h3.set o (some (.aA 5 [[u,C,e,.aA .i64 out.aE,.aE out.aA]] false)))[m]?=h'[m]?:=λm hm h7=>(UZ (by rintro rfl;exact h7 oa.lo)).trans (X.2 m hm (λy=>y));have old:∀{m},m<h'.length->kT L1 eZ h'.length h3.length 5 m=L1 m:=fun {m} hm=>lP (.inr ⟨λy=>y,hm⟩);refine fB.aE l1 E (λ_ _ y=>y) ⟨kT L1 eZ h'.length h3.length 5,⟨⟨g1,f1,ra.aC (λm hm _=>old hm) λm hm y=>st m hm (by omega)⟩,⟨u,C,e,U5 (by omega),?_,?_,?_,?_,?_,(old lo).trans oa.lo⟩,λm hm=>by rw[U9];exact tR (λz=>by have:=x1.lt m z;omega) hm⟩,λm hm _=>old hm,?_⟩;·exact eY.aC _ (λm hm=>(old hm.2).trans hm.1) (λm hm y hy=>(st m hm.2 (by omega)).trans hy) _ (eY.lt _ _ oa.m)
 ·exact oa.mc.aA (eY.lt _ _ oa.m) (λm hm y hy=>(st m hm.2 (by omega)).trans hy)
 ·exact eY.aC _ (λm hm=>(old hm.2).trans hm.1) (λm hm y hy=>(st m hm.2 (by omega)).trans hy) _ (eY.lt _ _ oa.c)
 ·exact oa.cc.aA (eY.lt _ _ oa.c) (λm hm y hy=>(st m hm.2 (by omega)).trans hy)
 ·exact eY.aC _ (λm hm=>tS (x1.ge hm.1) hm.2 (.inr hm.1)) (λm hm y hy=>(UZ (by omega)).trans hy) _ (eY.lt _ _ he)
 ·exact X.aD (eW.aI (F:=λm=>m=o) _ (λ_=>rfl)) (F'':=λm=>W (L1 m)\/Q m) (λ_ _ y=>y.elim) (λm _ y=>.inl (by rw[y];exact hW _ (by rw[oa.lo];omega)))
theorem fB.aN {W Q L h r o x h'}(T:fB W Q L h r o x h'):∃ma ca aa,h'[o]?=some (some (.aA 5 [[ma,ca,aa,.aA .i64 x.o.aE,.aE x.o.aA]] false))/\ma.aH=true/\ca.aH=true/\aa.aH=true:=by obtain⟨_,x1,_⟩:=T;obtain⟨ma,ca,aa,oa⟩:=x1.o;exact⟨ma,ca,aa,oa.aA,oa.m.aA,oa.c.aA,oa.a.aA⟩
theorem h_.aC {L h r o x}(a:h_ L h r o x):r<h.length/\o<h.length/\r≠o:=by obtain⟨⟨g,f,ra⟩,⟨ma,ca,aa,oa⟩,lt⟩:=a;exact⟨lt r (by rw[ra.lr];omega),lt o (by rw[oa.lo];omega),λe=>by have:=ra.lr;have:=oa.lo;rw[e]at *;omega⟩
def wy (P:Program)(f:FuncId):Prop:=fK P f=true/\∀(L:Nat->Nat)(h:eX)(r o:Nat)(x:RX)(k:Nat),h_ L h r o x->x.r.aD k->k<=2^28->
 fC P f [.aF [.aC r 21 0 0,.aC o 5 0 0]] h λ_ h'=>fB wA eZ L h r o x.aA h'
def wx (P:Program)(f:FuncId):Prop:=fK P f=true/\∀(L:Nat->Nat)(h:eX)(r o:Nat)(x:RX)(k:Nat),h_ L h r o x->x.r.aD k->k<=2^28->
 pR P f [.aF [.aC r 21 0 0,.aC o 5 0 0]] h λ_ h'=>fB wA eZ L h r o x.aA h'
theorem HX {P:Program}{f1 f2 f3 f4 f5:FuncId}(u1:qM P f1)(u2:oB P f2 fq.aK)(u3:mo P f3)(u4:qJ P f4)(u5:nP P f5)(L:Nat->Nat)(h:eX)(r o:Nat)(x:RX)(k:Nat)(hx:h_ L h r o x)(hfit:x.r.aD k)(hk:k<=2^28):
  vc P (kO f1 f2 f3 f4 f5).aA ⟨[(0,.aF [.aC r 21 0 0,.aC o 5 0 0])],[],h⟩ (iE (kO f1 f2 f3 f4 f5).aC λ_ h'=>fB wA eZ L h r o x.aA h'):=by
 obtain⟨R,out⟩:=x;simp only at hfit;have lt:=hx.lt;have hbase:=hfit.aC;have hlast:=hfit.aF;have hat:=hfit.aM;have second:∀(Le:fX)(H0 H:eX)(R1:fj),R.aS=R1->R1.aD k->lk 1 Le=.aC h.length 2 0 0->eW eZ h H0->H0[h.length]?=some (some (.aA 2 [[.aC r 21 0 0,.aC o 5 0 0]] false))->fB wA eZ L H0 r o ⟨R1,out⟩ H->
   vc P (kO f1 f2 f3 f4 f5).aA.tl.tl.tl ⟨Le,[],H⟩ (iE (kO f1 f2 f3 f4 f5).aC λ_ h'=>fB wA eZ L h r o (RX.aA ⟨R,out⟩) h'):=by
  intro Le H0 H R1 e1 fit1 k1 X0 C0 T;have hlast:=fit1.aF;have hbase:=fit1.aC;have hat:=fit1.aM;have z2:∀m,h.length<=m->¬wA (L m):=λm e=>by rw[hx.ge e];exact jJ
  have b0:=T.aA (z2 _ (U8 _)) (λy=>y) C0;obtain⟨g,ff,r0⟩:=T.aF;obtain⟨ma,ca,aa,o0,sma,sca,saa⟩:=T.aN;have r0':=r0;simp only[fj.aJ]at r0';have lo:=(UY.1 o0).1;have lr:=(UY.1 r0).1;have eE:RX.aA ⟨R,out⟩=if R1.aE<=R1.aF then ⟨R1,out⟩ else ⟨{R1 with aF:=R1.aE},{out with aE:=R1.aF+1,aF:=R1.aA.aA.aJ (R1.aF+1) (R1.aE-R1.aF)}⟩:=by unfold RX.aA;simp only[e1]
  rw[eE];simp only[kO,AC.aC,go_sem,k1,b0,r0'];by_cases c:R1.aE<=R1.aF;·simp only[go_sem,U3 c];rw[U4 c];exact fB.aC X0 T
  ·have ew:IntKind.i64.wrap (R1.aF+1)=R1.aF+1:=gj (by omega);have ew2:IntKind.i64.wrap (R1.aE-R1.aF)=R1.aE-R1.aF:=gj (by omega);rw[U6 c];obtain⟨ap1,ap2,ap3⟩:=hx.aC;have q1:(o=h.length)=False:=Vm (by omega);have q2:(o=r)=False:=Vm (by omega);have q3:(r=o)=False:=Vm (by omega);have q4:(r=h.length)=False:=Vm (by omega);simp only[go_sem,U2 c,k1,b0,r0',o0,ew,ew2,q1,q2,lo];have T1:=fB.aO (n:=R1.aF+1) (b:=out.aA) T o0 (λ_ z=>z);generalize hH3:H.set o _=H3 at *;have r3:H3[r]?=some (some (.aA 21 [R1.aJ g ff] false)):=by rw[<-hH3];exact (UZ (λe=>ap3 e.symm)).trans r0
   have o3:H3[o]?=some (some (.aA 5 [[ma,ca,aa,.aA .i64 (R1.aF+1),.aE out.aA]] false)):=by rw[<-hH3];exact U5 lo
   have b3:=T1.aA (z2 _ (U8 _)) (λy=>y) C0;have sl:=u5.2 eZ H3 R1.aA.aA _ (R1.aF+1) (R1.aE-R1.aF) (mX R1.aA.aA H3) (fit1.aD hk);refine fy ⟨u5.1,sl⟩ ?_;rintro e H4 ⟨oe,-,X4⟩;have se:=oe.aA;have b4:=X4.aA b3;have r4:=X4.aA r3;have r4':=r4;have o4:=X4.aA o3;have lo4:=(UY.1 o4).1;have lr4:=(UY.1 r4).1;simp only[fj.aJ]at r4';have T2:=fB.aQ (l:=R1.aA.aA.aJ (R1.aF+1) (R1.aE-R1.aF)) T1 X4 o3 oe (λ_ z=>z);rw[iG];simp only[go_sem,k1,b4,r4',o4,se,gz se,q1,q2,q4,lo4,lr4,U9];have r5:(H4.set o (some (.aA 5 [[ma,ca,e,.aA .i64 (R1.aF+1),.aE out.aA]] false)))[r]?=some (some (.aA 21 [R1.aJ g ff] false)):=(UZ (λe=>ap3 e.symm)).trans r4;have T3:=fB.aH (R':={R1 with aF:=R1.aE}) T2 r5 rfl rfl (λ_ z=>z);exact fB.aC X0 T3
 have e0:(kO f1 f2 f3 f4 f5).aA=.aA (kO f1 f2 f3 f4 f5).aA.hd (.aA (kO f1 f2 f3 f4 f5).aA.tl.hd (.aA (kO f1 f2 f3 f4 f5).aA.tl.tl.hd (kO f1 f2 f3 f4 f5).aA.tl.tl.tl)):=rfl;rw[e0];generalize (kO f1 f2 f3 f4 f5).aA.tl.tl.tl=D at second ⊢;obtain⟨g,ff,rr⟩:=hx.aA;have lr:=(UY.1 rr).1;simp only[fj.aJ]at rr;have R1:∀a,(h++[a])[r]?=_:=λa=>(eW.b1 a).aA rr;have R2:∀a b,(h++[a]++[b])[r]?=_:=λa b=>(eW.b2 a b).aA rr;have cof:=λH=>u1.2 eZ H R.aA _ (xQ R.aA H) (hfit.aJ hk);simp only[fq.aP]at cof;simp only[kO,AC.aH,AC.aC,go_sem,R1];refine fZ u1.1 (cof _) ?_;obtain⟨H2,hH2⟩:∃H2,H2=h++[some (e_.aA 2 [[.aC r 21 0 0,.aC o 5 0 0]] false)]++[some (e_.aA 3 [[ga R.aA.of.1.aA,ga R.aA.of.1.aC,ga R.aA.of.1.aD]] false)]:=⟨_,rfl⟩;have X2:eW eZ h H2:=by rw[hH2];exact eW.b2 _ _
 have l2:H2.length=h.length+2:=by rw[hH2];simp
 have C0:H2[h.length]?=some (some (e_.aA 2 [[.aC r 21 0 0,.aC o 5 0 0]] false)):=by rw[hH2];exact jx _ _ _
 have C1:H2[h.length+1]?=some (some (e_.aA 3 [[ga R.aA.of.1.aA,ga R.aA.of.1.aC,ga R.aA.of.1.aD]] false)):=by rw[hH2];exact iF _ _ _
 have r2:=X2.aA rr;have hx2:=hx.up X2;have fin:∀(Le:fX),R.aS=R->lk 1 Le=.aC h.length 2 0 0->vc P D ⟨Le,[],H2⟩ (iE (kO f1 f2 f3 f4 f5).aC λ_ h'=>fB wA eZ L h r o (RX.aA ⟨R,out⟩) h'):=λLe e k1=>second Le H2 H2 R e hfit k1 X2 C0 hx2.to;simp only[kO]at fin;simp only[go_sem,R2];rw[<-hH2];by_cases c1:R.aI=2
 ·simp only[go_sem,r2,C0,U3 c1];by_cases c2:R.aA.of.2<=R.aE
  ·simp only[go_sem,r2,C0,C1,U3 c2];refine fy ⟨u2.1,u2.2 eZ H2 R.aA.of.1 _ (tP R.aA.of.1 H2) (hfit.aO (by decide))⟩ ?_;rintro w H3 ⟨ow,X3⟩;have C0':=X3.aA C0;have C1':=X3.aA C1;have r3:=X3.aA r2;rw[iG];simp only[go_sem,r3,C0',C1'];have vl:=ye hfit.aQ;refine fZ u3.1 (u3.2 (λ_=>True) H3 _ w R.id (eY.rd _ (λ_ _=>Vd) _ ow) (by have:R.aA.of.1.aK.length<=14:=vl;omega)) ?_;rw[iG];have hx3:=hx2.up X3;have snd:=second;simp only[kO]at snd;cases c3:decide (R.id∈R.aA.of.1.aK);·simp only[go_sem,r3,C0',C1',VN];refine fy ⟨u4.1,u4.2 L H3 r o ⟨R,out⟩ 0 hx3⟩ ?_;intro _ H4 T4;simp only[go_sem];refine snd _ H3 H4 (R.aU 0) ?_ (hfit.aK 0) (by simp[fm]) (X2.tr X3) C0' T4;unfold fj.aS;rw[U4 ⟨c1,c2,c3⟩]
   ·simp only[go_sem,r3,C0',C1',VF];refine snd _ H3 H3 R ?_ hfit (by simp[fm]) (X2.tr X3) C0' hx3.to;unfold fj.aS;rw[U6 (λz=>by have:=z.2.2;unfold fj.aZ fj.aM at this;rw[c3]at this;cases this)]
  ·simp only[go_sem,U2 c2];exact fin _ (by unfold fj.aS;rw[U6 (λz=>c2 z.2.1)]) (by simp[fm])
 ·simp only[go_sem,U2 c1];exact fin _ (by unfold fj.aS;rw[U6 (λz=>c1 z.1)]) (by simp[fm])
theorem Q6 {P:Program}{f f1 f2 f3 f4 f5:FuncId}(hf:Is P f (kO f1 f2 f3 f4 f5))(u1:qM P f1)(u2:oB P f2 fq.aK)(u3:mo P f3)(u4:qJ P f4)(u5:nP P f5):wy P f:=
 ⟨hf.2,λL h r o x k hx e hk=>pD hf.1 (V3 rfl) (HX u1 u2 u3 u4 u5 L h r o x k hx e hk)⟩
theorem Q5 {P:Program}{f f1 f2 f3 f4 f5:FuncId}(hf:Is P f (kO f1 f2 f3 f4 f5))(u1:qM P f1)(u2:oB P f2 fq.aK)(u3:mo P f3)(u4:qJ P f4)(u5:nP P f5):wx P f:=
 ⟨hf.2,λL h r o x k hx e hk=>L3 hf.1 (V3 rfl) (HX u1 u2 u3 u4 u5 L h r o x k hx e hk)⟩
theorem kv.aA {lo:Nat}{h:eX}{sz:Nat}{a:AV}{es:List (List AV)}{e:List AV}{i:Nat}(ho:kv lo h sz a es) (hi:es[i]?=some e):
  ∃n j row g,jg sz a (.aA .i64 i)=some (.aC n sz j 0)/\lo<=n/\h[n]?=some (some (.aA sz row g))/\row[j]?=some e:=by
 have C:=(UY.1 hi).1;rcases ho with⟨rfl,rfl⟩ | ⟨n,off,cap,row,g,rfl,hn,u,hle,hcl,h5,h6,h7⟩;·simp at C
 ·refine⟨n,off+i,row,g,?_,hn,u,?_⟩;·simp only[jg];rw[U4 ⟨Vd,by omega,by omega⟩];simp
  ·rw[<-h7,VZ,U4 C,Vt]at hi;exact hi
theorem kv.aD {lo:Nat}{h:eX}{sz:Nat}{a:AV}{es:List (List AV)}(ho:kv lo h sz a es):ik a=some (.aA .i64 es.length)/\a.aH=true:=by
 rcases ho with⟨rfl,rfl⟩ | ⟨n,off,cap,row,g,rfl,hn,hrow,hle,hcl,h5,h6,h7⟩;·exact⟨rfl,rfl⟩
 ·exact⟨rfl,rfl⟩
theorem fB.aR {W Q L h r o R R' out h' h1 g f gv}(T:fB W Q L h r o ⟨R,out⟩ h')(X:eW eZ h' h1) (row:h'[r]?=some (some (.aA 21 [R.aJ g f] false))) (ho:eY (fN R'.aH) (λm=>h'.length<=m) h1 gv) (hc:gV h1 gv) (e2:R'.aC=R.aC) (hW:∀k,k≠0->W k):
  fB W Q L h r o ⟨R',out⟩ (h1.set r (some (.aA 21 [R'.aJ gv f] false))):=by
 obtain⟨L1,x1,l1,C⟩:=T;obtain⟨g1,f1,ra⟩:=x1.r;obtain⟨ma,ca,aa,oa⟩:=x1.o;have:=ra.aA.symm.trans row;simp only[U_,e_.aA.injEq,Wc,fj.aJ]at this;obtain⟨-,⟨⟨-,-,-,-,-,-,-,-,-,-,-,-,-,-,-,-,-,rfl,rfl,-⟩,-⟩,-⟩:=this;have lr:=(UY.1 ra.aA).1;have u:r<h1.length:=by have:=X.1;omega
 have ne:∀m,m≠r->(h1.set r (some (.aA 21 [R'.aJ gv f1] false)))[m]?=h1[m]?:=λm hm=>UZ (λe=>hm e.symm);have st:∀m,m<h'.length->m≠r->(h1.set r (some (.aA 21 [R'.aJ gv f1] false)))[m]?=h'[m]?:=λm hm hr=>(ne m hr).trans (X.2 m hm (λy=>y));have old:∀{m},m<h'.length->kT L1 eZ h'.length h1.length 1 m=L1 m:=fun {m} hm=>lP (.inr ⟨λy=>y,hm⟩);have nr:∀m,L1 m≠6->m≠r:=λm hm e=>hm (e▸ra.lr);have hl:=X.1;refine fB.aE l1 C (λ_ _ y=>y) ⟨kT L1 eZ h'.length h1.length 1,⟨⟨gv,f1,U5 u,?_,?_,?_,?_,(old lr).trans ra.lr⟩,⟨ma,ca,aa,oa.aC (λm hm _=>old hm) λm hm c=>st m hm (nr m (by omega))⟩,λm hm=>by rw[U9];exact tR (λz=>by have:=x1.lt m z;omega) hm⟩,λm hm _=>old hm,?_⟩;·exact eY.aC _ (λm hm=>tS (x1.ge hm.1) hm.2 (.inr hm.1)) (λm hm y hy=>(ne m (by omega)).trans hy) _ (eY.lt _ _ ho)
 ·exact hc.aA ho (λm hm y hy=>(ne m (by omega)).trans hy)
 ·rw[e2];exact eY.aC _ (λm hm=>(old hm.2).trans hm.1) (λm hm y hy=>(st m hm.2 (nr m (by omega))).trans hy) _ (eY.lt _ _ ra.fo)
 ·exact ra.fc.aA (eY.lt _ _ ra.fo) (λm hm y hy=>(st m hm.2 (nr m (by omega))).trans hy)
 ·exact X.aD (eW.aI (F:=λm=>m=r) _ (λ_=>rfl)) (F'':=λm=>W (L1 m)\/Q m) (λ_ _ y=>y.elim) (λm _ y=>.inl (by rw[y];exact hW _ (by rw[ra.lr];omega)))
theorem SK (x:RX)(l:List fJ)(w:fJ):x.aL (l++[w])=(x.aL l).aH w:=by unfold RX.aL;rw[List.foldl_append];rfl
def yY (P:Program)(f:FuncId):Prop:=fK P f=true/\∀(L:Nat->Nat)(h:eX)(r o:Nat)(x:RX)(k j:Nat)(draw:Int),h_ L h r o x->x.r.aD k->k<2^28->x.aC j->j+1<2^20->x.r.aA.aC<2^40->
 fC P f [.aF [.aC r 21 0 0,.aC o 5 0 0],.aA .i64 draw] h λ_ h'=>fB wA eZ L h r o (x.aW draw) h'
theorem R_ {P:Program}{f f1 f2 f3 f4 f5 f6 f7 f8:FuncId}(hf:Is P f (BC f1 f2 f3 f4 f5 f6 f7 f8))(u1:uF P f1)(u2:qJ P f2)(u3:wI P f3)(u4:qL P f4)(u5:uH P f5)(u6:wD P f6)(u7:yq P f7)(u8:qS P f8):yY P f:=by
 refine⟨hf.2,λL h r o x k j C hx E hk hj am a1=>fS hf ?_⟩;have ap:=hx.aC;obtain⟨R,out⟩:=x;simp only at E a1;have X1:=eW.b1 (h:=h) (some (e_.aA 2 [[.aC r 21 0 0,.aC o 5 0 0]] false));have af:=hx.up X1;have z2:∀m,h.length<=m->¬wA (L m):=λm e=>by rw[hx.ge e];exact jJ
 have B1:=gJ h (some (e_.aA 2 [[.aC r 21 0 0,.aC o 5 0 0]] false));obtain⟨g,ff,rr⟩:=af.aA;have a7:=rr;simp only[fj.aJ]at a7;have ht:=E.aI;have ew:IntKind.i64.wrap (R.aA.aC+1)=R.aA.aC+1:=gj (by omega);simp only[BC,go_sem,a7,B1,ew];have t1:=u1.2 L _ r o ⟨R,out⟩ (R.aA.aC+1) R.id af (by have:=hj.2;show (out.aC.length+1)*216<=2^46;have a:out.aC.length+1<=2^21:=by {have b:out.aC.length<=j:=this;omega};exact Vh (VU 216 a) (by decide));refine fy ⟨u1.1,t1⟩ ?_;intro _ H2 T2;have D2:=T2.aA (z2 _ (U8 _)) (λy=>y) B1;rw[iG];simp only[go_sem,D2];have t2:=fB.aD (Q':=eZ) T2 (eW.aC _ _) (λ_ _ y=>y) λL1 x1=>u2.2 L1 H2 r o _ 0 x1;refine fy ⟨u2.1,t2⟩ ?_;intro _ H3 T3;have D3:=T3.aA (z2 _ (U8 _)) (λy=>y) B1;obtain⟨y,hy⟩:∃y,y=((({r:=R,o:=out}:RX).aJ (R.aA.aC+1) R.id).aR 0):=⟨_,rfl⟩;have U:y.r.aD k:=by rw[hy];have:=(E.aW (t:=R.aA.aC+1) (v:=R.id) ⟨by omega,by omega⟩ ⟨by have:=E.id;omega,by have:=E.id;omega⟩).aK 0;exact this
 have a3:y.aC (j+1):=by rw[hy];have:=RX.aC.aD (x:=({r:={R with aA:={R.aA with aC:=R.aA.aC+1,aF:=R.id}},o:=out}:RX)) hj {gi.aI with aC:=1,aK:=R.aA.aC+1,aL:=R.id};exact this
 have yid:y.r.id=R.id:=by rw[hy];rfl
 have ag:(({r:=R,o:=out}:RX).aW C)=(let z:RX:={y with r:={y.r with aI:=1,aK:=0,aX:=mi C,aH:=[y.r.id]}}
  if z.r.aM.aH z.r.aH then z.aN else z.aL (kh z.r.id z.r.aA.aE z.r.aA.aC z.r.aA.aA z.r.aM)):=by rw[hy];rfl
 rw[ag];rw[<-hy]at T3;clear hy ag T2 t2 t1;obtain⟨Y,yo⟩:=y;obtain⟨g3,a5,r3⟩:=T3.aF;have aa:=r3;simp only[fj.aJ]at aa;simp only at U;obtain⟨ap1,ap2,ap3⟩:=ap;have ac:=(UY.1 D3).1;have W:=(UY.1 r3).1;have ah:∀a,(H3++[a])[h.length]?=_:=λa=>(eW.b1 a).aA D3;have a9:∀a,(H3++[a])[r]?=_:=λa=>(eW.b1 a).aA aa;have NR:∀sz i o',gN H3.length 1 (.aC r sz i o')=true:=λsz i o'=>ig W;have NB:∀sz i o',gN H3.length 1 (.aC h.length sz i o')=true:=λsz i o'=>ig ac;have q0:(r=h.length)=False:=Vm (by omega);have q1:(r=H3.length)=False:=Vm (by omega);have q2:r<H3.length+1:=by omega
 have q3:(h.length=r)=False:=Vm (by omega);have q4:(h.length=H3.length)=False:=Vm (by omega);have SA:∀x v,(H3++[x]).set r v=H3.set r v++[x]:=λx v=>by rw[List.set_append_left _ _ W]
 have SB:∀v x y,(H3.set r v++[x]).set H3.length y=H3.set r v++[y]:=λv x y=>by rw[W0 _ _ (by rw[U9];exact U8 _)];simp
 have SC:∀v w x,(H3.set r v++[x]).set r w=H3.set r w++[x]:=λv w x=>by rw[List.set_append_left _ _ (by rw[U9];exact W),VX]
 have GA:∀v x,(H3.set r v++[x])[r]?=some v:=λv x=>by rw[Vy (by rw[U9];exact W),U5 W]
 have GB:∀v x,(H3.set r v++[x])[h.length]?=some (some (e_.aA 2 [[.aC r 21 0 0,.aC o 5 0 0]] false)):=λv x=>by rw[Vy (by rw[U9];exact ac),UZ (by omega)];exact D3
 have GC:∀v x,(H3.set r v++[x])[H3.length]?=some x:=λv x=>by rw[Vp (by rw[U9];exact U8 _),U9];simp
 have GN:(H3++[none])[H3.length]?=some none:=by simp
 simp only[go_sem,jh,ah,a9,NR,NB];refine fZ u3.1 (u3.2 _ C) ?_;simp only[go_sem,jh,ah,a9,SA,SB,SC,GA,GB,GC,GN,U9,U1,Xo,Bool.true_or];have og:eY (fN [Y.id]) (λm=>H3.length<=m) (H3++[some (e_.aA 1 [[.aA .i64 Y.id]] false)]) (.aG H3.length 1 0 1 (some 1)):=.inr (.inr ⟨_,0,some 1,_,_,rfl,U8 _,gJ _ _,by simp,(λc hc=>by cases hc;simp),by simp[fG,fI,eY]⟩);have cg:gV (H3++[some (e_.aA 1 [[.aA .i64 Y.id]] false)]) (.aG H3.length 1 0 1 (some 1)):=⟨_,_,gJ _ _,(λe=>by cases e),(λc hc=>by cases hc;simp)⟩;have T4:=fB.aR (R':={Y with aI:=1,aK:=0,aX:=mi C,aH:=[Y.id]}) T3 (eW.b1 (some (e_.aA 1 [[.aA .i64 Y.id]] false))) r3 og cg rfl (λ_ z=>z);rw[SA]at T4;obtain⟨Z,hZ⟩:∃Z:fj,Z={Y with aI:=1,aK:=0,aX:=mi C,aH:=[Y.id]}:=⟨_,rfl⟩;have u:Z.aD k:=by rw[hZ];obtain⟨g1,g2,g3,g4,g5,g6,g7,g8,g9,g10,ar,aq,g13,ao,an⟩:=U;exact⟨g1,g2,g3,g4,g5,g6,g7,g8,g9,⟨Vi _,by show (0:Int)<=k;omega⟩,ar,aq,by show [Y.id].length<=k+1;simp,ao,an⟩
 have zg:Z.aH=[Y.id]:=by rw[hZ]
 have a2:∀g f,Z.aJ g f=[.aA .i64 Y.id,.aA .i64 Y.aA.aE,.aA .i64 Y.aA.aC,.aA .i64 Y.aA.aF,.aA .i64 Y.aA.aA.aA,.aA .i64 Y.aA.aA.aD,jv Y.aA.aA.es,ga Y.aA.aD.aA,ga Y.aA.aD.aC,ga Y.aA.aD.aD,iS Y.aA.aG,
  .aA .i64 Y.aE,.aA .i64 Y.aF,.aA .i64 1,.aA .i64 Y.aV,.aA .i64 0,.aA .i64 (mi C),g,f,.aA .i64 Y.bw,.aA .i64 Y.aN]:=λg f=>by rw[hZ];rfl
 have a8:Rd (λ_=>True) (H3.set r (some (.aA 21 [Z.aJ (.aG H3.length 1 0 1 (some 1)) a5] false))++[some (e_.aA 1 [[.aA .i64 Y.id]] false)]) (fN Z.aH) (.aG H3.length 1 0 1 (some 1)):=by rw[zg];exact⟨_,.inr (.inr ⟨_,0,1,some 1,_,_,rfl,Vd,GC _ _,by simp,(λc hc=>by cases hc;simp),rfl⟩),by simp[fY,fu,Rd]⟩
 have r4:=GA (some (.aA 21 [Z.aJ (.aG H3.length 1 0 1 (some 1)) a5] false)) (some (e_.aA 1 [[.aA .i64 Y.id]] false));rw[<-hZ]at T4;have M:=a2 (.aG H3.length 1 0 1 (some 1)) a5;rw[M]at T4 a8 r4;generalize hH4:(H3.set r _++_:eX)=H4 at *;have C4:=T4.aA (z2 _ (U8 _)) (λy=>y) B1;have ez:Z.id=Y.id/\Z.aA=Y.aA:=by rw[hZ];exact⟨rfl,rfl⟩
 have O:(⟨Z,yo⟩:RX).aC (j+1):=a3;have a6:((let z:RX:={({r:=Y,o:=yo}:RX) with r:={Y with aI:=1,aK:=0,aX:=mi C,aH:=[Y.id]}}
  if z.r.aM.aH z.r.aH then z.aN else z.aL (kh z.r.id z.r.aA.aE z.r.aA.aC z.r.aA.aA z.r.aM)))=if Z.aM.aH Z.aH then RX.aN ⟨Z,yo⟩ else RX.aL ⟨Z,yo⟩ (kh Z.id Z.aA.aE Z.aA.aC Z.aA.aA Z.aM):=by rw[hZ]
 rw[a6];clear a6;refine fZ u4.1 (u4.2 H4 r Z T4.aF (u.aJ (by omega))) ?_;rw[iG];simp only[go_sem,C4,r4,fq.aP];refine fZ u5.1 (u5.2 eZ (λ_=>True) H4 Z.aM Z.aH _ _ (tP Z.aM H4) a8 (u.aO (by decide)) (by rw[zg];simp)) ?_;rw[iG];simp only[go_sem,C4,r4];cases cw:Z.aM.aH Z.aH
 ·simp only[go_sem,C4,r4,Vn,VI];refine fZ u4.1 (u4.2 H4 r Z T4.aF (u.aJ (by omega))) ?_;rw[iG];simp only[go_sem,C4,r4,fq.aP];have ak:=u7.2 eZ eZ H4 Z.id Z.aA.aE Z.aA.aC Z.aA.aA Z.aM _ _ (mX Z.aA.aA H4) (tP Z.aM H4) (u.aD (by omega)) (u.aO (by decide));rw[ez.1,ez.2]at ak ⊢;refine fy ⟨u7.1,ak⟩ ?_;rintro a H5 ⟨oo,X5⟩;have al:=Ku (id:=Y.id) (group:=Y.aA.aE) (term:=Y.aA.aC) (l:=Y.aA.aA) (c:=Z.aM);have hal:(kh Y.id Y.aA.aE Y.aA.aC Y.aA.aA Z.aM).length<=14:=Vh (EX _ _ _ _ _) (ye u.aQ);generalize kh Y.id Y.aA.aE Y.aA.aC Y.aA.aA Z.aM=ms at *;obtain⟨ab,sa⟩:=oo.aD;have C5:=X5.aA C4;have r5:=X5.aA r4;simp only[Vg]at ab;rw[iG];simp only[go_sem,C5,r5,ab];obtain⟨L5,x4,l5,e4⟩:=T4;have x5:=x4.up X5;have e5:eW (λm=>wA (L m)\/eZ m) (h++[some (e_.aA 2 [[.aC r 21 0 0,.aC o 5 0 0]] false)]) H5:=e4.aD X5 (λ_ _ z=>z) (λ_ _ z=>z.elim);have lh4:=(UY.1 C4).1;have z5:∀m,H4.length<=m->¬wO (L5 m):=λm hm=>by rw[x4.ge hm];unfold wO;omega
  have zb:¬wO (L5 h.length):=by rw[l5 h.length (by simp) (.inr (λz=>z)),hx.ge (U8 _)];unfold wO;omega
  obtain⟨I,hI⟩:∃I:Nat->fX->eX->Prop,∀m Le h',I m Le h'↔∃i:Nat,lk 2 Le=.aC h.length 2 0 0/\lk 84 Le=a/\lk 85 Le=.aA .i64 ms.length/\lk 86 Le=.aA .i64 i/\fB wO eZ L5 H5 r o (RX.aL ⟨Z,yo⟩ (ms.take i)) h'/\i<=ms.length/\m=ms.length-i:=⟨_,λ_ _ _=>WA⟩;refine iM I ms.length ((hI _ _ _).2 ⟨0,by simp[fm],by simp[fm],by simp[fm],by simp[fm],x5.to,by omega,by omega⟩) ?_;intro m Le h' hh;obtain⟨i,k2,ae,ad,a4,T,hi,rfl⟩:=(hI _ _ _).1 hh;simp only[FF,go_sem,ad,a4];refine ij (λci=>?_) (λci=>?_)
  ·simp at ci;have ci:i<ms.length:=by omega
   have ew:IntKind.i64.wrap ((i:Int)+1)=((i+1:Nat):Int):=by rw[gj (by omega)];omega
   obtain⟨n,q,row,gr,i1,i2,i3,i4⟩:=oo.aA (i:=i) (e:=oQ ms[i]) (by rw[VE,U0 ci];rfl);have tk:ms.take (i+1)=ms.take i++[ms[i]]:=VA ci;obtain⟨aj,ai⟩:=al _ (Vx ci);have sr:=Dh (ms.take i) ⟨Z,yo⟩;have tl:=Xk i ms;have sn:=SK ⟨Z,yo⟩ (ms.take i) ms[i];generalize ms[i]=m at *;have i5:=T.aA (z5 n i2) (λz=>z) i3;have C6:=T.aA zb (λz=>z) C5;have ld:ir h' true 17 (.aC n 17 q 0)=some (.aF (oQ m)):=by rw[jr (cs:=oQ m) (by simp[jB,i5,i4])];rfl
   have au:∀b,(h'++[b])[h.length]?=_:=λb=>(eW.b1 b).aA C6;simp only[oQ,fJ.aD]at ld;simp only[go_sem,k2,ae,a4,i1,ld,au];have sd:=fB.aD (Q':=eZ) (h3:=h'++[some (e_.aA 17 [oQ m] false)]) T (eW.b1 _) (λ_ _ y=>y) λL1 x1=>u8.2 eZ L1 (h'++[some (e_.aA 17 [oQ m] false)]) r o _ m .aD .aD (x1.up (eW.b1 _)) (by rw[aj];exact eY.aD 3) (by rw[ai];exact eY.aD 1) (λ_ z=>z.elim) (by
    have h1:=sr.2.2;have h2:=O.1;have a:(RX.aL ⟨Z,yo⟩ (ms.take i)).o.aD.length+1<=2^21:=by have h3:yo.aD.length<=j+1:=h2;have h4:(RX.aL ⟨Z,yo⟩ (ms.take i)).o.aD.length=yo.aD.length+(ms.take i).length:=h1;omega
    exact Vh (VU 168 a) (by decide))
   simp only[oQ,fJ.aD]at sd;refine fy ⟨u8.1,sd⟩ ?_;intro _ h2 T2;simp only[go_sem,a4,ew];exact⟨_,by omega,(hI _ _ _).2 ⟨i+1,by simp[fm,k2],by simp[fm,ae],by simp[fm,ad],by simp[fm],by rw[tk,sn];exact T2,by omega,rfl⟩⟩
  ·simp at ci;obtain rfl:i=ms.length:=by omega
   rw[VB]at T;simp only[go_sem];exact fB.aC X1 (fB.aE l5 e5 (λ_ _ y=>y) (T.aG m8))
 ·simp only[go_sem,C4,VS];have t6:=fB.aD (Q':=eZ) T4 (eW.aC _ _) (λ_ _ y=>y) λL1 x1=>u6.2 L1 H4 r o ⟨Z,yo⟩ k (j+1) x1 u hk O am;refine fy ⟨u6.1,t6⟩ ?_;intro _ H5 T5;simp only[go_sem];exact fB.aC X1 T5
def kX (L:Nat->Nat)(h:eX)(m:fJ)(a:List AV):Prop:=∃G:Nat->Prop,fu G h m.c a/\∀n,G n->L n=0
theorem kX.to {W:Nat->Prop}{L h r o x h' m a}(hm:kX L h m a){L1}(x1:h_ L1 h' r o x)(l1:∀m,m<h.length->L m≠0\/¬eZ m->L1 m=L m) (e1:eW (λm=>W (L m)\/eZ m) h h') (hW:¬W 0):kX L1 h' m a:=by obtain⟨G,hr,h0⟩:=hm;exact⟨λn=>G n/\n<h.length,fu.aA (λ_ y=>y) (λn hn y hy=>(e1.2 n hn.2 (λz=>by rcases z with z | z;rw[h0 n hn.1]at z;exact hW z;exact z)).trans hy) _ _ (fu.lt _ _ hr),λn hn=>(l1 n hn.2 (.inr (λz=>z))).trans (h0 n hn.1)⟩
theorem fB.aI {P:Program}{f:FuncId}{u:List AV}{W L h r o x h' x' m a}(T:fB W eZ L h r o x h')(hm:kX L h m a)(hW:¬W 0)
  (hc:∀L1,h_ L1 h' r o x->kX L1 h' m a->fC P f u h' λ_ e=>fB W eZ L1 h' r o x' e):fC P f u h' λ_ e=>fB W eZ L h r o x' e:=by
 obtain⟨L1,x1,l1,e1⟩:=T;exact (hc L1 x1 (hm.to x1 l1 e1 hW)).aA λ_ _ b=>fB.aE l1 e1 (λ_ _ y=>y) b
def yT (P:Program)(f:FuncId):Prop:=fK P f=true/\∀(L:Nat->Nat)(h:eX)(r o:Nat)(x:RX)(k j:Nat)(m:fJ)(a:List AV),h_ L h r o x->x.r.aD k->k<=2^28->x.aC j->j+1<2^20->kX L h m a->
 fC P f [.aF [.aC r 21 0 0,.aC o 5 0 0],.aF a] h λ_ h'=>fB wA eZ L h r o (x.aT m) h'
theorem rD {n j:Nat}(h:n<=j)(hj:j<2^20)(b:Nat)(hb:b<=216):(n+1)*b<=2^46:=Vh (Nat.mul_le_mul (show n+1<=2^20 by omega) hb) (by decide)
theorem QN {P:Program}{f f1 f2 f3:FuncId}(hf:Is P f (mS f1 f2 f3))(u1:yH P f1)(u2:uF P f2)(u3:qS P f3):yT P f:=by
 refine⟨hf.2,λL h r o x k j m a hx E hk hj U hm=>fS hf ?_⟩;obtain⟨G,hr,h0⟩:=id hm;obtain⟨e,d,rfl,he,hd⟩:=pL hr;have ap:=hx.aC;obtain⟨R,out⟩:=x;simp only at E;obtain⟨H,hH⟩:∃H,H=h++[some (e_.aA 2 [[.aC r 21 0 0,.aC o 5 0 0]] false)]++[some (e_.aA 17 [m.aD e d] false)]:=⟨_,rfl⟩;have X1:eW eZ h H:=by rw[hH];exact eW.b2 _ _
 have C0:H[h.length]?=some (some (e_.aA 2 [[.aC r 21 0 0,.aC o 5 0 0]] false)):=by rw[hH];exact jx _ _ _
 have C1:H[h.length+1]?=some (some (e_.aA 17 [m.aD e d] false)):=by rw[hH];exact iF _ _ _
 have O:=hx.up X1;have z2:∀m,h.length<=m->¬wA (L m):=λm e=>by rw[hx.ge e];exact jJ
 have C:∀(Le:fX)(H':eX)(y:RX)(ok:Bool),(RX.aT ⟨R,out⟩ m)=y.aH {fJ.aK with aE:=2,to:=m.aC,ok:=ok}->y.aC (j+1)->lk 2 Le=.aC h.length 2 0 0->lk 3 Le=.aC (h.length+1) 17 0 0->lk 4 Le=.aE ok->fB wA eZ L H r o y H'->
   vc P (mS f1 f2 f3).aA.tl.tl.tl ⟨Le,[],H'⟩ (iE (mS f1 f2 f3).aC λ_ h'=>fB wA eZ L h r o (RX.aT ⟨R,out⟩ m) h'):=by
  intro Le H' y ok ey yf k2 k3 k4 T;have D0:=T.aA (z2 _ (U8 _)) (λy=>y) C0;have D1:=T.aA (z2 _ (by omega)) (λy=>y) C1;simp only[fJ.aD]at D1;rw[ey];simp only[mS,AC.aC,go_sem,k2,k3,k4,D0,D1];have sd:=fB.aD (Q':=eZ) T (eW.aC _ _) (λ_ _ y=>y) λL1 x1=>(u3.2 eZ L1 H' r o y {fJ.aK with aE:=2,to:=m.aC,ok:=ok} .aD .aD x1 (eY.aD 3) (eY.aD 1) (λ_ z=>z.elim) (rD yf.1 U 168 (by omega))).aA λ_ _ b=>b.aG m8;refine fy ⟨u3.1,sd⟩ ?_;intro _ H2 T2;simp only[go_sem];exact fB.aC X1 T2
 have e0:(mS f1 f2 f3).aA=.aA (mS f1 f2 f3).aA.hd (.aA (mS f1 f2 f3).aA.tl.hd (.aA (mS f1 f2 f3).aA.tl.tl.hd (mS f1 f2 f3).aA.tl.tl.tl)):=rfl;rw[e0];generalize (mS f1 f2 f3).aA.tl.tl.tl=D at C ⊢;obtain⟨g,ff,rr⟩:=O.aA;have M:=rr;have I:=C1;simp only[fj.aJ]at M;simp only[fJ.aD]at I hH;simp only[mS,AC.aH,AC.aC,go_sem,fJ.aD,he.aA,hd.aA];rw[<-hH];clear hH;simp only[go_sem,M,C0,I];have gr:=u1.2 eZ G H R.aA.aC R.aA.aF R.aA.aA m _ _ (mX R.aA.aA H) (fu.aA (λ_ y=>y) (X1.aE _) _ _ hr) (E.aD hk);simp only[fJ.aD]at gr;refine fZ u1.1 gr ?_;rw[iG];have snd:=C;simp only[mS]at snd;have lr:=(UY.1 rr).1;have q0:(h.length=r)=False:=Vm (by omega);have q1:(h.length+1=r)=False:=Vm (by omega);have q2:(r=h.length)=False:=Vm (by omega);have q3:(r=h.length+1)=False:=Vm (by omega);simp only[go_sem,M,C0,I];have u:(RX.aT ⟨R,out⟩ m)=(if lZ R.aA.aC R.aA.aF R.aA.aA m then (let z:RX:=⟨{R with aK:=0},out⟩;if z.r.aA.aF=m.aC then z else z.aJ z.r.aA.aC m.aC) else ⟨R,out⟩).aH {fJ.aK with aE:=2,to:=m.aC,ok:=lZ R.aA.aC R.aA.aF R.aA.aA m}:=rfl;cases cg:lZ R.aA.aC R.aA.aF R.aA.aA m;·rw[cg]at u;simp only[go_sem];refine snd _ H ⟨R,out⟩ false u (hj.aA (by omega)) ?_ ?_ ?_ O.to<;>simp[fm]
 ·rw[cg]at u;have T0:=fB.aH (R':={R with aK:=0}) (O.to (W:=wA) (Q:=eZ)) rr rfl rfl (λ_ z=>z);simp only[fj.aJ]at T0;simp only[go_sem,M,C0,I,q2,q3,lr];generalize Z:H.set r _=H2 at *;have D0:=T0.aA (z2 _ (U8 _)) (λy=>y) C0;have D1:=T0.aA (z2 _ (by omega)) (λy=>y) I;have rE:H2[r]?=some (some (.aA 21 [({R with aK:=0}:fj).aJ g ff] false)):=by rw[<-Z];exact U5 lr
  simp only[fj.aJ]at rE;simp only[VS]at u;by_cases cv:R.aA.aF=m.aC;·simp only[U4 cv]at u;simp only[go_sem,U3 cv,VF];refine snd _ H2 ⟨{R with aK:=0},out⟩ true u (RX.aC.aA (x:=⟨{R with aK:=0},out⟩) hj (by omega)) ?_ ?_ ?_ T0<;>simp[fm]
  ·simp only[U6 cv]at u;simp only[go_sem,rE,D0,D1,U2 cv,VN];have tm:=fB.aD (Q':=eZ) T0 (eW.aC _ _) (λ_ _ y=>y) λL1 x1=>u2.2 L1 H2 r o _ R.aA.aC m.aC x1 (rD (show out.aC.length<=j from hj.2) (by omega) 216 (by omega));refine fy ⟨u2.1,tm⟩ ?_;intro _ H3 T3;rw[iG];simp only[go_sem];refine snd _ H3 _ true u (RX.aC.aD (x:=({r:={R with aK:=0,aA:={R.aA with aF:=m.aC}},o:=out}:RX)) hj {gi.aI with aC:=1,aK:=R.aA.aC,aL:=m.aC}) ?_ ?_ ?_ T3<;>simp[fm]
theorem fB.aP {W:Nat->Prop}{L h r o R out H g f n}{Hb:eX}(T:fB W eZ L h r o ⟨R,out⟩ H) (row:H[r]?=some (some (.aA 21 [R.aJ g f] false))) (X:eW eZ H Hb) (hW:∀k,k≠0->W k) (hb:R.aH.length<=2^30):
  ∃g' H',iu Hb 1 8 g [[.aA .i64 n]]=some (g',H')/\g'.aH=true/\Hb.length<=H'.length/\(∀m,L m=0->m<h.length\/H.length<=m->m<Hb.length->H'[m]?=Hb[m]?)/\H'[r]?=some (some (.aA 21 [R.aJ g f] false)) /\
   gV H' g'/\Rd (λ_=>True) H' (fN (R.aH++[n])) g' /\
   fB W eZ L h r o ⟨{R with aH:=R.aH++[n]},out⟩ (H'.set r (some (.aA 21 [({R with aH:=R.aH++[n]}:fj).aJ g' f] false))):=by
 obtain⟨L1,x1,l1,E⟩:=T;obtain⟨g1,f1,ra⟩:=x1.r;obtain⟨ma,ca,aa,oa⟩:=x1.o;have:=ra.aA.symm.trans row;simp only[U_,e_.aA.injEq,Wc,fj.aJ]at this;obtain⟨-,⟨⟨-,-,-,-,-,-,-,-,-,-,-,-,-,-,-,-,-,rfl,rfl,-⟩,-⟩,-⟩:=this;have lr:=(UY.1 ra.aA).1;have hl:=X.1;have kg:gY (λm=>L1 m=1/\m<H.length) H Hb:=λm hm y hy=>X.aA hy;have og:eY (fN R.aH) (λm=>(L1 m=1/\m<H.length)\/Hb.length<=m) Hb g1:=eY.aC _ (λm hm=>.inl hm) kg _ (eY.lt _ _ ra.go);have cg:gV Hb g1:=ra.gc.aA (eY.lt _ _ ra.go) kg;obtain⟨g',H',s1,s2,s3,s4⟩:=CU (bytes:=8) (es:=[[.aA .i64 n]]) (ys:=[[.aA .i64 n]]) og cg (eW.aC _ _) (by simp[fG,fI,eY]) (λm hm=>.inr hm) (by simp;omega);have kk:∀m,m<Hb.length->L1 m≠1->H'[m]?=Hb[m]?:=λm hm hn=>s4.2 m hm (λz=>by rcases z with z | z;exact hn z.1;omega);have C:=s4.1;have e4:fN (R.aH++[n])=.sl 1 (R.aH.map (λn=>[D.aA .i64 n])++[[.aA .i64 n]]):=by simp[fN]
 have rr:H'[r]?=some (some (.aA 21 [R.aJ g1 f1] false)):=(kk r (by omega) (by rw[ra.lr];omega)).trans (X.aA ra.aA);have ne:∀m,m≠r->(H'.set r (some (.aA 21 [({R with aH:=R.aH++[n]}:fj).aJ g' f1] false)))[m]?=H'[m]?:=λm hm=>UZ (λe=>hm e.symm);have st:∀m,m<H.length->L1 m≠1->m≠r->(H'.set r (some (.aA 21 [({R with aH:=R.aH++[n]}:fj).aJ g' f1] false)))[m]?=H[m]?:=λm hm h1 hr=>(ne m hr).trans ((kk m (by omega) h1).trans (X.2 m hm (λy=>y)));have nr:∀m,L1 m≠6->m≠r:=λm hm e=>hm (e▸ra.lr);have old:∀{m},m<H.length->kT L1 eZ Hb.length H'.length 1 m=L1 m:=fun {m} hm=>lP (.inr ⟨λy=>y,by omega⟩);have u:=eY.lt _ _ s2;have kf:gY (λm=>L1 m=2/\m<H.length) H (H'.set r (some (.aA 21 [({R with aH:=R.aH++[n]}:fj).aJ g' f1] false))):=λm hm y hy=>(st m hm.2 (by omega) (nr m (by omega))).trans hy;have kn:gY (λm=>((L1 m=1/\m<H.length)\/Hb.length<=m)/\m<H'.length) H' (H'.set r (some (.aA 21 [({R with aH:=R.aH++[n]}:fj).aJ g' f1] false))):=λm hm y hy=>(ne m (by rcases hm.1 with z | z;exact nr m (by omega);omega)).trans hy;refine⟨g',H',s1,s2.aA,C,λm h0 hlt hm=>kk m hm ?_,rr,s3,?_,fB.aE l1 E (λ_ _ y=>y) ⟨kT L1 eZ Hb.length H'.length 1,⟨⟨g',f1,U5 (by omega),?_,?_,?_,?_,(old lr).trans ra.lr⟩,⟨ma,ca,aa,oa.aC (λm hm _=>old hm) λm hm c=>st m hm (by omega) (nr m (by omega))⟩,λm hm=>by rw[U9];exact tR (λz=>by have:=x1.lt m z;omega) hm⟩,λm hm _=>old hm,?_⟩⟩
 ·rcases hlt with hlt | hlt;·rw[l1 m hlt (.inr (λz=>z)),h0];omega
  ·rw[x1.ge hlt];omega
 ·rw[e4];exact eY.rd _ (λ_ _=>Vd) _ s2
 ·show eY (fN (R.aH++[n])) _ _ _;rw[e4];refine eY.aC _ (λm hm=>?_) kn _ u;rcases hm.1 with z | z;·exact (old z.2).trans z.1
  ·exact tS (x1.ge (by omega)) hm.2 (.inr z)
 ·exact s3.aA u kn
 ·exact eY.aC _ (λm hm=>(old hm.2).trans hm.1) kf _ (eY.lt _ _ ra.fo)
 ·exact ra.fc.aA (eY.lt _ _ ra.fo) kf
 ·refine (X.aD s4 (F'':=λm=>W (L1 m)\/eZ m) (λ_ _ y=>y.elim) (λm hm y=>.inl (by rcases y with y | y;exact hW _ (by rw[y.1];omega);omega))).aD (eW.aI (F:=λm=>m=r) _ (λ_=>rfl)) (λ_ _ y=>y) (λm _ y=>.inl (by rw[y];exact hW _ (by rw[ra.lr];omega)))
def y0 (P:Program)(f:FuncId):Prop:=fK P f=true/\∀(L:Nat->Nat)(h:eX)(r o:Nat)(x:RX)(k j:Nat)(m:fJ)(a:List AV),h_ L h r o x->x.r.aD k->k+1<2^28->x.aC j->j<2^20->kX L h m a->
 fC P f [.aF [.aC r 21 0 0,.aC o 5 0 0],.aF a] h λ_ h'=>fB wA eZ L h r o (x.aV m) h'
theorem Su {P:Program}{f f1 f2 f3 f4 f5:FuncId}(hf:Is P f (BG f1 f2 f3 f4 f5))(u1:mo P f1)(u2:uG P f2)(u3:qL P f3)(u4:uH P f4)(u5:wD P f5):y0 P f:=by
 refine⟨hf.2,λL h r o x k j m a hx hfit hk hj hj2 hm=>fS hf ?_⟩;obtain⟨G,hr,h0⟩:=id hm;obtain⟨e,d,rfl,he,hd⟩:=pL hr;have ap:=hx.aC;obtain⟨R,out⟩:=x;simp only at hfit;obtain⟨H,hH⟩:∃H,H=h++[some (e_.aA 2 [[.aC r 21 0 0,.aC o 5 0 0]] false)]++[some (e_.aA 17 [m.aD e d] false)]:=⟨_,rfl⟩;have X1:eW eZ h H:=by rw[hH];exact eW.b2 _ _
 have lH:H.length=h.length+2:=by rw[hH];simp
 have C0:H[h.length]?=some (some (e_.aA 2 [[.aC r 21 0 0,.aC o 5 0 0]] false)):=by rw[hH];exact jx _ _ _
 have C1:H[h.length+1]?=some (some (e_.aA 17 [m.aD e d] false)):=by rw[hH];exact iF _ _ _
 have hx1:=hx.up X1;have z2:∀m,h.length<=m->¬wA (L m):=λm e=>by rw[hx.ge e];exact jJ
 obtain⟨g,ff,ra⟩:=hx1.r;have rr:=ra.aA;have rr':=rr;have C1':=C1;have rg:=eY.rd _ (F':=λ_=>True) (λ_ _=>Vd) _ ra.go;have sg:=ra.go.aA;simp only[fj.aJ]at rr';simp only[fJ.aD]at C1' hH;have gl:=hfit.aY;simp only[BG,go_sem,fJ.aD,he.aA,hd.aA];rw[<-hH];clear hH;have ex:∀(c:¬R.aI=1\/m.ok=false\/m.aC∈R.aH\/R.aZ m.aC=false),(RX.aV ⟨R,out⟩ m)=⟨R,out⟩:=λc=>U4 c;by_cases c1:R.aI=1
 ·simp only[go_sem,rr',C1',U3 c1,VF];cases c2:m.ok;·simp only[go_sem,VN];rw[ex (.inr (.inl c2))];exact fB.aC X1 hx1.to
  ·simp only[go_sem,rr',C0,C1',c2,VF];refine fZ u1.1 (u1.2 (λ_=>True) H R.aH g m.aC rg (by omega)) ?_;rw[iG];cases c3:decide (m.aC∈R.aH)
   ·simp only[go_sem,rr',C0,C1'];refine fZ u2.1 (u2.2 H r R m.aC ⟨g,ff,rr⟩ (hfit.aJ (by omega)) (hfit.aO (by decide))) ?_;rw[iG];cases c4:R.aZ m.aC;·simp only[go_sem,rr',C0,C1',VN,c2];rw[ex (.inr (.inr (.inr c4)))];exact fB.aC X1 hx1.to
    ·have n4:¬(¬R.aI=1\/m.ok=false\/m.aC∈R.aH\/R.aZ m.aC=false):=by
      rintro (z | z | z | z);·exact z c1
      ·rw[c2]at z;cases z
      ·simp at c3;exact c3 z
      ·rw[c4]at z;cases z
     have ev:(RX.aV ⟨R,out⟩ m)=(let y:RX:=⟨{R with aH:=R.aH++[m.aC]},out⟩;if y.r.aM.aH y.r.aH then y.aN else y):=U6 n4;rw[ev];clear ex ev;have R3:∀b,(H++[b])[r]?=_:=λb=>(eW.b1 b).aA rr';have D0:∀b,(H++[b])[h.length]?=_:=λb=>(eW.b1 b).aA C0;have D1:∀b,(H++[b])[h.length+1]?=_:=λb=>(eW.b1 b).aA C1';have NR:∀s sz i o' n,s<H.length->gN H.length n (.aC s sz i o')=true:=λs sz i o' n hs=>ig hs;have N1:∀sz i o',gN (h.length+1+1) 1 (.aC r sz i o')=true:=λsz i o'=>ig (by omega);have N2:∀sz i o',gN (h.length+1+1) 1 (.aC h.length sz i o')=true:=λsz i o'=>ig (by omega);have N3:∀sz i o',gN (h.length+1+1) 1 (.aC (h.length+1) sz i o')=true:=λsz i o'=>ig (by omega);simp only[go_sem,jh,rr',C0,C1',VF,c2,R3,D0,D1,lH,N1,N2,N3];obtain⟨g',H',s1,s2,s3,s4,s5,s6,s7,s8⟩:=fB.aP (n:=m.aC) (hx1.to (W:=wA)) rr (eW.b1 (some (e_.aA 1 [[.aA .i64 m.aC]] false))) (λ_ z=>z) (by omega);rw[<-iv (lG H 1 [_] false (some 1) (len:=1) rfl),lH]at s1;rw[s1];obtain⟨R',hR'⟩:∃R':fj,R'={R with aH:=R.aH++[m.aC]}:=⟨_,rfl⟩;have fit':R'.aD (k+1):=by rw[hR'];obtain⟨g1,g2,g3,g4,g5,g6,g7,g8,g9,g10,g11,g12,g13,g14,g15⟩:=hfit.aA (WQ k);exact⟨g1,g2,g3,g4,g5,g6,g7,g8,g9,g10,g11,g12,by show (R.aH++[m.aC]).length<=k+1+1;simp;omega,g14,g15⟩
     have eg':R'.aH=R.aH++[m.aC]:=by rw[hR']
     have zrow:∀g f,R'.aJ g f=R.aJ g f:=λg f=>by rw[hR'];rfl
     have K0:=(s4 h.length (hx.ge (U8 _)) (.inl (by omega)) (by simp;omega)).trans (D0 _);have K1:=(s4 (h.length+1) (hx.ge (by omega)) (.inl (by omega)) (by simp;omega)).trans (D1 _);have b2:=gJ H (some (e_.aA 1 [[.aA .i64 m.aC]] false));rw[lH]at b2;have K2:=(s4 (h.length+2) (hx.ge (by omega)) (.inr (by omega)) (by simp[lH])).trans b2;have lr5:=(UY.1 s5).1;have s5':=s5;simp only[fj.aJ]at s5';have w1:(h.length=r)=False:=Vm (by omega);have w2:(r=h.length)=False:=Vm (by omega);have w3:(h.length+2=r)=False:=Vm (by omega);have w4:(r=h.length+2)=False:=Vm (by omega);have w5:(r=h.length+1)=False:=Vm (by omega);have w6:(h.length+1=r)=False:=Vm (by omega);rw[<-hR']at s8;have l8:r<H'.length:=lr5;have r8:(H'.set r (some (.aA 21 [R'.aJ g' ff] false)))[r]?=some (some (.aA 21 [R'.aJ g' ff] false)):=U5 l8;have g8:Rd (λm=>m≠r) (H'.set r (some (.aA 21 [R'.aJ g' ff] false))) (fN R'.aH) g':=by rw[eg'];obtain⟨L8,x8,-⟩:=s8;obtain⟨g9,f9,ra9⟩:=x8.r;have:=ra9.aA.symm.trans r8;simp only[U_,e_.aA.injEq,Wc,fj.aJ]at this;obtain⟨-,⟨⟨-,-,-,-,-,-,-,-,-,-,-,-,-,-,-,-,-,rfl,-⟩,-⟩,-⟩:=this;rw[<-eg'];exact eY.rd _ (λm hm=>by rintro rfl;rw[ra9.lr]at hm;omega) _ ra9.go
     have E0:=s8.aA (z2 _ (U8 _)) (λz=>z) C0;have E1:=s8.aA (z2 _ (by omega)) (λz=>z) C1';rw[zrow]at s8 r8 g8 E0 E1;have r8':=r8;simp only[fj.aJ]at s8 r8' g8 E0 E1;have ez:(let y:RX:=⟨{R with aH:=R.aH++[m.aC]},out⟩;if y.r.aM.aH y.r.aH then y.aN else y)=if R'.aM.aH R'.aH then RX.aN ⟨R',out⟩ else ⟨R',out⟩:=by rw[hR']
     rw[ez];simp only[go_sem,jh,K0,K1,K2,s5',s2,gz s2,w2,w4,w5,lr5,Bool.true_or,U9];generalize H'.set r _=H2 at *;refine fZ u3.1 (u3.2 H2 r R' s8.aF (fit'.aJ (by omega))) ?_;rw[iG];simp only[go_sem,E0,r8',fq.aP];refine fZ u4.1 (u4.2 eZ _ H2 R'.aM R'.aH _ _ (tP R'.aM H2) g8 (fit'.aO (by decide)) (by rw[eg'];simp;omega)) ?_;rw[iG];cases cw:R'.aM.aH R'.aH;·simp only[go_sem,E0,r8',Vn,VI];exact fB.aC X1 s8
     ·simp only[go_sem,E0,r8',VS];have ld:=fB.aD (Q':=eZ) s8 (eW.aC _ _) (λ_ _ y=>y) λL1 x1=>u5.2 L1 H2 r o _ (k+1) j x1 fit' hk (RX.aC.aA (x:=⟨R',out⟩) hj (U8 _)) hj2;refine fy ⟨u5.1,ld⟩ ?_;intro _ H3 T3;simp only[go_sem];exact fB.aC X1 T3
   ·simp only[go_sem,rr',C0,C1',c2];rw[ex (.inr (.inr (.inl (by simpa using c3))))];exact fB.aC X1 hx1.to
 ·simp only[go_sem,rr',U2 c1,VN];rw[ex (.inl c1)];exact fB.aC X1 hx1.to
def wt (P:Program)(f:FuncId):Prop:=fK P f=true/\∀(L:Nat->Nat)(h:eX)(r o:Nat)(x:RX)(j:Nat)(m:fJ)(a:List AV)(G:Nat->Prop)(ok:Bool)(index:Int),h_ L h r o x->x.aC j->j<2^20->fu G h m.c a->
 fC P f [.aF [.aC r 21 0 0,.aC o 5 0 0],.aF a,.aE ok,.aA .i64 index] h λ_ h'=>fB wO eZ L h r o (x.aS m ok index) h'
theorem QL {P:Program}{f f1:FuncId}(hf:Is P f (Bu f1))(u1:qS P f1):wt P f:=by
 refine⟨hf.2,λL h r o x j m a G ok index hx hj u hr=>fS hf ?_⟩;obtain⟨e,d,rfl,he,hd⟩:=pL hr;simp only[Bu,go_sem,fJ.aD,he.aA,hd.aA];obtain⟨H,hH⟩:∃H,H=h++[some (e_.aA 2 [[.aC r 21 0 0,.aC o 5 0 0]] false)]++[some (e_.aA 17 [m.aD e d] false)]:=⟨_,rfl⟩;have X1:eW eZ h H:=by rw[hH];exact eW.b2 _ _
 simp only[fJ.aD]at hH;rw[<-hH];have sd:=u1.2 eZ L H r o x {fJ.aK with aE:=4,to:=m.aC,ok:=ok,aA:=index,aM:=m.aM} .aD .aD (hx.up X1) (eY.aD 3) (eY.aD 1) (λ_ z=>z.elim) (rD hj.1 u 168 (by omega));refine fy ⟨u1.1,sd⟩ ?_;intro _ H2 T2;simp only[go_sem];exact fB.aC X1 T2
theorem fB.aS {W:Nat->Prop}{L h r o R out H g f}(T:fB W eZ L h r o ⟨R,out⟩ H) (row:H[r]?=some (some (.aA 21 [R.aJ g f] false))) (hW:∀k,k≠0->W k) {i:Nat} (hi:i<R.aC.length):
  ∃n j rw gr,jg 4 f (.aA .i64 i)=some (.aC n 4 j 0)/\H[n]?=some (some (.aA 4 rw gr))/\rw[j]?=some (R.aC[i]).aA/\n≠r/\n<H.length/\(∀m,L m=0->m<h.length\/H.length<=m->m≠n) /\
   ∀w:fV,fB W eZ L h r o ⟨{R with aC:=R.aC.set i w},out⟩ (H.set n (some (.aA 4 (rw.set j w.aA) gr))):=by
 obtain⟨L1,x1,l1,O⟩:=T;obtain⟨g1,f1,ra⟩:=x1.r;obtain⟨ma,ca,aa,oa⟩:=x1.o;have:=ra.aA.symm.trans row;simp only[U_,e_.aA.injEq,Wc,fj.aJ]at this;obtain⟨-,⟨⟨-,-,-,-,-,-,-,-,-,-,-,-,-,-,-,-,-,rfl,rfl,-⟩,-⟩,-⟩:=this;obtain⟨n,off,rw,gr,cs,len,cap,e1,hn,ix,u,I,hd,wr⟩:=CW (j:=i) (d0:=(R.aC[i]).c) ra.fo (by rw[VE,U0 hi];rfl);have M:cs=(R.aC[i]).aA:=tQ (fI.rd _ (F':=λ_=>True) (λ_ _=>Vd) _ hd);subst M;have hlt:=(UY.1 u).1;have ne:∀m,L1 m≠2->m≠n:=λm hm e=>hm (e▸hn);refine⟨n,off+i,rw,gr,ix,u,I,λe=>by rw[e,ra.lr]at hn;omega,hlt,λm h0 hm=>?_,λw=>?_⟩
 ·rcases hm with hm | hm;·exact ne m (by rw[l1 m hm (.inr (λz=>z)),h0];omega)
  ·omega
 ·have st:∀m,L1 m≠2->(H.set n (some (.aA 4 (rw.set (off+i) w.aA) gr)))[m]?=H[m]?:=λm hm=>UZ (λe=>ne m hm e.symm);have E:=wr (λm=>L1 m=2) H w.c w.aA (λ_ z=>z) (λ_ _ _ y=>y) rfl (by simp only[fV.c,fV.aA,fI,eY];exact⟨_,_,rfl,rfl,_,_,rfl,rfl,_,_,rfl,rfl,_,_,rfl,rfl,rfl⟩);refine fB.aE l1 O (λ_ _ y=>y) ⟨L1,⟨⟨g1,f1,(st r (by rw[ra.lr];omega)).trans ra.aA,?_,?_,?_,?_,ra.lr⟩,⟨ma,ca,aa,oa.aC (λ_ _ _=>rfl) λm hm c=>st m (by omega)⟩,λm hm=>by rw[U9];exact x1.lt m hm⟩,λ_ _ _=>rfl,eW.aI _ λ_=>.inl (hW _ (by rw[hn];omega))⟩;·exact eY.aC _ (λ_ y=>y) (λm hm y hy=>(st m (by omega)).trans hy) _ ra.go
  ·exact ra.gc.aA ra.go (λm hm y hy=>(st m (by omega)).trans hy)
  ·show eY (.sl 4 ((R.aC.set i w).map fV.c)) _ _ _;rw[Xi];exact E
  ·have hc:=ra.fc;subst e1;obtain⟨row',g',C,h1,h2⟩:=hc;rw[u]at C;simp only[U_,e_.aA.injEq,true_and]at C;obtain⟨rfl,rfl⟩:=C;exact⟨_,_,U5 hlt,h1,λc hc=>by rw[U9];exact h2 c hc⟩
theorem Nu {P:Program}{f:FuncId}(hf:Is P f xf){h:eX}{n:Nat}{m:fJ}{e d:AV} (hq:h[n]?=some (some (.aA 17 [m.aD e d] false))) (w:fV):
  fC P f [.aF w.aA,.aC n 17 0 0] h λr h'=>r=.aE (decide (w.aE=m.aC))/\h'=h:=by
 refine jG (qE _ _) (fS hf ?_);have u:∀b,(h++[b])[n]?=_:=λb=>(eW.b1 b).aA hq;simp only[fJ.aD]at u;simp only[xf,fV.aA,go_sem,u];exact eW.b1 _
theorem fV.aG.aC {w:fV}(h:w.aG)(m:fJ)(hi:0<=m.aA/\m.aA<=2^40):(w.aF m).aG:=by
 obtain⟨h1,⟨h2,h3⟩,h4,h5⟩:=h;unfold fV.aF;split
 ·split;·exact⟨h1,⟨by show 0<=max w.aC (max w.aD m.aA+1);omega,by show max w.aC (max w.aD m.aA+1)<=_;omega⟩,by show 0<=max w.aD m.aA;omega,by show max w.aD m.aA<=_;omega⟩
  ·exact⟨h1,⟨by show 0<=max (w.aD+1) (min (w.aC-1) (m.aA+1));omega,by show max (w.aD+1) (min (w.aC-1) (m.aA+1))<=_;omega⟩,h4,h5⟩
 ·exact⟨h1,⟨h2,h3⟩,h4,h5⟩
theorem fj.aD.bD {k:Nat}{x:fj}(h:x.aD k)(i:Nat){w:fV}(hw:w.aG):({x with aC:=x.aC.set i w}:fj).aD k:=by
 obtain⟨g1,g2,g3,g4,g5,g6,g7,g8,g9,M,I,E,C,e,u⟩:=h;refine⟨g1,g2,g3,g4,g5,g6,g7,g8,g9,M,I,E,C,⟨by show (x.aC.set i w).length<=21;rw[U9];exact e.1,λy hy=>?_⟩,u⟩;rcases List.mem_or_eq_of_mem_set hy with z | z;·exact e.2 y z
 ·rw[z];exact hw
def yV (P:Program)(f:FuncId):Prop:=fK P f=true/\∀(L:Nat->Nat)(h:eX)(r o:Nat)(x:RX)(k j:Nat)(m:fJ)(a:List AV),h_ L h r o x->x.r.aD k->k<=2^28->x.aC j->j<2^20->kX L h m a->0<=m.aA/\m.aA<=2^40->
 fC P f [.aF [.aC r 21 0 0,.aC o 5 0 0],.aF a] h λ_ h'=>fB wA eZ L h r o (x.aO m) h'
theorem RD {P:Program}{f f1 f2 f3 f4 f5 f6:FuncId}(hf:Is P f (Bv f1 f2 f3 f4 f5 f6))(u1:Is P f1 xf)(u2:v_ P f2)(u3:yI P f3)(u4:uA P f4)(u5:pt P f5)(u6:qU P f6):yV P f:=by
 refine⟨hf.2,λL h r o x k j m a hx u hk hj ac hm a5=>fS hf ?_⟩;obtain⟨G,hr,h0⟩:=id hm;obtain⟨e,d,rfl,he,hd⟩:=pL hr;have ap:=hx.aC;obtain⟨R,out⟩:=x;simp only at u;obtain⟨H,hH⟩:∃H,H=h++[some (e_.aA 2 [[.aC r 21 0 0,.aC o 5 0 0]] false)]++[some (e_.aA 17 [m.aD e d] false)]:=⟨_,rfl⟩;have X1:eW eZ h H:=by rw[hH];exact eW.b2 _ _
 have lH:H.length=h.length+2:=by rw[hH];simp
 have C0:H[h.length]?=some (some (e_.aA 2 [[.aC r 21 0 0,.aC o 5 0 0]] false)):=by rw[hH];exact jx _ _ _
 have C1:H[h.length+1]?=some (some (e_.aA 17 [m.aD e d] false)):=by rw[hH];exact iF _ _ _
 have U:=hx.up X1;have z2:∀m,h.length<=m->¬wA (L m):=λm e=>by rw[hx.ge e];exact jJ
 obtain⟨g,ff,ra⟩:=U.r;have rr:=ra.aA;have E:=rr;have a4:=C1;have rf:=eY.rd _ (F':=λm=>L m=2) (λ_ y=>y) _ ra.fo;have a6:=u.aG;simp only[fj.aJ]at E;simp only[fJ.aD]at a4 hH;simp only[Bv,go_sem,fJ.aD,he.aA,hd.aA];rw[<-hH];clear hH;simp only[go_sem,E];refine fZ u2.1 (u2.2 _ H R.aC ff f1 [] [.aC (h.length+1) 17 0 0] (λw=>decide (w.aE=m.aC)) rf (by omega) u1.2 (λw _=>Nu u1 C1 w)) ?_;by_cases c1:R.aI=2
 ·cases c2:tj R.aC m.aC with
  | none=>
   have e1:(RX.aO ⟨R,out⟩ m)=⟨R,out⟩:=by unfold RX.aO;rw[U6 (by simpa using c1)];simp only[c2]
   rw[e1,Cj c2];have zn:(-1:Int)<0:=by omega
   simp only[go_sem,E,C0,U3 c1,VF,U3 zn];exact fB.aC X1 U.to
  | some i=>
   obtain⟨e1,hi⟩:=Ck (k:=0) c2;rw[WR]at e1;rw[e1];have zn:¬(i:Int)<0:=by omega
   have eh:(RX.aO ⟨R,out⟩ m)=(let f:=(R.aC[i]).aF m
    let y:RX:=⟨{R with aC:=R.aC.set i f},out⟩
    let z:=if m.ok then y.aK else y
    if m.ok=false\/f.aC<=z.r.aL then z.to f else z):=by
    unfold RX.aO;rw[U6 (by simpa using c1)];simp only[c2,U0 hi,Vu]
   obtain⟨n,jj,rw,gr,w1,w2,w3,w4,w5,w6,w7⟩:=fB.aS (U.to (W:=wA)) rr (λ_ z=>z) hi;have ww:=(a6.2 _ (Vx hi)).aC m a5;have ws:=a6.2 _ (Vx hi);rw[eh];clear eh;generalize R.aC[i]=w at *;have pc:jB H (.aC n 4 jj 0)=some w.aA:=by simp[jB,w2,w3]
   have R3:∀b,(H++[b])[r]?=_:=λb=>(eW.b1 b).aA E;have D0:∀b,(H++[b])[h.length]?=_:=λb=>(eW.b1 b).aA C0;have D1:∀b,(H++[b])[h.length+1]?=_:=λb=>(eW.b1 b).aA a4;have D2:∀b,(H++[b])[n]?=_:=λb=>(eW.b1 b).aA w2;have N1:∀sz i o',gN (h.length+1+1) 1 (.aC r sz i o')=true:=λsz i o'=>ig (by omega);have N2:∀sz i o',gN (h.length+1+1) 1 (.aC h.length sz i o')=true:=λsz i o'=>ig (by omega);have N3:∀sz i o',gN (h.length+1+1) 1 (.aC (h.length+1) sz i o')=true:=λsz i o'=>ig (by omega);have N4:∀sz i o',gN (h.length+1+1) 1 (.aC n sz i o')=true:=λsz i o'=>ig (by omega);have ld:∀b,ir (H++[b]) true 4 (.aC n 4 jj 0)=some (.aF w.aA):=λb=>by rw[jr (cs:=w.aA) (by simp[jB,D2,w3])];rfl
   have C:∀a b,(H++[a]).set (h.length+2) b=H++[b]:=λa b=>by rw[W0 _ _ (by omega),lH];simp
   simp only[fV.aA]at ld;simp only[go_sem,jh,E,C0,U3 c1,VF,U2 zn,R3,D0,D1,lH,N1,N2,N3,N4,w1,ld,C];have ab:∀b,fu G (H++[b]) m.c (m.aD e d):=λb=>fu.aA (λ_ y=>y) ((X1.tr (eW.b1 b)).aE _) _ _ hr;have hc:=u3.2 G (H++[none]) w m _ (ab none) ws.aA a5;simp only[fJ.aD,fV.aA]at hc;refine fZ u3.1 hc ?_;have q0:(h.length=h.length+2)=False:=Vm (by omega);have q1:(h.length+2=h.length)=False:=Vm (by omega);have q2:(h.length+1=h.length+2)=False:=Vm (by omega);have q3:(h.length+2=h.length+1)=False:=Vm (by omega);have q4:(r=h.length+2)=False:=Vm (by omega);have q5:(h.length+2=r)=False:=Vm (by omega);have q6:(n=h.length+2)=False:=Vm (by omega);have q7:(h.length+2=n)=False:=Vm (by omega);have b2:∀b,(H++[b])[h.length+2]?=some b:=λb=>by rw[<-lH];exact gJ H b
   have aa:∀b,((jg 4 ff (.aA .i64 i)).bind λp=>ir (H++[b]) true 4 p)=some (.aF w.aA):=λb=>by rw[w1];exact ld b
   simp only[go_sem,jh,R3,D0,D1,D2,lH,w1,ld,C,b2,Xo,Bool.true_or,U1];have a2:=(UY.1 w3).1;have O:(rw.modify jj λx=>(((x.set 0 (AV.aA IntKind.i64 (w.aF m).aE)).set 1 (AV.aA IntKind.i64 (w.aF m).aC)).set 2 (AV.aA IntKind.i64 (w.aF m).aD)).set 3 (AV.aA IntKind.i64 (w.aF m).aH))=rw.set jj (w.aF m).aA:=by
    apply VM;intro q;rw[WO,Wl];by_cases c:jj=q
    ·subst c;have a8:rw[jj]=w.aA:=by have:=w3;rw[U0 a2]at this;exact Xr this
     simp[a2,a8,fV.aA]
    ·simp[c]
   rw[U4 a2,O];have T1:=w7 (w.aF m);obtain⟨F,hF⟩:∃F,F=w.aF m:=⟨_,rfl⟩;rw[<-hF]at T1 ww ⊢;have sA:∀v b,(H++[b]).set n v=H.set n v++[b]:=λv b=>List.set_append_left _ _ w5;rw[sA];obtain⟨L1,x0,l1,e1⟩:=T1;have z1:∀m,h.length<=m->¬wA (L1 m):=λm hm=>by
    by_cases c:m<H.length
    ·rw[l1 m c (.inr (λz=>z))];exact z2 m hm
    ·rw[x0.ge (by rw[U9];omega)];exact jJ
   have x1:=x0.up (eW.b1 (some (e_.aA 4 [F.aA] false)));have e3:=e1.aD (eW.b1 (some (e_.aA 4 [F.aA] false))) (F'':=λm=>wA (L m)\/eZ m) (λ_ _ z=>z) (λ_ _ z=>z.elim);have T2:=fB.aE l1 e3 (λ_ _ y=>y) (x1.to (W:=wA) (Q:=eZ));have M:({R with aC:=R.aC.set i F}:fj).aD k:=u.bD i ww;have K0:=T2.aA (z2 _ (U8 _)) (λy=>y) C0;have K1:=T2.aA (z2 _ (by omega)) (λy=>y) a4;have K2:(H.set n (some (.aA 4 (rw.set jj F.aA) gr))++[some (e_.aA 4 [F.aA] false)])[h.length+2]?=some (some (e_.aA 4 [F.aA] false)):=by have:=gJ (H.set n (some (.aA 4 (rw.set jj F.aA) gr))) (some (e_.aA 4 [F.aA] false));rw[U9,lH]at this;exact this
   simp only[fV.aA]at K0 K1 K2 T2 x1 e3 ⊢;clear T2;generalize hH3:(H.set n _++_:eX)=H3 at *;simp only[go_sem];obtain⟨g3,ff3,a9⟩:=x1.aA;have a1:=a9;simp only[fj.aJ]at a1;clear aa sA C O;have Z:∀(H4:eX)(y:RX),y.aC j->y.r.aA=R.aA->fB wA eZ L1 H3 r o y H4->fC P f6 [.aF [.aC r 21 0 0,.aC o 5 0 0],.aF F.aA] H4 λ_ h'=>fB wA eZ L1 H3 r o (y.to F) h':=λH4 y yf yh T=>fB.aD (Q':=eZ) T (eW.aC _ _) (λ_ _ y=>y) λL1 x1=>(u6.2 L1 H4 r o y F x1 ww.aA (by rw[yh];exact u.bw hk) (rD yf.1 ac 168 (by omega))).aA λ_ _ b=>b.aG m8;simp only[fV.aA]at Z;have fin:∀{y H4},fB wA eZ L1 H3 r o y H4->fB wA eZ L h r o y H4:=λT=>fB.aC X1 (fB.aE l1 e3 (λ_ _ y=>y) T);have yf:(⟨{R with aC:=R.aC.set i F},out⟩:RX).aC j:=hj;cases c3:m.ok;·simp only[go_sem,K0,K1,K2,c3,VN,true_or,VS,Vn,VI];refine fy ⟨u6.1,Z H3 _ yf rfl x1.to⟩ ?_;intro _ H4 T4;simp only[go_sem];exact fin T4
   ·simp only[go_sem,K0,K1,c3,VS,Bool.true_eq_false,false_or];have st:=u4.2 L1 H3 r o _ k x1 M hk;refine fy ⟨u4.1,st⟩ ?_;intro _ H4 T4;have M0:=T4.aA (z1 _ (U8 _)) (λy=>y) K0;have M1:=T4.aA (z1 _ (by omega)) (λy=>y) K1;have M2:=T4.aA (z1 _ (by omega)) (λy=>y) K2;have a3:(RX.aK ⟨{R with aC:=R.aC.set i F},out⟩).r.aD k:=M.aR;have I:(RX.aK ⟨{R with aC:=R.aC.set i F},out⟩).r.aA=R.aA:=by show (fj.aW _).aA=_;unfold fj.aW;split<;>rfl
    have a7:(RX.aK ⟨{R with aC:=R.aC.set i F},out⟩).aC j:=hj;generalize (RX.aK ⟨{R with aC:=R.aC.set i F},out⟩)=y at *;simp only[go_sem,M0,M1,M2,c3,VF];refine fZ u5.1 (u5.2 H4 r y.r T4.aF (a3.aD hk)) ?_;rw[iG];by_cases c4:F.aC<=y.r.aL;·rw[U4 c4];simp only[go_sem,M0,M1,M2,c3,U3 c4];refine fy ⟨u6.1,Z H4 y a7 I T4⟩ ?_;intro _ H5 T5;simp only[go_sem];exact fin T5
    ·rw[U6 c4];simp only[go_sem,M0,M1,M2,c3,U2 c4];exact fin T4
 ·have e1:(RX.aO ⟨R,out⟩ m)=⟨R,out⟩:=by unfold RX.aO;rw[U4 (by simpa using c1)]
  rw[e1];simp only[go_sem,E,C0,U2 c1,VN];exact fB.aC X1 U.to
end Glb
