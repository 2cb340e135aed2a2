/-
  A library of its own.
-/
import Derived.Test.YtdeiamnhnfmilaaGreatGlbRafB
set_option linter.unusedSimpArgs false
set_option linter.unusedVariables false
set_option maxRecDepth 10000
set_option maxHeartbeats 8000000
namespace Glb
open Go
def AC.hd:AC->AC
 | .aB a _=>a
 | x=>x
def AC.tl:AC->AC
 | .aB _ b=>b
 | x=>x
theorem AC.aG (a b:AC):(AC.aB a b).hd=a:=rfl
theorem AC.aA (a b:AC):(AC.aB a b).tl=b:=rfl
theorem fF.aO {W Q L h r o R out h' ma ca aa}{n:Int}{b:Bool}(T:fF W Q L h r o ⟨R,out⟩ h') (row:h'[o]?=some (some (.aA 5 [[ma,ca,aa,.aA .i64 out.aA,.aD out.aB]] false))) (hW:∀k,k≠0->W k):
  fF W Q L h r o ⟨R,{out with aA:=n,aB:=b}⟩ (h'.set o (some (.aA 5 [[ma,ca,aa,.aA .i64 n,.aD b]] false))):=by
 obtain⟨L1,x1,l1,u⟩:=T;obtain⟨g1,f1,ra⟩:=x1.r;obtain⟨ma',ca',t,oa⟩:=x1.o;have:=oa.aA.symm.trans row;simp only[Vk,fh.aA.injEq,Wr]at this;obtain⟨-,⟨⟨rfl,rfl,rfl,-⟩,-⟩,-⟩:=this;have lo:=(U_.1 oa.aA).1;have ne:∀m,L1 m≠7->(h'.set o (some (.aA 5 [[ma',ca',t,.aA .i64 n,.aD b]] false)))[m]?=h'[m]?:=λm hm=>Vb (by rintro rfl;exact hm oa.lo);refine fF.aE l1 u (λ_ _ y=>y) ⟨L1,⟨⟨g1,f1,ra.aB (λ_ _ _=>rfl) λm hm y=>ne m (by omega)⟩,⟨ma',ca',t,Vd lo,?_,?_,?_,?_,?_,oa.lo⟩,λm hm=>by rw[Vh];exact x1.lt m hm⟩,λ_ _ _=>rfl,eY.aG _ λ_=>.inl (hW _ (by rw[oa.lo];omega))⟩;·exact e_.aB _ (λ_ y=>y) (λm hm y hy=>(ne m (by omega)).trans hy) _ oa.m
 ·exact oa.mc.aA oa.m (λm hm y hy=>(ne m (by omega)).trans hy)
 ·exact e_.aB _ (λ_ y=>y) (λm hm y hy=>(ne m (by omega)).trans hy) _ oa.c
 ·exact oa.cc.aA oa.c (λm hm y hy=>(ne m (by omega)).trans hy)
 ·exact e_.aB _ (λ_ y=>y) (λm hm y hy=>(ne m (by omega)).trans hy) _ oa.a
theorem fF.aQ {W Q L h r o R out h' h3 ma ca aa e}{l:List gj}(T:fF W Q L h r o ⟨R,out⟩ h')(X:eY fj h' h3) (row:h'[o]?=some (some (.aA 5 [[ma,ca,aa,.aA .i64 out.aA,.aD out.aB]] false))) (he:e_ (f_ l) (λm=>h'.length<=m) h3 e) (hW:∀k,k≠0->W k):
  fF W Q L h r o ⟨R,{out with aF:=l}⟩ (h3.set o (some (.aA 5 [[ma,ca,e,.aA .i64 out.aA,.aD out.aB]] false))):=by
 obtain⟨L1,x1,l1,b⟩:=T;obtain⟨g1,f1,ra⟩:=x1.r;obtain⟨ma',ca',aa',oa⟩:=x1.o;have:=oa.aA.symm.trans row;simp only[Vk,fh.aA.injEq,Wr]at this;obtain⟨-,⟨⟨rfl,rfl,rfl,-⟩,-⟩,-⟩:=this;have lo:=(U_.1 oa.aA).1;have hl:=X.1;have st:∀m,m<h'.length->L1 m≠7->(h3.set o (some (.aA 5 [[ma',ca',e,.aA .i64 out.aA,.aD out.aB]] false)))[m]?=h'[m]?:=λm hm h7=>(Vb (by rintro rfl;exact h7 oa.lo)).trans (X.2 m hm (λy=>y));have old:∀{m},m<h'.length->ky L1 fj h'.length h3.length 5 m=L1 m:=fun {m} hm=>kX (.inr ⟨λy=>y,hm⟩);refine fF.aE l1 b (λ_ _ y=>y) ⟨ky L1 fj h'.length h3.length 5,⟨⟨g1,f1,ra.aB (λm hm _=>old hm) λm hm y=>st m hm (by omega)⟩,⟨ma',ca',e,Vd (by omega),?_,?_,?_,?_,?_,(old lo).trans oa.lo⟩,λm hm=>by rw[Vh];exact sX (λz=>by have:=x1.lt m z;omega) hm⟩,λm hm _=>old hm,?_⟩;·exact e_.aB _ (λm hm=>(old hm.2).trans hm.1) (λm hm y hy=>(st m hm.2 (by omega)).trans hy) _ (e_.lt _ _ oa.m)
 ·exact oa.mc.aA (e_.lt _ _ oa.m) (λm hm y hy=>(st m hm.2 (by omega)).trans hy)
 ·exact e_.aB _ (λm hm=>(old hm.2).trans hm.1) (λm hm y hy=>(st m hm.2 (by omega)).trans hy) _ (e_.lt _ _ oa.c)
 ·exact oa.cc.aA (e_.lt _ _ oa.c) (λm hm y hy=>(st m hm.2 (by omega)).trans hy)
 ·exact e_.aB _ (λm hm=>sY (x1.ge hm.1) hm.2 (.inr hm.1)) (λm hm y hy=>(Vb (by omega)).trans hy) _ (e_.lt _ _ he)
 ·exact X.aB (eY.aG (F:=λm=>m=o) _ (λ_=>rfl)) (F'':=λm=>W (L1 m)\/Q m) (λ_ _ y=>y.elim) (λm _ y=>.inl (by rw[y];exact hW _ (by rw[oa.lo];omega)))
theorem fF.aN {W Q L h r o x h'}(T:fF W Q L h r o x h'):∃ma ca aa,h'[o]?=some (some (.aA 5 [[ma,ca,aa,.aA .i64 x.o.aA,.aD x.o.aB]] false))/\ma.aG=true/\ca.aG=true/\aa.aG=true:=by obtain⟨_,x1,_⟩:=T;obtain⟨ma,ca,aa,oa⟩:=x1.o;exact⟨ma,ca,aa,oa.aA,oa.m.aA,oa.c.aA,oa.a.aA⟩
theorem gS.aB {L h r o x}(a:gS L h r o x):r<h.length/\o<h.length/\r≠o:=by obtain⟨⟨g,f,ra⟩,⟨ma,ca,aa,oa⟩,lt⟩:=a;exact⟨lt r (by rw[ra.lr];omega),lt o (by rw[oa.lo];omega),λe=>by have:=ra.lr;have:=oa.lo;rw[e]at *;omega⟩
def v_ (P:Program)(f:FuncId):Prop:=fI P f=true/\∀(L:Nat->Nat)(h:eZ)(r o:Nat)(x:RX)(k:Nat),gS L h r o x->x.r.aD k->k<=2^28->
 fy P f [.aE [.aC r 21 0 0,.aC o 5 0 0]] h λ_ h'=>fF wA fj L h r o x.aD h'
def v8 (P:Program)(f:FuncId):Prop:=fI P f=true/\∀(L:Nat->Nat)(h:eZ)(r o:Nat)(x:RX)(k:Nat),gS L h r o x->x.r.aD k->k<=2^28->
 pk P f [.aE [.aC r 21 0 0,.aC o 5 0 0]] h λ_ h'=>fF wA fj L h r o x.aD h'
theorem Il {P:Program}{f1 f2 f3 f4 f5:FuncId}(u1:nM P f1)(u2:nL P f2 fG.aE)(u3:j_ P f3)(u4:qi P f4)(u5:kS P f5)(L:Nat->Nat)(h:eZ)(r o:Nat)(x:RX)(k:Nat)(hx:gS L h r o x)(hfit:x.r.aD k)(hk:k<=2^28):
  vc P (kr f1 f2 f3 f4 f5).aA ⟨[(0,.aE [.aC r 21 0 0,.aC o 5 0 0])],[],h⟩ (ia (kr f1 f2 f3 f4 f5).aB λ_ h'=>fF wA fj L h r o x.aD h'):=by
 obtain⟨R,out⟩:=x;simp only at hfit;have lt:=hx.lt;have hbase:=hfit.aC;have hlast:=hfit.aE;have hat:=hfit.aK;have second:∀(Le:fY)(H0 H:eZ)(R1:fm),R.aZ=R1->R1.aD k->lk 1 Le=.aC h.length 2 0 0->eY fj h H0->H0[h.length]?=some (some (.aA 2 [[.aC r 21 0 0,.aC o 5 0 0]] false))->fF wA fj L H0 r o ⟨R1,out⟩ H->
   vc P (kr f1 f2 f3 f4 f5).aA.tl.tl.tl ⟨Le,[],H⟩ (ia (kr f1 f2 f3 f4 f5).aB λ_ h'=>fF wA fj L h r o (RX.aD ⟨R,out⟩) h'):=by
  intro Le H0 H R1 e1 fit1 k1 X0 C0 T;have hlast:=fit1.aE;have hbase:=fit1.aC;have hat:=fit1.aK;have z2:∀m,h.length<=m->¬wA (L m):=λm e=>by rw[hx.ge e];exact iZ
  have b0:=T.aA (z2 _ (Vg _)) (λy=>y) C0;obtain⟨g,ff,r0⟩:=T.aD;obtain⟨ma,ca,aa,o0,sma,sca,saa⟩:=T.aN;have r0':=r0;simp only[fm.aJ]at r0';have lo:=(U_.1 o0).1;have lr:=(U_.1 r0).1;have eE:RX.aD ⟨R,out⟩=if R1.aI<=R1.aO then ⟨R1,out⟩ else ⟨{R1 with aO:=R1.aI},{out with aA:=R1.aO+1,aF:=R1.aA.aA.aE (R1.aO+1) (R1.aI-R1.aO)}⟩:=by unfold RX.aD;simp only[e1]
  rw[eE];simp only[kr,AC.aA,go_sem,k1,b0,r0'];by_cases c:R1.aI<=R1.aO;·simp only[go_sem,Vc c];rw[Vf c];exact fF.aB X0 T
  ·have ew:IntKind.i64.wrap (R1.aO+1)=R1.aO+1:=fQ (by omega);have ew2:IntKind.i64.wrap (R1.aI-R1.aO)=R1.aI-R1.aO:=fQ (by omega);rw[Ve c];obtain⟨ap1,ap2,ap3⟩:=hx.aB;have q1:(o=h.length)=False:=Vs (by omega);have q2:(o=r)=False:=Vs (by omega);have q3:(r=o)=False:=Vs (by omega);have q4:(r=h.length)=False:=Vs (by omega);simp only[go_sem,Va c,k1,b0,r0',o0,ew,ew2,q1,q2,lo];have T1:=fF.aO (n:=R1.aO+1) (b:=out.aB) T o0 (λ_ z=>z);generalize hH3:H.set o _=H3 at *;have r3:H3[r]?=some (some (.aA 21 [R1.aJ g ff] false)):=by rw[<-hH3];exact (Vb (λe=>ap3 e.symm)).trans r0
   have o3:H3[o]?=some (some (.aA 5 [[ma,ca,aa,.aA .i64 (R1.aO+1),.aD out.aB]] false)):=by rw[<-hH3];exact Vd lo
   have b3:=T1.aA (z2 _ (Vg _)) (λy=>y) C0;have sl:=u5.2 fj H3 R1.aA.aA _ (R1.aO+1) (R1.aI-R1.aO) (lY R1.aA.aA H3) (fit1.aB hk);refine fq ⟨u5.1,sl⟩ ?_;rintro e H4 ⟨oe,-,X4⟩;have se:=oe.aA;have b4:=X4.aA b3;have r4:=X4.aA r3;have r4':=r4;have o4:=X4.aA o3;have lo4:=(U_.1 o4).1;have lr4:=(U_.1 r4).1;simp only[fm.aJ]at r4';have T2:=fF.aQ (l:=R1.aA.aA.aE (R1.aO+1) (R1.aI-R1.aO)) T1 X4 o3 oe (λ_ z=>z);rw[gF];simp only[go_sem,k1,b4,r4',o4,se,gH se,q1,q2,q4,lo4,lr4,Vh];have r5:(H4.set o (some (.aA 5 [[ma,ca,e,.aA .i64 (R1.aO+1),.aD out.aB]] false)))[r]?=some (some (.aA 21 [R1.aJ g ff] false)):=(Vb (λe=>ap3 e.symm)).trans r4;have T3:=fF.aG (R':={R1 with aO:=R1.aI}) T2 r5 rfl rfl (λ_ z=>z);exact fF.aB X0 T3
 have e0:(kr f1 f2 f3 f4 f5).aA=.aB (kr f1 f2 f3 f4 f5).aA.hd (.aB (kr f1 f2 f3 f4 f5).aA.tl.hd (.aB (kr f1 f2 f3 f4 f5).aA.tl.tl.hd (kr f1 f2 f3 f4 f5).aA.tl.tl.tl)):=rfl;rw[e0];generalize (kr f1 f2 f3 f4 f5).aA.tl.tl.tl=D at second ⊢;obtain⟨g,ff,rr⟩:=hx.aA;have lr:=(U_.1 rr).1;simp only[fm.aJ]at rr;have R1:∀a,(h++[a])[r]?=_:=λa=>(eY.b1 a).aA rr;have R2:∀a b,(h++[a]++[b])[r]?=_:=λa b=>(eY.b2 a b).aA rr;have cof:=λH=>u1.2 fj H R.aA _ (qV R.aA H) (hfit.aI hk);simp only[fG.aD]at cof;simp only[kr,AC.aG,AC.aA,go_sem,R1];refine fR u1.1 (cof _) ?_;obtain⟨H2,hH2⟩:∃H2,H2=h++[some (fh.aA 2 [[.aC r 21 0 0,.aC o 5 0 0]] false)]++[some (fh.aA 3 [[fA R.aA.of.1.aA,fA R.aA.of.1.aB,fA R.aA.of.1.aC]] false)]:=⟨_,rfl⟩;have X2:eY fj h H2:=by rw[hH2];exact eY.b2 _ _
 have l2:H2.length=h.length+2:=by rw[hH2];simp
 have C0:H2[h.length]?=some (some (fh.aA 2 [[.aC r 21 0 0,.aC o 5 0 0]] false)):=by rw[hH2];exact iE _ _ _
 have C1:H2[h.length+1]?=some (some (fh.aA 3 [[fA R.aA.of.1.aA,fA R.aA.of.1.aB,fA R.aA.of.1.aC]] false)):=by rw[hH2];exact iq _ _ _
 have r2:=X2.aA rr;have hx2:=hx.up X2;have fin:∀(Le:fY),R.aZ=R->lk 1 Le=.aC h.length 2 0 0->vc P D ⟨Le,[],H2⟩ (ia (kr f1 f2 f3 f4 f5).aB λ_ h'=>fF wA fj L h r o (RX.aD ⟨R,out⟩) h'):=λLe e k1=>second Le H2 H2 R e hfit k1 X2 C0 hx2.to;simp only[kr,fC]at fin;simp only[go_sem,R2];rw[<-hH2];by_cases c1:R.aM=2
 ·simp only[go_sem,r2,C0,Vc c1];by_cases c2:R.aA.of.2<=R.aI
  ·simp only[go_sem,r2,C0,C1,Vc c2];refine fq ⟨u2.1,u2.2 fj H2 R.aA.of.1 _ (sS R.aA.of.1 H2) (hfit.aG (by decide))⟩ ?_;rintro w H3 ⟨ow,X3⟩;have C0':=X3.aA C0;have C1':=X3.aA C1;have r3:=X3.aA r2;rw[gF];simp only[go_sem,r3,C0',C1'];have vl:=uW hfit.aM;refine fR u3.1 (u3.2 (λ_=>True) H3 _ w R.id (e_.rd _ (λ_ _=>Vp) _ ow) (by have:R.aA.of.1.aE.length<=14:=vl;omega)) ?_;rw[gF];have hx3:=hx2.up X3;have snd:=second;simp only[kr,fC]at snd;cases c3:decide (R.id∈R.aA.of.1.aE);·simp only[go_sem,r3,C0',C1',Vt];refine fq ⟨u4.1,u4.2 L H3 r o ⟨R,out⟩ 0 hx3⟩ ?_;intro _ H4 T4;simp only[go_sem];refine snd _ H3 H4 (R.aR 0) ?_ (hfit.aF 0) (by simp[fi]) (X2.tr X3) C0' T4;unfold fm.aZ;rw[Vf ⟨c1,c2,c3⟩]
   ·simp only[go_sem,r3,C0',C1',Vq];refine snd _ H3 H3 R ?_ hfit (by simp[fi]) (X2.tr X3) C0' hx3.to;unfold fm.aZ;rw[Ve (λz=>by have:=z.2.2;unfold fm.aV fm.aE at this;rw[c3]at this;cases this)]
  ·simp only[go_sem,Va c2];exact fin _ (by unfold fm.aZ;rw[Ve (λz=>c2 z.2.1)]) (by simp[fi])
 ·simp only[go_sem,Va c1];exact fin _ (by unfold fm.aZ;rw[Ve (λz=>c1 z.1)]) (by simp[fi])
theorem Rr {P:Program}{f f1 f2 f3 f4 f5:FuncId}(hf:Is P f (kr f1 f2 f3 f4 f5))(u1:nM P f1)(u2:nL P f2 fG.aE)(u3:j_ P f3)(u4:qi P f4)(u5:kS P f5):v_ P f:=
 ⟨hf.2,λL h r o x k hx b hk=>qM hf.1 (Wd rfl) (Il u1 u2 u3 u4 u5 L h r o x k hx b hk)⟩
theorem Rq {P:Program}{f f1 f2 f3 f4 f5:FuncId}(hf:Is P f (kr f1 f2 f3 f4 f5))(u1:nM P f1)(u2:nL P f2 fG.aE)(u3:j_ P f3)(u4:qi P f4)(u5:kS P f5):v8 P f:=
 ⟨hf.2,λL h r o x k hx b hk=>Me hf.1 (Wd rfl) (Il u1 u2 u3 u4 u5 L h r o x k hx b hk)⟩
theorem iJ.aA {lo:Nat}{h:eZ}{sz:Nat}{a:AV}{es:List (List AV)}{e:List AV}{i:Nat}(ho:iJ lo h sz a es) (hi:es[i]?=some e):
  ∃n j row g,iH sz a (.aA .i64 i)=some (.aC n sz j 0)/\lo<=n/\h[n]?=some (some (.aA sz row g))/\row[j]?=some e:=by
 have t:=(U_.1 hi).1;rcases ho with⟨rfl,rfl⟩ | ⟨n,off,cap,row,g,rfl,hn,b,hle,hcl,h5,h6,h7⟩;·simp at t
 ·refine⟨n,off+i,row,g,?_,hn,b,?_⟩;·simp only[iH];rw[Vf ⟨Vp,by omega,by omega⟩];simp
  ·rw[<-h7,V_,Vf t,Vz]at hi;exact hi
theorem iJ.aC {lo:Nat}{h:eZ}{sz:Nat}{a:AV}{es:List (List AV)}(ho:iJ lo h sz a es):g_ a=some (.aA .i64 es.length)/\a.aG=true:=by
 rcases ho with⟨rfl,rfl⟩ | ⟨n,off,cap,row,g,rfl,hn,hrow,hle,hcl,h5,h6,h7⟩;·exact⟨rfl,rfl⟩
 ·exact⟨rfl,rfl⟩
theorem fF.aR {W Q L h r o R R' out h' h1 g f gv}(T:fF W Q L h r o ⟨R,out⟩ h')(X:eY fj h' h1) (row:h'[r]?=some (some (.aA 21 [R.aJ g f] false))) (ho:e_ (fK R'.aG) (λm=>h'.length<=m) h1 gv) (hc:gq h1 gv) (e2:R'.aB=R.aB) (hW:∀k,k≠0->W k):
  fF W Q L h r o ⟨R',out⟩ (h1.set r (some (.aA 21 [R'.aJ gv f] false))):=by
 obtain⟨L1,x1,l1,t⟩:=T;obtain⟨g1,f1,ra⟩:=x1.r;obtain⟨ma,ca,aa,oa⟩:=x1.o;have:=ra.aA.symm.trans row;simp only[Vk,fh.aA.injEq,Wr,fm.aJ]at this;obtain⟨-,⟨⟨-,-,-,-,-,-,-,-,-,-,-,-,-,-,-,-,-,rfl,rfl,-⟩,-⟩,-⟩:=this;have lr:=(U_.1 ra.aA).1;have b:r<h1.length:=by have:=X.1;omega
 have ne:∀m,m≠r->(h1.set r (some (.aA 21 [R'.aJ gv f1] false)))[m]?=h1[m]?:=λm hm=>Vb (λe=>hm e.symm);have st:∀m,m<h'.length->m≠r->(h1.set r (some (.aA 21 [R'.aJ gv f1] false)))[m]?=h'[m]?:=λm hm hr=>(ne m hr).trans (X.2 m hm (λy=>y));have old:∀{m},m<h'.length->ky L1 fj h'.length h1.length 1 m=L1 m:=fun {m} hm=>kX (.inr ⟨λy=>y,hm⟩);have nr:∀m,L1 m≠6->m≠r:=λm hm e=>hm (e▸ra.lr);have hl:=X.1;refine fF.aE l1 t (λ_ _ y=>y) ⟨ky L1 fj h'.length h1.length 1,⟨⟨gv,f1,Vd b,?_,?_,?_,?_,(old lr).trans ra.lr⟩,⟨ma,ca,aa,oa.aB (λm hm _=>old hm) λm hm c=>st m hm (nr m (by omega))⟩,λm hm=>by rw[Vh];exact sX (λz=>by have:=x1.lt m z;omega) hm⟩,λm hm _=>old hm,?_⟩;·exact e_.aB _ (λm hm=>sY (x1.ge hm.1) hm.2 (.inr hm.1)) (λm hm y hy=>(ne m (by omega)).trans hy) _ (e_.lt _ _ ho)
 ·exact hc.aA ho (λm hm y hy=>(ne m (by omega)).trans hy)
 ·rw[e2];exact e_.aB _ (λm hm=>(old hm.2).trans hm.1) (λm hm y hy=>(st m hm.2 (nr m (by omega))).trans hy) _ (e_.lt _ _ ra.fo)
 ·exact ra.fc.aA (e_.lt _ _ ra.fo) (λm hm y hy=>(st m hm.2 (nr m (by omega))).trans hy)
 ·exact X.aB (eY.aG (F:=λm=>m=r) _ (λ_=>rfl)) (F'':=λm=>W (L1 m)\/Q m) (λ_ _ y=>y.elim) (λm _ y=>.inl (by rw[y];exact hW _ (by rw[ra.lr];omega)))
theorem IC (x:RX)(l:List fB)(w:fB):x.aO (l++[w])=(x.aO l).aG w:=by unfold RX.aO;rw[List.foldl_append];rfl
def yL (P:Program)(f:FuncId):Prop:=fI P f=true/\∀(L:Nat->Nat)(h:eZ)(r o:Nat)(x:RX)(k j:Nat)(draw:Int),gS L h r o x->x.r.aD k->k<2^28->x.aA j->j+1<2^20->x.r.aA.aB<2^40->
 fy P f [.aE [.aC r 21 0 0,.aC o 5 0 0],.aA .i64 draw] h λ_ h'=>fF wA fj L h r o (x.aW draw) h'
theorem SE {P:Program}{f f1 f2 f3 f4 f5 f6 f7 f8:FuncId}(hf:Is P f (BS f1 f2 f3 f4 f5 f6 f7 f8))(u1:tU P f1)(u2:qi P f2)(u3:oK P f3)(u4:px P f4)(u5:nQ P f5)(u6:we P f6)(u7:pZ P f7)(u8:qt P f8):yL P f:=by
 refine⟨hf.2,λL h r o x k j draw hx C hk hj am W=>fN hf ?_⟩;have ap:=hx.aB;obtain⟨R,out⟩:=x;simp only at C W;have X1:=eY.b1 (h:=h) (some (fh.aA 2 [[.aC r 21 0 0,.aC o 5 0 0]] false));have ae:=hx.up X1;have z2:∀m,h.length<=m->¬wA (L m):=λm e=>by rw[hx.ge e];exact iZ
 have B1:=gh h (some (fh.aA 2 [[.aC r 21 0 0,.aC o 5 0 0]] false));obtain⟨g,ff,rr⟩:=ae.aA;have a5:=rr;simp only[fm.aJ]at a5;have ht:=C.aJ;have ew:IntKind.i64.wrap (R.aA.aB+1)=R.aA.aB+1:=fQ (by omega);simp only[BS,go_sem,a5,B1,ew];have t1:=u1.2 L _ r o ⟨R,out⟩ (R.aA.aB+1) R.id ae (by have:=hj.2;show (out.aC.length+1)*216<=2^46;have a:out.aC.length+1<=2^21:=by {have b:out.aC.length<=j:=this;omega};exact Vr (Vx 216 a) (by decide));refine fq ⟨u1.1,t1⟩ ?_;intro _ H2 T2;have D2:=T2.aA (z2 _ (Vg _)) (λy=>y) B1;rw[gF];simp only[go_sem,D2];have t2:=fF.aC (Q':=fj) T2 (eY.aC _ _) (λ_ _ y=>y) λL1 x1=>u2.2 L1 H2 r o _ 0 x1;refine fq ⟨u2.1,t2⟩ ?_;intro _ H3 T3;have D3:=T3.aA (z2 _ (Vg _)) (λy=>y) B1;obtain⟨y,hy⟩:∃y,y=((({r:=R,o:=out}:RX).aL (R.aA.aB+1) R.id).aS 0):=⟨_,rfl⟩;have O:y.r.aD k:=by rw[hy];have:=(C.aW (t:=R.aA.aB+1) (v:=R.id) ⟨by omega,by omega⟩ ⟨by have:=C.id;omega,by have:=C.id;omega⟩).aF 0;exact this
 have a1:y.aA (j+1):=by rw[hy];have:=RX.aA.aC (x:=({r:={R with aA:={R.aA with aB:=R.aA.aB+1,aE:=R.id}},o:=out}:RX)) hj {fU.aD with aC:=1,aK:=R.aA.aB+1,aL:=R.id};exact this
 have yid:y.r.id=R.id:=by rw[hy];rfl
 have af:(({r:=R,o:=out}:RX).aW draw)=(let z:RX:={y with r:={y.r with aM:=1,aF:=0,aT:=jV draw,aG:=[y.r.id]}}
  if z.r.aE.aG z.r.aG then z.aP else z.aO (jo z.r.id z.r.aA.aD z.r.aA.aB z.r.aA.aA z.r.aE)):=by rw[hy];rfl
 rw[af];rw[<-hy]at T3;clear hy af T2 t2 t1;obtain⟨Y,yo⟩:=y;obtain⟨g3,a3,r3⟩:=T3.aD;have a8:=r3;simp only[fm.aJ]at a8;simp only at O;obtain⟨ap1,ap2,ap3⟩:=ap;have ab:=(U_.1 D3).1;have U:=(U_.1 r3).1;have ag:∀a,(H3++[a])[h.length]?=_:=λa=>(eY.b1 a).aA D3;have a7:∀a,(H3++[a])[r]?=_:=λa=>(eY.b1 a).aA a8;have NR:∀sz i o',gN H3.length 1 (.aC r sz i o')=true:=λsz i o'=>iv U;have NB:∀sz i o',gN H3.length 1 (.aC h.length sz i o')=true:=λsz i o'=>iv ab;have q0:(r=h.length)=False:=Vs (by omega);have q1:(r=H3.length)=False:=Vs (by omega);have q2:r<H3.length+1:=by omega
 have q3:(h.length=r)=False:=Vs (by omega);have q4:(h.length=H3.length)=False:=Vs (by omega);have SA:∀x v,(H3++[x]).set r v=H3.set r v++[x]:=λx v=>by rw[List.set_append_left _ _ U]
 have SB:∀v x y,(H3.set r v++[x]).set H3.length y=H3.set r v++[y]:=λv x y=>by rw[WC _ _ (by rw[Vh];exact Vg _)];simp
 have SC:∀v w x,(H3.set r v++[x]).set r w=H3.set r w++[x]:=λv w x=>by rw[List.set_append_left _ _ (by rw[Vh];exact U),V8]
 have GA:∀v x,(H3.set r v++[x])[r]?=some v:=λv x=>by rw[VK (by rw[Vh];exact U),Vd U]
 have GB:∀v x,(H3.set r v++[x])[h.length]?=some (some (fh.aA 2 [[.aC r 21 0 0,.aC o 5 0 0]] false)):=λv x=>by rw[VK (by rw[Vh];exact ab),Vb (by omega)];exact D3
 have GC:∀v x,(H3.set r v++[x])[H3.length]?=some x:=λv x=>by rw[VQ (by rw[Vh];exact Vg _),Vh];simp
 have GN:(H3++[none])[H3.length]?=some none:=by simp
 simp only[go_sem,iN,ag,a7,NR,NB];refine fR u3.1 (u3.2 _ draw) ?_;simp only[go_sem,iN,ag,a7,SA,SB,SC,GA,GB,GC,GN,Vh,Vj,W5,W9];have og:e_ (fK [Y.id]) (λm=>H3.length<=m) (H3++[some (fh.aA 1 [[.aA .i64 Y.id]] false)]) (.aF H3.length 1 0 1 (some 1)):=.inr (.inr ⟨_,0,some 1,_,_,rfl,Vg _,gh _ _,by simp,(λc hc=>by cases hc;simp),by simp[fP,fW,e_]⟩);have cg:gq (H3++[some (fh.aA 1 [[.aA .i64 Y.id]] false)]) (.aF H3.length 1 0 1 (some 1)):=⟨_,_,gh _ _,(λe=>by cases e),(λc hc=>by cases hc;simp)⟩;have T4:=fF.aR (R':={Y with aM:=1,aF:=0,aT:=jV draw,aG:=[Y.id]}) T3 (eY.b1 (some (fh.aA 1 [[.aA .i64 Y.id]] false))) r3 og cg rfl (λ_ z=>z);rw[SA]at T4;obtain⟨Z,hZ⟩:∃Z:fm,Z={Y with aM:=1,aF:=0,aT:=jV draw,aG:=[Y.id]}:=⟨_,rfl⟩;have u:Z.aD k:=by rw[hZ];obtain⟨g1,g2,g3,g4,g5,g6,g7,g8,g9,g10,au,aq,g13,ao,an⟩:=O;exact⟨g1,g2,g3,g4,g5,g6,g7,g8,g9,⟨Wm _,by show (0:Int)<=k;omega⟩,au,aq,by show [Y.id].length<=k+1;simp,ao,an⟩
 have zg:Z.aG=[Y.id]:=by rw[hZ]
 have a0:∀g f,Z.aJ g f=[.aA .i64 Y.id,.aA .i64 Y.aA.aD,.aA .i64 Y.aA.aB,.aA .i64 Y.aA.aE,.aA .i64 Y.aA.aA.aA,.aA .i64 Y.aA.aA.aB,iD Y.aA.aA.es,fA Y.aA.aC.aA,fA Y.aA.aC.aB,fA Y.aA.aC.aC,gV Y.aA.aF,
  .aA .i64 Y.aI,.aA .i64 Y.aO,.aA .i64 1,.aA .i64 Y.aW,.aA .i64 0,.aA .i64 (jV draw),g,f,.aA .i64 Y.aL,.aA .i64 Y.aN]:=λg f=>by rw[hZ];rfl
 have a6:Rd (λ_=>True) (H3.set r (some (.aA 21 [Z.aJ (.aF H3.length 1 0 1 (some 1)) a3] false))++[some (fh.aA 1 [[.aA .i64 Y.id]] false)]) (fK Z.aG) (.aF H3.length 1 0 1 (some 1)):=by rw[zg];exact⟨_,.inr (.inr ⟨_,0,1,some 1,_,_,rfl,Vp,GC _ _,by simp,(λc hc=>by cases hc;simp),rfl⟩),by simp[gC,fu,Rd]⟩
 have r4:=GA (some (.aA 21 [Z.aJ (.aF H3.length 1 0 1 (some 1)) a3] false)) (some (fh.aA 1 [[.aA .i64 Y.id]] false));rw[<-hZ]at T4;have E:=a0 (.aF H3.length 1 0 1 (some 1)) a3;rw[E]at T4 a6 r4;generalize hH4:(H3.set r _++_:eZ)=H4 at *;have C4:=T4.aA (z2 _ (Vg _)) (λy=>y) B1;have ez:Z.id=Y.id/\Z.aA=Y.aA:=by rw[hZ];exact⟨rfl,rfl⟩
 have M:(⟨Z,yo⟩:RX).aA (j+1):=a1;have a4:((let z:RX:={({r:=Y,o:=yo}:RX) with r:={Y with aM:=1,aF:=0,aT:=jV draw,aG:=[Y.id]}}
  if z.r.aE.aG z.r.aG then z.aP else z.aO (jo z.r.id z.r.aA.aD z.r.aA.aB z.r.aA.aA z.r.aE)))=if Z.aE.aG Z.aG then RX.aP ⟨Z,yo⟩ else RX.aO ⟨Z,yo⟩ (jo Z.id Z.aA.aD Z.aA.aB Z.aA.aA Z.aE):=by rw[hZ]
 rw[a4];clear a4;refine fR u4.1 (u4.2 H4 r Z T4.aD (u.aI (by omega))) ?_;rw[gF];simp only[go_sem,C4,r4,fG.aD];refine fR u5.1 (u5.2 fj (λ_=>True) H4 Z.aE Z.aG _ _ (sS Z.aE H4) a6 (u.aG (by decide)) (by rw[zg];simp)) ?_;rw[gF];simp only[go_sem,C4,r4];cases cw:Z.aE.aG Z.aG
 ·simp only[go_sem,C4,r4,VC,VO];refine fR u4.1 (u4.2 H4 r Z T4.aD (u.aI (by omega))) ?_;rw[gF];simp only[go_sem,C4,r4,fG.aD];have ak:=u7.2 fj fj H4 Z.id Z.aA.aD Z.aA.aB Z.aA.aA Z.aE _ _ (lY Z.aA.aA H4) (sS Z.aE H4) (u.aB (by omega)) (u.aG (by decide));rw[ez.1,ez.2]at ak ⊢;refine fq ⟨u7.1,ak⟩ ?_;rintro a H5 ⟨oo,X5⟩;have aj:=y0 (id:=Y.id) (group:=Y.aA.aD) (term:=Y.aA.aB) (l:=Y.aA.aA) (c:=Z.aE);have hal:(jo Y.id Y.aA.aD Y.aA.aB Y.aA.aA Z.aE).length<=14:=Vr (yZ _ _ _ _ _) (uW u.aM);generalize jo Y.id Y.aA.aD Y.aA.aB Y.aA.aA Z.aE=ms at *;obtain⟨a9,sa⟩:=oo.aC;have C5:=X5.aA C4;have r5:=X5.aA r4;simp only[Vo]at a9;rw[gF];simp only[go_sem,C5,r5,a9];obtain⟨L5,x4,l5,e4⟩:=T4;have x5:=x4.up X5;have e5:eY (λm=>wA (L m)\/fj m) (h++[some (fh.aA 2 [[.aC r 21 0 0,.aC o 5 0 0]] false)]) H5:=e4.aB X5 (λ_ _ z=>z) (λ_ _ z=>z.elim);have lh4:=(U_.1 C4).1;have z5:∀m,H4.length<=m->¬wO (L5 m):=λm hm=>by rw[x4.ge hm];unfold wO;omega
  have zb:¬wO (L5 h.length):=by rw[l5 h.length (by simp) (.inr (λz=>z)),hx.ge (Vg _)];unfold wO;omega
  obtain⟨I,hI⟩:∃I:Nat->fY->eZ->Prop,∀m Le h',I m Le h'↔∃i:Nat,lk 2 Le=.aC h.length 2 0 0/\lk 84 Le=a/\lk 85 Le=.aA .i64 ms.length/\lk 86 Le=.aA .i64 i/\fF wO fj L5 H5 r o (RX.aO ⟨Z,yo⟩ (ms.take i)) h'/\i<=ms.length/\m=ms.length-i:=⟨_,λ_ _ _=>Wu⟩;refine gJ I ms.length ((hI _ _ _).2 ⟨0,by simp[fi],by simp[fi],by simp[fi],by simp[fi],x5.to,by omega,by omega⟩) ?_;intro m Le h' hh;obtain⟨i,k2,ad,ac,a2,T,hi,rfl⟩:=(hI _ _ _).1 hh;simp only[Gn,go_sem,ac,a2];refine gx (λci=>?_) (λci=>?_)
  ·simp at ci;have ci:i<ms.length:=by omega
   have ew:IntKind.i64.wrap ((i:Int)+1)=((i+1:Nat):Int):=by rw[fQ (by omega)];omega
   obtain⟨n,q,row,gr,i1,i2,i3,i4⟩:=oo.aA (i:=i) (e:=jY ms[i]) (by rw[VE,Vi ci];rfl);have tk:ms.take (i+1)=ms.take i++[ms[i]]:=Vv ci;obtain⟨ai,ah⟩:=aj _ (VU ci);have sr:=xI (ms.take i) ⟨Z,yo⟩;have tl:=Wn i ms;have sn:=IC ⟨Z,yo⟩ (ms.take i) ms[i];generalize ms[i]=m at *;have i5:=T.aA (z5 n i2) (λz=>z) i3;have C6:=T.aA zb (λz=>z) C5;have ld:gX h' true 17 (.aC n 17 q 0)=some (.aE (jY m)):=by rw[hP (cs:=jY m) (by simp[im,i5,i4])];rfl
   have aw:∀b,(h'++[b])[h.length]?=_:=λb=>(eY.b1 b).aA C6;simp only[jY,fB.aB]at ld;simp only[go_sem,k2,ad,a2,i1,ld,aw];have sd:=fF.aC (Q':=fj) (h3:=h'++[some (fh.aA 17 [jY m] false)]) T (eY.b1 _) (λ_ _ y=>y) λL1 x1=>u8.2 fj L1 (h'++[some (fh.aA 17 [jY m] false)]) r o _ m .aB .aB (x1.up (eY.b1 _)) (by rw[ai];exact e_.aC 3) (by rw[ah];exact e_.aC 1) (λ_ z=>z.elim) (by
    have h1:=sr.2.2;have h2:=M.1;have a:(RX.aO ⟨Z,yo⟩ (ms.take i)).o.aD.length+1<=2^21:=by have h3:yo.aD.length<=j+1:=h2;have h4:(RX.aO ⟨Z,yo⟩ (ms.take i)).o.aD.length=yo.aD.length+(ms.take i).length:=h1;omega
    exact Vr (Vx 168 a) (by decide))
   simp only[jY,fB.aB]at sd;refine fq ⟨u8.1,sd⟩ ?_;intro _ h2 T2;simp only[go_sem,a2,ew];exact⟨_,by omega,(hI _ _ _).2 ⟨i+1,by simp[fi,k2],by simp[fi,ad],by simp[fi,ac],by simp[fi],by rw[tk,sn];exact T2,by omega,rfl⟩⟩
  ·simp at ci;obtain rfl:i=ms.length:=by omega
   rw[VH]at T;simp only[go_sem];exact fF.aB X1 (fF.aE l5 e5 (λ_ _ y=>y) (T.aF me))
 ·simp only[go_sem,C4,V3];have t6:=fF.aC (Q':=fj) T4 (eY.aC _ _) (λ_ _ y=>y) λL1 x1=>u6.2 L1 H4 r o ⟨Z,yo⟩ k (j+1) x1 u hk M am;refine fq ⟨u6.1,t6⟩ ?_;intro _ H5 T5;simp only[go_sem];exact fF.aB X1 T5
def kH (L:Nat->Nat)(h:eZ)(m:fB)(a:List AV):Prop:=∃G:Nat->Prop,fu G h m.c a/\∀n,G n->L n=0
theorem kH.to {W:Nat->Prop}{L h r o x h' m a}(hm:kH L h m a){L1}(x1:gS L1 h' r o x)(l1:∀m,m<h.length->L m≠0\/¬fj m->L1 m=L m) (e1:eY (λm=>W (L m)\/fj m) h h') (hW:¬W 0):kH L1 h' m a:=by obtain⟨G,hr,h0⟩:=hm;exact⟨λn=>G n/\n<h.length,fu.aA (λ_ y=>y) (λn hn y hy=>(e1.2 n hn.2 (λz=>by rcases z with z | z;rw[h0 n hn.1]at z;exact hW z;exact z)).trans hy) _ _ (fu.lt _ _ hr),λn hn=>(l1 n hn.2 (.inr (λz=>z))).trans (h0 n hn.1)⟩
theorem fF.aJ {P:Program}{f:FuncId}{t:List AV}{W L h r o x h' x' m a}(T:fF W fj L h r o x h')(hm:kH L h m a)(hW:¬W 0)
  (hc:∀L1,gS L1 h' r o x->kH L1 h' m a->fy P f t h' λ_ h''=>fF W fj L1 h' r o x' h''):fy P f t h' λ_ h''=>fF W fj L h r o x' h'':=by
 obtain⟨L1,x1,l1,e1⟩:=T;exact (hc L1 x1 (hm.to x1 l1 e1 hW)).aA λ_ _ b=>fF.aE l1 e1 (λ_ _ y=>y) b
def yE (P:Program)(f:FuncId):Prop:=fI P f=true/\∀(L:Nat->Nat)(h:eZ)(r o:Nat)(x:RX)(k j:Nat)(m:fB)(a:List AV),gS L h r o x->x.r.aD k->k<=2^28->x.aA j->j+1<2^20->kH L h m a->
 fy P f [.aE [.aC r 21 0 0,.aC o 5 0 0],.aE a] h λ_ h'=>fF wA fj L h r o (x.aR m) h'
theorem qL {n j:Nat}(h:n<=j)(hj:j<2^20)(b:Nat)(hb:b<=216):(n+1)*b<=2^46:=Vr (Nat.mul_le_mul (show n+1<=2^20 by omega) hb) (by decide)
theorem Rg {P:Program}{f f1 f2 f3:FuncId}(hf:Is P f (mo f1 f2 f3))(u1:rG P f1)(u2:tU P f2)(u3:qt P f3):yE P f:=by
 refine⟨hf.2,λL h r o x k j m a hx C hk hj U hm=>fN hf ?_⟩;obtain⟨G,hr,h0⟩:=id hm;obtain⟨e,d,rfl,he,hd⟩:=jS hr;have ap:=hx.aB;obtain⟨R,out⟩:=x;simp only at C;obtain⟨H,hH⟩:∃H,H=h++[some (fh.aA 2 [[.aC r 21 0 0,.aC o 5 0 0]] false)]++[some (fh.aA 17 [m.aB e d] false)]:=⟨_,rfl⟩;have X1:eY fj h H:=by rw[hH];exact eY.b2 _ _
 have C0:H[h.length]?=some (some (fh.aA 2 [[.aC r 21 0 0,.aC o 5 0 0]] false)):=by rw[hH];exact iE _ _ _
 have C1:H[h.length+1]?=some (some (fh.aA 17 [m.aB e d] false)):=by rw[hH];exact iq _ _ _
 have O:=hx.up X1;have z2:∀m,h.length<=m->¬wA (L m):=λm e=>by rw[hx.ge e];exact iZ
 have u:∀(Le:fY)(H':eZ)(y:RX)(ok:Bool),(RX.aR ⟨R,out⟩ m)=y.aG {fB.aG with aD:=2,to:=m.aC,ok:=ok}->y.aA (j+1)->lk 2 Le=.aC h.length 2 0 0->lk 3 Le=.aC (h.length+1) 17 0 0->lk 4 Le=.aD ok->fF wA fj L H r o y H'->
   vc P (mo f1 f2 f3).aA.tl.tl.tl ⟨Le,[],H'⟩ (ia (mo f1 f2 f3).aB λ_ h'=>fF wA fj L h r o (RX.aR ⟨R,out⟩ m) h'):=by
  intro Le H' y ok ey yf k2 k3 k4 T;have D0:=T.aA (z2 _ (Vg _)) (λy=>y) C0;have D1:=T.aA (z2 _ (by omega)) (λy=>y) C1;simp only[fB.aB]at D1;rw[ey];simp only[mo,AC.aA,go_sem,k2,k3,k4,D0,D1];have sd:=fF.aC (Q':=fj) T (eY.aC _ _) (λ_ _ y=>y) λL1 x1=>(u3.2 fj L1 H' r o y {fB.aG with aD:=2,to:=m.aC,ok:=ok} .aB .aB x1 (e_.aC 3) (e_.aC 1) (λ_ z=>z.elim) (qL yf.1 U 168 (by omega))).aA λ_ _ b=>b.aF me;refine fq ⟨u3.1,sd⟩ ?_;intro _ H2 T2;simp only[go_sem];exact fF.aB X1 T2
 have e0:(mo f1 f2 f3).aA=.aB (mo f1 f2 f3).aA.hd (.aB (mo f1 f2 f3).aA.tl.hd (.aB (mo f1 f2 f3).aA.tl.tl.hd (mo f1 f2 f3).aA.tl.tl.tl)):=rfl;rw[e0];generalize (mo f1 f2 f3).aA.tl.tl.tl=D at u ⊢;obtain⟨g,ff,rr⟩:=O.aA;have M:=rr;have E:=C1;simp only[fm.aJ]at M;simp only[fB.aB]at E hH;simp only[mo,AC.aG,AC.aA,go_sem,fB.aB,he.aA,hd.aA];rw[<-hH];clear hH;simp only[go_sem,M,C0,E];have gr:=u1.2 fj G H R.aA.aB R.aA.aE R.aA.aA m _ _ (lY R.aA.aA H) (fu.aA (λ_ y=>y) (X1.aF _) _ _ hr) (C.aB hk);simp only[fB.aB]at gr;refine fR u1.1 gr ?_;rw[gF];have I:=u;simp only[mo,fC]at I;have lr:=(U_.1 rr).1;have q0:(h.length=r)=False:=Vs (by omega);have q1:(h.length+1=r)=False:=Vs (by omega);have q2:(r=h.length)=False:=Vs (by omega);have q3:(r=h.length+1)=False:=Vs (by omega);simp only[go_sem,M,C0,E];have t:(RX.aR ⟨R,out⟩ m)=(if mq R.aA.aB R.aA.aE R.aA.aA m then (let z:RX:=⟨{R with aF:=0},out⟩;if z.r.aA.aE=m.aC then z else z.aL z.r.aA.aB m.aC) else ⟨R,out⟩).aG {fB.aG with aD:=2,to:=m.aC,ok:=mq R.aA.aB R.aA.aE R.aA.aA m}:=rfl;cases cg:mq R.aA.aB R.aA.aE R.aA.aA m;·rw[cg]at t;simp only[go_sem];refine I _ H ⟨R,out⟩ false t (hj.aA (by omega)) ?_ ?_ ?_ O.to<;>simp[fi]
 ·rw[cg]at t;have T0:=fF.aG (R':={R with aF:=0}) (O.to (W:=wA) (Q:=fj)) rr rfl rfl (λ_ z=>z);simp only[fm.aJ]at T0;simp only[go_sem,M,C0,E,q2,q3,lr];generalize a0:H.set r _=H2 at *;have D0:=T0.aA (z2 _ (Vg _)) (λy=>y) C0;have D1:=T0.aA (z2 _ (by omega)) (λy=>y) E;have rE:H2[r]?=some (some (.aA 21 [({R with aF:=0}:fm).aJ g ff] false)):=by rw[<-a0];exact Vd lr
  simp only[fm.aJ]at rE;simp only[V3]at t;by_cases cv:R.aA.aE=m.aC;·simp only[Vf cv]at t;simp only[go_sem,Vc cv,Vq];refine I _ H2 ⟨{R with aF:=0},out⟩ true t (RX.aA.aA (x:=⟨{R with aF:=0},out⟩) hj (by omega)) ?_ ?_ ?_ T0<;>simp[fi]
  ·simp only[Ve cv]at t;simp only[go_sem,rE,D0,D1,Va cv,Vt];have tm:=fF.aC (Q':=fj) T0 (eY.aC _ _) (λ_ _ y=>y) λL1 x1=>u2.2 L1 H2 r o _ R.aA.aB m.aC x1 (qL (show out.aC.length<=j from hj.2) (by omega) 216 (by omega));refine fq ⟨u2.1,tm⟩ ?_;intro _ H3 T3;rw[gF];simp only[go_sem];refine I _ H3 _ true t (RX.aA.aC (x:=({r:={R with aF:=0,aA:={R.aA with aE:=m.aC}},o:=out}:RX)) hj {fU.aD with aC:=1,aK:=R.aA.aB,aL:=m.aC}) ?_ ?_ ?_ T3<;>simp[fi]
theorem fF.aP {W:Nat->Prop}{L h r o R out H g f n}{Hb:eZ}(T:fF W fj L h r o ⟨R,out⟩ H) (row:H[r]?=some (some (.aA 21 [R.aJ g f] false))) (X:eY fj H Hb) (hW:∀k,k≠0->W k) (hb:R.aG.length<=2^30):
  ∃g' H',iL Hb 1 8 g [[.aA .i64 n]]=some (g',H')/\g'.aG=true/\Hb.length<=H'.length/\(∀m,L m=0->m<h.length\/H.length<=m->m<Hb.length->H'[m]?=Hb[m]?)/\H'[r]?=some (some (.aA 21 [R.aJ g f] false)) /\
   gq H' g'/\Rd (λ_=>True) H' (fK (R.aG++[n])) g' /\
   fF W fj L h r o ⟨{R with aG:=R.aG++[n]},out⟩ (H'.set r (some (.aA 21 [({R with aG:=R.aG++[n]}:fm).aJ g' f] false))):=by
 obtain⟨L1,x1,l1,u⟩:=T;obtain⟨g1,f1,ra⟩:=x1.r;obtain⟨ma,ca,aa,oa⟩:=x1.o;have:=ra.aA.symm.trans row;simp only[Vk,fh.aA.injEq,Wr,fm.aJ]at this;obtain⟨-,⟨⟨-,-,-,-,-,-,-,-,-,-,-,-,-,-,-,-,-,rfl,rfl,-⟩,-⟩,-⟩:=this;have lr:=(U_.1 ra.aA).1;have hl:=X.1;have kg:gz (λm=>L1 m=1/\m<H.length) H Hb:=λm hm y hy=>X.aA hy;have og:e_ (fK R.aG) (λm=>(L1 m=1/\m<H.length)\/Hb.length<=m) Hb g1:=e_.aB _ (λm hm=>.inl hm) kg _ (e_.lt _ _ ra.go);have cg:gq Hb g1:=ra.gc.aA (e_.lt _ _ ra.go) kg;obtain⟨g',H',s1,s2,s3,s4⟩:=sP (bytes:=8) (es:=[[.aA .i64 n]]) (ys:=[[.aA .i64 n]]) og cg (eY.aC _ _) (by simp[fP,fW,e_]) (λm hm=>.inr hm) (by simp;omega);have kk:∀m,m<Hb.length->L1 m≠1->H'[m]?=Hb[m]?:=λm hm hn=>s4.2 m hm (λz=>by rcases z with z | z;exact hn z.1;omega);have t:=s4.1;have e4:fK (R.aG++[n])=.sl 1 (R.aG.map (λn=>[D.aA .i64 n])++[[.aA .i64 n]]):=by simp[fK]
 have rr:H'[r]?=some (some (.aA 21 [R.aJ g1 f1] false)):=(kk r (by omega) (by rw[ra.lr];omega)).trans (X.aA ra.aA);have ne:∀m,m≠r->(H'.set r (some (.aA 21 [({R with aG:=R.aG++[n]}:fm).aJ g' f1] false)))[m]?=H'[m]?:=λm hm=>Vb (λe=>hm e.symm);have st:∀m,m<H.length->L1 m≠1->m≠r->(H'.set r (some (.aA 21 [({R with aG:=R.aG++[n]}:fm).aJ g' f1] false)))[m]?=H[m]?:=λm hm h1 hr=>(ne m hr).trans ((kk m (by omega) h1).trans (X.2 m hm (λy=>y)));have nr:∀m,L1 m≠6->m≠r:=λm hm e=>hm (e▸ra.lr);have old:∀{m},m<H.length->ky L1 fj Hb.length H'.length 1 m=L1 m:=fun {m} hm=>kX (.inr ⟨λy=>y,by omega⟩);have b:=e_.lt _ _ s2;have kf:gz (λm=>L1 m=2/\m<H.length) H (H'.set r (some (.aA 21 [({R with aG:=R.aG++[n]}:fm).aJ g' f1] false))):=λm hm y hy=>(st m hm.2 (by omega) (nr m (by omega))).trans hy;have kn:gz (λm=>((L1 m=1/\m<H.length)\/Hb.length<=m)/\m<H'.length) H' (H'.set r (some (.aA 21 [({R with aG:=R.aG++[n]}:fm).aJ g' f1] false))):=λm hm y hy=>(ne m (by rcases hm.1 with z | z;exact nr m (by omega);omega)).trans hy;refine⟨g',H',s1,s2.aA,t,λm h0 hlt hm=>kk m hm ?_,rr,s3,?_,fF.aE l1 u (λ_ _ y=>y) ⟨ky L1 fj Hb.length H'.length 1,⟨⟨g',f1,Vd (by omega),?_,?_,?_,?_,(old lr).trans ra.lr⟩,⟨ma,ca,aa,oa.aB (λm hm _=>old hm) λm hm c=>st m hm (by omega) (nr m (by omega))⟩,λm hm=>by rw[Vh];exact sX (λz=>by have:=x1.lt m z;omega) hm⟩,λm hm _=>old hm,?_⟩⟩
 ·rcases hlt with hlt | hlt;·rw[l1 m hlt (.inr (λz=>z)),h0];omega
  ·rw[x1.ge hlt];omega
 ·rw[e4];exact e_.rd _ (λ_ _=>Vp) _ s2
 ·show e_ (fK (R.aG++[n])) _ _ _;rw[e4];refine e_.aB _ (λm hm=>?_) kn _ b;rcases hm.1 with z | z;·exact (old z.2).trans z.1
  ·exact sY (x1.ge (by omega)) hm.2 (.inr z)
 ·exact s3.aA b kn
 ·exact e_.aB _ (λm hm=>(old hm.2).trans hm.1) kf _ (e_.lt _ _ ra.fo)
 ·exact ra.fc.aA (e_.lt _ _ ra.fo) kf
 ·refine (X.aB s4 (F'':=λm=>W (L1 m)\/fj m) (λ_ _ y=>y.elim) (λm hm y=>.inl (by rcases y with y | y;exact hW _ (by rw[y.1];omega);omega))).aB (eY.aG (F:=λm=>m=r) _ (λ_=>rfl)) (λ_ _ y=>y) (λm _ y=>.inl (by rw[y];exact hW _ (by rw[ra.lr];omega)))
def yM (P:Program)(f:FuncId):Prop:=fI P f=true/\∀(L:Nat->Nat)(h:eZ)(r o:Nat)(x:RX)(k j:Nat)(m:fB)(a:List AV),gS L h r o x->x.r.aD k->k+1<2^28->x.aA j->j<2^20->kH L h m a->
 fy P f [.aE [.aC r 21 0 0,.aC o 5 0 0],.aE a] h λ_ h'=>fF wA fj L h r o (x.aQ m) h'
theorem S6 {P:Program}{f f1 f2 f3 f4 f5:FuncId}(hf:Is P f (BW f1 f2 f3 f4 f5))(u1:j_ P f1)(u2:tV P f2)(u3:px P f3)(u4:nQ P f4)(u5:we P f5):yM P f:=by
 refine⟨hf.2,λL h r o x k j m a hx hfit hk hj hj2 hm=>fN hf ?_⟩;obtain⟨G,hr,h0⟩:=id hm;obtain⟨e,d,rfl,he,hd⟩:=jS hr;have ap:=hx.aB;obtain⟨R,out⟩:=x;simp only at hfit;obtain⟨H,hH⟩:∃H,H=h++[some (fh.aA 2 [[.aC r 21 0 0,.aC o 5 0 0]] false)]++[some (fh.aA 17 [m.aB e d] false)]:=⟨_,rfl⟩;have X1:eY fj h H:=by rw[hH];exact eY.b2 _ _
 have lH:H.length=h.length+2:=by rw[hH];simp
 have C0:H[h.length]?=some (some (fh.aA 2 [[.aC r 21 0 0,.aC o 5 0 0]] false)):=by rw[hH];exact iE _ _ _
 have C1:H[h.length+1]?=some (some (fh.aA 17 [m.aB e d] false)):=by rw[hH];exact iq _ _ _
 have hx1:=hx.up X1;have z2:∀m,h.length<=m->¬wA (L m):=λm e=>by rw[hx.ge e];exact iZ
 obtain⟨g,ff,ra⟩:=hx1.r;have rr:=ra.aA;have rr':=rr;have C1':=C1;have rg:=e_.rd _ (F':=λ_=>True) (λ_ _=>Vp) _ ra.go;have sg:=ra.go.aA;simp only[fm.aJ]at rr';simp only[fB.aB]at C1' hH;have gl:=hfit.aT;simp only[BW,go_sem,fB.aB,he.aA,hd.aA];rw[<-hH];clear hH;have ex:∀(c:¬R.aM=1\/m.ok=false\/m.aC∈R.aG\/R.aV m.aC=false),(RX.aQ ⟨R,out⟩ m)=⟨R,out⟩:=λc=>Vf c;by_cases c1:R.aM=1
 ·simp only[go_sem,rr',C1',Vc c1,Vq];cases c2:m.ok;·simp only[go_sem,Vt];rw[ex (.inr (.inl c2))];exact fF.aB X1 hx1.to
  ·simp only[go_sem,rr',C0,C1',c2,Vq];refine fR u1.1 (u1.2 (λ_=>True) H R.aG g m.aC rg (by omega)) ?_;rw[gF];cases c3:decide (m.aC∈R.aG)
   ·simp only[go_sem,rr',C0,C1'];refine fR u2.1 (u2.2 H r R m.aC ⟨g,ff,rr⟩ (hfit.aI (by omega)) (hfit.aG (by decide))) ?_;rw[gF];cases c4:R.aV m.aC;·simp only[go_sem,rr',C0,C1',Vt,c2];rw[ex (.inr (.inr (.inr c4)))];exact fF.aB X1 hx1.to
    ·have n4:¬(¬R.aM=1\/m.ok=false\/m.aC∈R.aG\/R.aV m.aC=false):=by
      rintro (z | z | z | z);·exact z c1
      ·rw[c2]at z;cases z
      ·simp at c3;exact c3 z
      ·rw[c4]at z;cases z
     have ev:(RX.aQ ⟨R,out⟩ m)=(let y:RX:=⟨{R with aG:=R.aG++[m.aC]},out⟩;if y.r.aE.aG y.r.aG then y.aP else y):=Ve n4;rw[ev];clear ex ev;have R3:∀b,(H++[b])[r]?=_:=λb=>(eY.b1 b).aA rr';have D0:∀b,(H++[b])[h.length]?=_:=λb=>(eY.b1 b).aA C0;have D1:∀b,(H++[b])[h.length+1]?=_:=λb=>(eY.b1 b).aA C1';have NR:∀s sz i o' n,s<H.length->gN H.length n (.aC s sz i o')=true:=λs sz i o' n hs=>iv hs;have N1:∀sz i o',gN (h.length+1+1) 1 (.aC r sz i o')=true:=λsz i o'=>iv (by omega);have N2:∀sz i o',gN (h.length+1+1) 1 (.aC h.length sz i o')=true:=λsz i o'=>iv (by omega);have N3:∀sz i o',gN (h.length+1+1) 1 (.aC (h.length+1) sz i o')=true:=λsz i o'=>iv (by omega);simp only[go_sem,iN,rr',C0,C1',Vq,c2,R3,D0,D1,lH,N1,N2,N3];obtain⟨g',H',s1,s2,s3,s4,s5,s6,s7,s8⟩:=fF.aP (n:=m.aC) (hx1.to (W:=wA)) rr (eY.b1 (some (fh.aA 1 [[.aA .i64 m.aC]] false))) (λ_ z=>z) (by omega);rw[<-ic (jn H 1 [_] false (some 1) (len:=1) rfl),lH]at s1;rw[s1];obtain⟨R',hR'⟩:∃R':fm,R'={R with aG:=R.aG++[m.aC]}:=⟨_,rfl⟩;have fit':R'.aD (k+1):=by rw[hR'];obtain⟨g1,g2,g3,g4,g5,g6,g7,g8,g9,g10,g11,g12,g13,g14,g15⟩:=hfit.aA (WB k);exact⟨g1,g2,g3,g4,g5,g6,g7,g8,g9,g10,g11,g12,by show (R.aG++[m.aC]).length<=k+1+1;simp;omega,g14,g15⟩
     have eg':R'.aG=R.aG++[m.aC]:=by rw[hR']
     have zrow:∀g f,R'.aJ g f=R.aJ g f:=λg f=>by rw[hR'];rfl
     have K0:=(s4 h.length (hx.ge (Vg _)) (.inl (by omega)) (by simp;omega)).trans (D0 _);have K1:=(s4 (h.length+1) (hx.ge (by omega)) (.inl (by omega)) (by simp;omega)).trans (D1 _);have b2:=gh H (some (fh.aA 1 [[.aA .i64 m.aC]] false));rw[lH]at b2;have K2:=(s4 (h.length+2) (hx.ge (by omega)) (.inr (by omega)) (by simp[lH])).trans b2;have lr5:=(U_.1 s5).1;have s5':=s5;simp only[fm.aJ]at s5';have w1:(h.length=r)=False:=Vs (by omega);have w2:(r=h.length)=False:=Vs (by omega);have w3:(h.length+2=r)=False:=Vs (by omega);have w4:(r=h.length+2)=False:=Vs (by omega);have w5:(r=h.length+1)=False:=Vs (by omega);have w6:(h.length+1=r)=False:=Vs (by omega);rw[<-hR']at s8;have l8:r<H'.length:=lr5;have r8:(H'.set r (some (.aA 21 [R'.aJ g' ff] false)))[r]?=some (some (.aA 21 [R'.aJ g' ff] false)):=Vd l8;have g8:Rd (λm=>m≠r) (H'.set r (some (.aA 21 [R'.aJ g' ff] false))) (fK R'.aG) g':=by rw[eg'];obtain⟨L8,x8,-⟩:=s8;obtain⟨g9,f9,ra9⟩:=x8.r;have:=ra9.aA.symm.trans r8;simp only[Vk,fh.aA.injEq,Wr,fm.aJ]at this;obtain⟨-,⟨⟨-,-,-,-,-,-,-,-,-,-,-,-,-,-,-,-,-,rfl,-⟩,-⟩,-⟩:=this;rw[<-eg'];exact e_.rd _ (λm hm=>by rintro rfl;rw[ra9.lr]at hm;omega) _ ra9.go
     have E0:=s8.aA (z2 _ (Vg _)) (λz=>z) C0;have E1:=s8.aA (z2 _ (by omega)) (λz=>z) C1';rw[zrow]at s8 r8 g8 E0 E1;have r8':=r8;simp only[fm.aJ]at s8 r8' g8 E0 E1;have ez:(let y:RX:=⟨{R with aG:=R.aG++[m.aC]},out⟩;if y.r.aE.aG y.r.aG then y.aP else y)=if R'.aE.aG R'.aG then RX.aP ⟨R',out⟩ else ⟨R',out⟩:=by rw[hR']
     rw[ez];simp only[go_sem,iN,K0,K1,K2,s5',s2,gH s2,w2,w4,w5,lr5,W9,Vh];generalize H'.set r _=H2 at *;refine fR u3.1 (u3.2 H2 r R' s8.aD (fit'.aI (by omega))) ?_;rw[gF];simp only[go_sem,E0,r8',fG.aD];refine fR u4.1 (u4.2 fj _ H2 R'.aE R'.aG _ _ (sS R'.aE H2) g8 (fit'.aG (by decide)) (by rw[eg'];simp;omega)) ?_;rw[gF];cases cw:R'.aE.aG R'.aG;·simp only[go_sem,E0,r8',VC,VO];exact fF.aB X1 s8
     ·simp only[go_sem,E0,r8',V3];have ld:=fF.aC (Q':=fj) s8 (eY.aC _ _) (λ_ _ y=>y) λL1 x1=>u5.2 L1 H2 r o _ (k+1) j x1 fit' hk (RX.aA.aA (x:=⟨R',out⟩) hj (Vg _)) hj2;refine fq ⟨u5.1,ld⟩ ?_;intro _ H3 T3;simp only[go_sem];exact fF.aB X1 T3
   ·simp only[go_sem,rr',C0,C1',c2];rw[ex (.inr (.inr (.inl (by simpa using c3))))];exact fF.aB X1 hx1.to
 ·simp only[go_sem,rr',Va c1,Vt];rw[ex (.inl c1)];exact fF.aB X1 hx1.to
def vY (P:Program)(f:FuncId):Prop:=fI P f=true/\∀(L:Nat->Nat)(h:eZ)(r o:Nat)(x:RX)(j:Nat)(m:fB)(a:List AV)(G:Nat->Prop)(ok:Bool)(index:Int),gS L h r o x->x.aA j->j<2^20->fu G h m.c a->
 fy P f [.aE [.aC r 21 0 0,.aC o 5 0 0],.aE a,.aD ok,.aA .i64 index] h λ_ h'=>fF wO fj L h r o (x.aM m ok index) h'
theorem Re {P:Program}{f f1:FuncId}(hf:Is P f (BJ f1))(u1:qt P f1):vY P f:=by
 refine⟨hf.2,λL h r o x j m a G ok index hx hj b hr=>fN hf ?_⟩;obtain⟨e,d,rfl,he,hd⟩:=jS hr;simp only[BJ,go_sem,fB.aB,he.aA,hd.aA];obtain⟨H,hH⟩:∃H,H=h++[some (fh.aA 2 [[.aC r 21 0 0,.aC o 5 0 0]] false)]++[some (fh.aA 17 [m.aB e d] false)]:=⟨_,rfl⟩;have X1:eY fj h H:=by rw[hH];exact eY.b2 _ _
 simp only[fB.aB]at hH;rw[<-hH];have sd:=u1.2 fj L H r o x {fB.aG with aD:=4,to:=m.aC,ok:=ok,aA:=index,aM:=m.aM} .aB .aB (hx.up X1) (e_.aC 3) (e_.aC 1) (λ_ z=>z.elim) (qL hj.1 b 168 (by omega));refine fq ⟨u1.1,sd⟩ ?_;intro _ H2 T2;simp only[go_sem];exact fF.aB X1 T2
theorem fF.aS {W:Nat->Prop}{L h r o R out H g f}(T:fF W fj L h r o ⟨R,out⟩ H) (row:H[r]?=some (some (.aA 21 [R.aJ g f] false))) (hW:∀k,k≠0->W k) {i:Nat} (hi:i<R.aB.length):
  ∃n j rw gr,iH 4 f (.aA .i64 i)=some (.aC n 4 j 0)/\H[n]?=some (some (.aA 4 rw gr))/\rw[j]?=some (R.aB[i]).aA/\n≠r/\n<H.length/\(∀m,L m=0->m<h.length\/H.length<=m->m≠n) /\
   ∀w:fO,fF W fj L h r o ⟨{R with aB:=R.aB.set i w},out⟩ (H.set n (some (.aA 4 (rw.set j w.aA) gr))):=by
 obtain⟨L1,x1,l1,I⟩:=T;obtain⟨g1,f1,ra⟩:=x1.r;obtain⟨ma,ca,aa,oa⟩:=x1.o;have:=ra.aA.symm.trans row;simp only[Vk,fh.aA.injEq,Wr,fm.aJ]at this;obtain⟨-,⟨⟨-,-,-,-,-,-,-,-,-,-,-,-,-,-,-,-,-,rfl,rfl,-⟩,-⟩,-⟩:=this;obtain⟨n,off,rw,gr,cs,len,cap,e1,hn,ix,b,C,hd,wr⟩:=Qx (j:=i) (d0:=(R.aB[i]).c) ra.fo (by rw[VE,Vi hi];rfl);have E:cs=(R.aB[i]).aA:=mP (fW.rd _ (F':=λ_=>True) (λ_ _=>Vp) _ hd);subst E;have hlt:=(U_.1 b).1;have ne:∀m,L1 m≠2->m≠n:=λm hm e=>hm (e▸hn);refine⟨n,off+i,rw,gr,ix,b,C,λe=>by rw[e,ra.lr]at hn;omega,hlt,λm h0 hm=>?_,λw=>?_⟩
 ·rcases hm with hm | hm;·exact ne m (by rw[l1 m hm (.inr (λz=>z)),h0];omega)
  ·omega
 ·have st:∀m,L1 m≠2->(H.set n (some (.aA 4 (rw.set (off+i) w.aA) gr)))[m]?=H[m]?:=λm hm=>Vb (λe=>ne m hm e.symm);have u:=wr (λm=>L1 m=2) H w.c w.aA (λ_ z=>z) (λ_ _ _ y=>y) rfl (by simp only[fO.c,fO.aA,fW,e_];exact⟨_,_,rfl,rfl,_,_,rfl,rfl,_,_,rfl,rfl,_,_,rfl,rfl,rfl⟩);refine fF.aE l1 I (λ_ _ y=>y) ⟨L1,⟨⟨g1,f1,(st r (by rw[ra.lr];omega)).trans ra.aA,?_,?_,?_,?_,ra.lr⟩,⟨ma,ca,aa,oa.aB (λ_ _ _=>rfl) λm hm c=>st m (by omega)⟩,λm hm=>by rw[Vh];exact x1.lt m hm⟩,λ_ _ _=>rfl,eY.aG _ λ_=>.inl (hW _ (by rw[hn];omega))⟩;·exact e_.aB _ (λ_ y=>y) (λm hm y hy=>(st m (by omega)).trans hy) _ ra.go
  ·exact ra.gc.aA ra.go (λm hm y hy=>(st m (by omega)).trans hy)
  ·show e_ (.sl 4 ((R.aB.set i w).map fO.c)) _ _ _;rw[List.map_set];exact u
  ·have hc:=ra.fc;subst e1;obtain⟨row',g',t,h1,h2⟩:=hc;rw[b]at t;simp only[Vk,fh.aA.injEq,true_and]at t;obtain⟨rfl,rfl⟩:=t;exact⟨_,_,Vd hlt,h1,λc hc=>by rw[Vh];exact h2 c hc⟩
theorem OC {P:Program}{f:FuncId}(hf:Is P f wX){h:eZ}{n:Nat}{m:fB}{e d:AV} (hq:h[n]?=some (some (.aA 17 [m.aB e d] false))) (w:fO):
  fy P f [.aE w.aA,.aC n 17 0 0] h λr h'=>r=.aD (decide (w.aB=m.aC))/\h'=h:=by
 refine iF (kD _ _) (fN hf ?_);have t:∀b,(h++[b])[n]?=_:=λb=>(eY.b1 b).aA hq;simp only[fB.aB]at t;simp only[wX,fO.aA,go_sem,t];exact eY.b1 _
theorem fO.aI.aB {w:fO}(h:w.aI)(m:fB)(hi:0<=m.aA/\m.aA<=2^40):(w.aE m).aI:=by
 obtain⟨h1,⟨h2,h3⟩,h4,h5⟩:=h;unfold fO.aE;split
 ·split;·exact⟨h1,⟨by show 0<=max w.aD (max w.aC m.aA+1);omega,by show max w.aD (max w.aC m.aA+1)<=_;omega⟩,by show 0<=max w.aC m.aA;omega,by show max w.aC m.aA<=_;omega⟩
  ·exact⟨h1,⟨by show 0<=max (w.aC+1) (min (w.aD-1) (m.aA+1));omega,by show max (w.aC+1) (min (w.aD-1) (m.aA+1))<=_;omega⟩,h4,h5⟩
 ·exact⟨h1,⟨h2,h3⟩,h4,h5⟩
theorem fm.aD.bC {k:Nat}{x:fm}(h:x.aD k)(i:Nat){w:fO}(hw:w.aI):({x with aB:=x.aB.set i w}:fm).aD k:=by
 obtain⟨g1,g2,g3,g4,g5,g6,g7,g8,g9,I,E,C,u,b,t⟩:=h;refine⟨g1,g2,g3,g4,g5,g6,g7,g8,g9,I,E,C,u,⟨by show (x.aB.set i w).length<=21;rw[Vh];exact b.1,λy hy=>?_⟩,t⟩;rcases WK hy with z | z;·exact b.2 y z
 ·rw[z];exact hw
def yH (P:Program)(f:FuncId):Prop:=fI P f=true/\∀(L:Nat->Nat)(h:eZ)(r o:Nat)(x:RX)(k j:Nat)(m:fB)(a:List AV),gS L h r o x->x.r.aD k->k<=2^28->x.aA j->j<2^20->kH L h m a->0<=m.aA/\m.aA<=2^40->
 fy P f [.aE [.aC r 21 0 0,.aC o 5 0 0],.aE a] h λ_ h'=>fF wA fj L h r o (x.aK m) h'
theorem R_ {P:Program}{f f1 f2 f3 f4 f5 f6:FuncId}(hf:Is P f (BK f1 f2 f3 f4 f5 f6))(u1:Is P f1 wX)(u2:vO P f2)(u3:tH P f3)(u4:tN P f4)(u5:oJ P f5)(u6:pA P f6):yH P f:=by
 refine⟨hf.2,λL h r o x k j m a hx t hk hj ac hm a4=>fN hf ?_⟩;obtain⟨G,hr,h0⟩:=id hm;obtain⟨e,d,rfl,he,hd⟩:=jS hr;have ap:=hx.aB;obtain⟨R,out⟩:=x;simp only at t;obtain⟨H,hH⟩:∃H,H=h++[some (fh.aA 2 [[.aC r 21 0 0,.aC o 5 0 0]] false)]++[some (fh.aA 17 [m.aB e d] false)]:=⟨_,rfl⟩;have X1:eY fj h H:=by rw[hH];exact eY.b2 _ _
 have lH:H.length=h.length+2:=by rw[hH];simp
 have C0:H[h.length]?=some (some (fh.aA 2 [[.aC r 21 0 0,.aC o 5 0 0]] false)):=by rw[hH];exact iE _ _ _
 have C1:H[h.length+1]?=some (some (fh.aA 17 [m.aB e d] false)):=by rw[hH];exact iq _ _ _
 have O:=hx.up X1;have z2:∀m,h.length<=m->¬wA (L m):=λm e=>by rw[hx.ge e];exact iZ
 obtain⟨g,ff,ra⟩:=O.r;have rr:=ra.aA;have C:=rr;have a3:=C1;have rf:=e_.rd _ (F':=λm=>L m=2) (λ_ y=>y) _ ra.fo;have a5:=t.aD;simp only[fm.aJ]at C;simp only[fB.aB]at a3 hH;simp only[BK,go_sem,fB.aB,he.aA,hd.aA];rw[<-hH];clear hH;simp only[go_sem,C];refine fR u2.1 (u2.2 _ H R.aB ff f1 [] [.aC (h.length+1) 17 0 0] (λw=>decide (w.aB=m.aC)) rf (by omega) u1.2 (λw _=>OC u1 C1 w)) ?_;by_cases c1:R.aM=2
 ·cases c2:oV R.aB m.aC with
  | none=>
   have e1:(RX.aK ⟨R,out⟩ m)=⟨R,out⟩:=by unfold RX.aK;rw[Ve (by simpa using c1)];simp only[c2]
   rw[e1,Cv c2];have zn:(-1:Int)<0:=by omega
   simp only[go_sem,C,C0,Vc c1,Vq,Vc zn];exact fF.aB X1 O.to
  | some i=>
   obtain⟨e1,hi⟩:=Cw (k:=0) c2;rw[WT]at e1;rw[e1];have zn:¬(i:Int)<0:=by omega
   have eh:(RX.aK ⟨R,out⟩ m)=(let f:=(R.aB[i]).aE m
    let y:RX:=⟨{R with aB:=R.aB.set i f},out⟩
    let z:=if m.ok then y.aI else y
    if m.ok=false\/f.aD<=z.r.aK then z.to f else z):=by
    unfold RX.aK;rw[Ve (by simpa using c1)];simp only[c2,Vi hi,VG]
   obtain⟨n,jj,rw,gr,w1,w2,w3,w4,w5,w6,w7⟩:=fF.aS (O.to (W:=wA)) rr (λ_ z=>z) hi;have ww:=(a5.2 _ (VU hi)).aB m a4;have ws:=a5.2 _ (VU hi);rw[eh];clear eh;generalize R.aB[i]=w at *;have pc:im H (.aC n 4 jj 0)=some w.aA:=by simp[im,w2,w3]
   have R3:∀b,(H++[b])[r]?=_:=λb=>(eY.b1 b).aA C;have D0:∀b,(H++[b])[h.length]?=_:=λb=>(eY.b1 b).aA C0;have D1:∀b,(H++[b])[h.length+1]?=_:=λb=>(eY.b1 b).aA a3;have D2:∀b,(H++[b])[n]?=_:=λb=>(eY.b1 b).aA w2;have N1:∀sz i o',gN (h.length+1+1) 1 (.aC r sz i o')=true:=λsz i o'=>iv (by omega);have N2:∀sz i o',gN (h.length+1+1) 1 (.aC h.length sz i o')=true:=λsz i o'=>iv (by omega);have N3:∀sz i o',gN (h.length+1+1) 1 (.aC (h.length+1) sz i o')=true:=λsz i o'=>iv (by omega);have N4:∀sz i o',gN (h.length+1+1) 1 (.aC n sz i o')=true:=λsz i o'=>iv (by omega);have ld:∀b,gX (H++[b]) true 4 (.aC n 4 jj 0)=some (.aE w.aA):=λb=>by rw[hP (cs:=w.aA) (by simp[im,D2,w3])];rfl
   have u:∀a b,(H++[a]).set (h.length+2) b=H++[b]:=λa b=>by rw[WC _ _ (by omega),lH];simp
   simp only[fO.aA]at ld;simp only[go_sem,iN,C,C0,Vc c1,Vq,Va zn,R3,D0,D1,lH,N1,N2,N3,N4,w1,ld,u];have ab:∀b,fu G (H++[b]) m.c (m.aB e d):=λb=>fu.aA (λ_ y=>y) ((X1.tr (eY.b1 b)).aF _) _ _ hr;have hc:=u3.2 G (H++[none]) w m _ (ab none) ws.aA a4;simp only[fB.aB,fO.aA]at hc;refine fR u3.1 hc ?_;have q0:(h.length=h.length+2)=False:=Vs (by omega);have q1:(h.length+2=h.length)=False:=Vs (by omega);have q2:(h.length+1=h.length+2)=False:=Vs (by omega);have q3:(h.length+2=h.length+1)=False:=Vs (by omega);have q4:(r=h.length+2)=False:=Vs (by omega);have q5:(h.length+2=r)=False:=Vs (by omega);have q6:(n=h.length+2)=False:=Vs (by omega);have q7:(h.length+2=n)=False:=Vs (by omega);have b2:∀b,(H++[b])[h.length+2]?=some b:=λb=>by rw[<-lH];exact gh H b
   have a9:∀b,((iH 4 ff (.aA .i64 i)).bind λp=>gX (H++[b]) true 4 p)=some (.aE w.aA):=λb=>by rw[w1];exact ld b
   simp only[go_sem,iN,R3,D0,D1,D2,lH,w1,ld,u,b2,W5,W9,Vj];have a1:=(U_.1 w3).1;have M:(rw.modify jj λx=>(((x.set 0 (AV.aA IntKind.i64 (w.aE m).aB)).set 1 (AV.aA IntKind.i64 (w.aE m).aD)).set 2 (AV.aA IntKind.i64 (w.aE m).aC)).set 3 (AV.aA IntKind.i64 (w.aE m).aF))=rw.set jj (w.aE m).aA:=by
    apply VT;intro q;rw[W6,WD];by_cases c:jj=q
    ·subst c;have a7:rw[jj]=w.aA:=by have:=w3;rw[Vi a1]at this;exact Xe this
     simp[a1,a7,fO.aA]
    ·simp[c]
   rw[Vf a1,M];have T1:=w7 (w.aE m);obtain⟨F,hF⟩:∃F,F=w.aE m:=⟨_,rfl⟩;rw[<-hF]at T1 ww ⊢;have sA:∀v b,(H++[b]).set n v=H.set n v++[b]:=λv b=>List.set_append_left _ _ w5;rw[sA];obtain⟨L1,x0,l1,e1⟩:=T1;have z1:∀m,h.length<=m->¬wA (L1 m):=λm hm=>by
    by_cases c:m<H.length
    ·rw[l1 m c (.inr (λz=>z))];exact z2 m hm
    ·rw[x0.ge (by rw[Vh];omega)];exact iZ
   have x1:=x0.up (eY.b1 (some (fh.aA 4 [F.aA] false)));have e3:=e1.aB (eY.b1 (some (fh.aA 4 [F.aA] false))) (F'':=λm=>wA (L m)\/fj m) (λ_ _ z=>z) (λ_ _ z=>z.elim);have T2:=fF.aE l1 e3 (λ_ _ y=>y) (x1.to (W:=wA) (Q:=fj));have I:({R with aB:=R.aB.set i F}:fm).aD k:=t.bC i ww;have K0:=T2.aA (z2 _ (Vg _)) (λy=>y) C0;have K1:=T2.aA (z2 _ (by omega)) (λy=>y) a3;have K2:(H.set n (some (.aA 4 (rw.set jj F.aA) gr))++[some (fh.aA 4 [F.aA] false)])[h.length+2]?=some (some (fh.aA 4 [F.aA] false)):=by have:=gh (H.set n (some (.aA 4 (rw.set jj F.aA) gr))) (some (fh.aA 4 [F.aA] false));rw[Vh,lH]at this;exact this
   simp only[fO.aA]at K0 K1 K2 T2 x1 e3 ⊢;clear T2;generalize hH3:(H.set n _++_:eZ)=H3 at *;simp only[go_sem];obtain⟨g3,ff3,a8⟩:=x1.aA;have a0:=a8;simp only[fm.aJ]at a0;clear a9 sA u M;have U:∀(H4:eZ)(y:RX),y.aA j->y.r.aA=R.aA->fF wA fj L1 H3 r o y H4->fy P f6 [.aE [.aC r 21 0 0,.aC o 5 0 0],.aE F.aA] H4 λ_ h'=>fF wA fj L1 H3 r o (y.to F) h':=λH4 y yf yh T=>fF.aC (Q':=fj) T (eY.aC _ _) (λ_ _ y=>y) λL1 x1=>(u6.2 L1 H4 r o y F x1 ww.aA (by rw[yh];exact t.aU hk) (qL yf.1 ac 168 (by omega))).aA λ_ _ b=>b.aF me;simp only[fO.aA]at U;have fin:∀{y H4},fF wA fj L1 H3 r o y H4->fF wA fj L h r o y H4:=λT=>fF.aB X1 (fF.aE l1 e3 (λ_ _ y=>y) T);have yf:(⟨{R with aB:=R.aB.set i F},out⟩:RX).aA j:=hj;cases c3:m.ok;·simp only[go_sem,K0,K1,K2,c3,Vt,true_or,V3,VC,VO];refine fq ⟨u6.1,U H3 _ yf rfl x1.to⟩ ?_;intro _ H4 T4;simp only[go_sem];exact fin T4
   ·simp only[go_sem,K0,K1,c3,V3,Bool.true_eq_false,false_or];have st:=u4.2 L1 H3 r o _ k x1 I hk;refine fq ⟨u4.1,st⟩ ?_;intro _ H4 T4;have M0:=T4.aA (z1 _ (Vg _)) (λy=>y) K0;have M1:=T4.aA (z1 _ (by omega)) (λy=>y) K1;have M2:=T4.aA (z1 _ (by omega)) (λy=>y) K2;have a2:(RX.aI ⟨{R with aB:=R.aB.set i F},out⟩).r.aD k:=I.aN;have E:(RX.aI ⟨{R with aB:=R.aB.set i F},out⟩).r.aA=R.aA:=by show (fm.bz _).aA=_;unfold fm.bz;split<;>rfl
    have a6:(RX.aI ⟨{R with aB:=R.aB.set i F},out⟩).aA j:=hj;generalize (RX.aI ⟨{R with aB:=R.aB.set i F},out⟩)=y at *;simp only[go_sem,M0,M1,M2,c3,Vq];refine fR u5.1 (u5.2 H4 r y.r T4.aD (a2.aB hk)) ?_;rw[gF];by_cases c4:F.aD<=y.r.aK;·rw[Vf c4];simp only[go_sem,M0,M1,M2,c3,Vc c4];refine fq ⟨u6.1,U H4 y a6 E T4⟩ ?_;intro _ H5 T5;simp only[go_sem];exact fin T5
    ·rw[Ve c4];simp only[go_sem,M0,M1,M2,c3,Va c4];exact fin T4
 ·have e1:(RX.aK ⟨R,out⟩ m)=⟨R,out⟩:=by unfold RX.aK;rw[Vf (by simpa using c1)]
  rw[e1];simp only[go_sem,C,C0,Va c1,Vt];exact fF.aB X1 O.to
end Glb
