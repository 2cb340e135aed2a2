/-
  A library of its own.
-/
import Derived.Test.YtdeiamnhnfmilaaGreatGlbRafB
set_option linter.unusedSimpArgs false
set_option linter.unusedVariables false
set_option maxRecDepth 10000
set_option maxHeartbeats 8000000
namespace Glb
open Go
def AC.hd:AC->AC
 | .aA a _=>a
 | x=>x
def AC.tl:AC->AC
 | .aA _ b=>b
 | x=>x
theorem AC.aF (a b:AC):(AC.aA a b).hd=a:=rfl
theorem AC.aD (a b:AC):(AC.aA a b).tl=b:=rfl
theorem fy.aO {W Q L h r o R out h' ma ca aa}{n:Int}{b:Bool}(T:fy W Q L h r o ⟨R,out⟩ h') (row:h'[o]?=some (some (.aA 5 [[ma,ca,aa,.aA .i64 out.aE,.aE out.aC]] false))) (hW:∀k,k≠0->W k):
  fy W Q L h r o ⟨R,{out with aE:=n,aC:=b}⟩ (h'.set o (some (.aA 5 [[ma,ca,aa,.aA .i64 n,.aE b]] false))):=by
 obtain⟨L1,x1,l1,I⟩:=T;obtain⟨g1,f1,ra⟩:=x1.r;obtain⟨e,u,E,oa⟩:=x1.o;have:=oa.aA.symm.trans row;simp only[UB,e_.aA.injEq,VI]at this;obtain⟨-,⟨⟨rfl,rfl,rfl,-⟩,-⟩,-⟩:=this;have lo:=(Up.1 oa.aA).1;have ne:∀m,L1 m≠7->(h'.set o (some (.aA 5 [[e,u,E,.aA .i64 n,.aE b]] false)))[m]?=h'[m]?:=λm hm=>Uq (by rintro rfl;exact hm oa.lo);refine fy.aF l1 I (λ_ _ y=>y) ⟨L1,⟨⟨g1,f1,ra.aC (λ_ _ _=>rfl) λm hm y=>ne m (by omega)⟩,⟨e,u,E,Ux lo,?_,?_,?_,?_,?_,oa.lo⟩,λm hm=>by rw[UA];exact x1.lt m hm⟩,λ_ _ _=>rfl,eV.aI _ λ_=>.inl (hW _ (by rw[oa.lo];omega))⟩;·exact eX.aC _ (λ_ y=>y) (λm hm y hy=>(ne m (by omega)).trans hy) _ oa.m
 ·exact oa.mc.aA oa.m (λm hm y hy=>(ne m (by omega)).trans hy)
 ·exact eX.aC _ (λ_ y=>y) (λm hm y hy=>(ne m (by omega)).trans hy) _ oa.c
 ·exact oa.cc.aA oa.c (λm hm y hy=>(ne m (by omega)).trans hy)
 ·exact eX.aC _ (λ_ y=>y) (λm hm y hy=>(ne m (by omega)).trans hy) _ oa.a
theorem fy.aQ {W Q L h r o R out h' h3 ma ca aa e}{l:List fT}(T:fy W Q L h r o ⟨R,out⟩ h')(X:eV eY h' h3) (row:h'[o]?=some (some (.aA 5 [[ma,ca,aa,.aA .i64 out.aE,.aE out.aC]] false))) (he:eX (gN l) (λm=>h'.length<=m) h3 e) (hW:∀k,k≠0->W k):
  fy W Q L h r o ⟨R,{out with aF:=l}⟩ (h3.set o (some (.aA 5 [[ma,ca,e,.aA .i64 out.aE,.aE out.aC]] false))):=by
 obtain⟨L1,x1,l1,I⟩:=T;obtain⟨g1,f1,ra⟩:=x1.r;obtain⟨u,E,aa',oa⟩:=x1.o;have:=oa.aA.symm.trans row;simp only[UB,e_.aA.injEq,VI]at this;obtain⟨-,⟨⟨rfl,rfl,rfl,-⟩,-⟩,-⟩:=this;have lo:=(Up.1 oa.aA).1;have hl:=X.1;have st:∀m,m<h'.length->L1 m≠7->(h3.set o (some (.aA 5 [[u,E,e,.aA .i64 out.aE,.aE out.aC]] false)))[m]?=h'[m]?:=λm hm h7=>(Uq (by rintro rfl;exact h7 oa.lo)).trans (X.2 m hm (λy=>y));have old:∀{m},m<h'.length->k_ L1 eY h'.length h3.length 5 m=L1 m:=fun {m} hm=>lW (.inr ⟨λy=>y,hm⟩);refine fy.aF l1 I (λ_ _ y=>y) ⟨k_ L1 eY h'.length h3.length 5,⟨⟨g1,f1,ra.aC (λm hm _=>old hm) λm hm y=>st m hm (by omega)⟩,⟨u,E,e,Ux (by omega),?_,?_,?_,?_,?_,(old lo).trans oa.lo⟩,λm hm=>by rw[UA];exact tP (λz=>by have:=x1.lt m z;omega) hm⟩,λm hm _=>old hm,?_⟩;·exact eX.aC _ (λm hm=>(old hm.2).trans hm.1) (λm hm y hy=>(st m hm.2 (by omega)).trans hy) _ (eX.lt _ _ oa.m)
 ·exact oa.mc.aA (eX.lt _ _ oa.m) (λm hm y hy=>(st m hm.2 (by omega)).trans hy)
 ·exact eX.aC _ (λm hm=>(old hm.2).trans hm.1) (λm hm y hy=>(st m hm.2 (by omega)).trans hy) _ (eX.lt _ _ oa.c)
 ·exact oa.cc.aA (eX.lt _ _ oa.c) (λm hm y hy=>(st m hm.2 (by omega)).trans hy)
 ·exact eX.aC _ (λm hm=>tQ (x1.ge hm.1) hm.2 (.inr hm.1)) (λm hm y hy=>(Uq (by omega)).trans hy) _ (eX.lt _ _ he)
 ·exact X.aD (eV.aI (F:=λm=>m=o) _ (λ_=>rfl)) (F'':=λm=>W (L1 m)\/Q m) (λ_ _ y=>y.elim) (λm _ y=>.inl (by rw[y];exact hW _ (by rw[oa.lo];omega)))
theorem fy.aN {W Q L h r o x h'}(T:fy W Q L h r o x h'):∃ma ca aa,h'[o]?=some (some (.aA 5 [[ma,ca,aa,.aA .i64 x.o.aE,.aE x.o.aC]] false))/\ma.aH=true/\ca.aH=true/\aa.aH=true:=by obtain⟨_,x1,_⟩:=T;obtain⟨ma,ca,aa,oa⟩:=x1.o;exact⟨ma,ca,aa,oa.aA,oa.m.aA,oa.c.aA,oa.a.aA⟩
theorem g_.aC {L h r o x}(a:g_ L h r o x):r<h.length/\o<h.length/\r≠o:=by obtain⟨⟨g,f,ra⟩,⟨ma,ca,aa,oa⟩,lt⟩:=a;exact⟨lt r (by rw[ra.lr];omega),lt o (by rw[oa.lo];omega),λe=>by have:=ra.lr;have:=oa.lo;rw[e]at *;omega⟩
def yL (P:Program)(f:FuncId):Prop:=fP P f=true/\∀(L:Nat->Nat)(h:eW)(r o:Nat)(x:RX)(k:Nat),g_ L h r o x->x.r.aD k->k<=2^28->
 fC P f [.aF [.aC r 21 0 0,.aC o 5 0 0]] h λ_ h'=>fy wA eY L h r o x.aA h'
def wh (P:Program)(f:FuncId):Prop:=fP P f=true/\∀(L:Nat->Nat)(h:eW)(r o:Nat)(x:RX)(k:Nat),g_ L h r o x->x.r.aD k->k<=2^28->
 pU P f [.aF [.aC r 21 0 0,.aC o 5 0 0]] h λ_ h'=>fy wA eY L h r o x.aA h'
theorem Hh {P:Program}{f1 f2 f3 f4 f5:FuncId}(u1:ui P f1)(u2:ot P f2 fq.aI)(u3:nO P f3)(u4:qO P f4)(u5:nT P f5)(L:Nat->Nat)(h:eW)(r o:Nat)(x:RX)(k:Nat)(hx:g_ L h r o x)(hfit:x.r.aD k)(hk:k<=2^28):
  vc P (kU f1 f2 f3 f4 f5).aA ⟨[(0,.aF [.aC r 21 0 0,.aC o 5 0 0])],[],h⟩ (i_ (kU f1 f2 f3 f4 f5).aC λ_ h'=>fy wA eY L h r o x.aA h'):=by
 obtain⟨R,out⟩:=x;simp only at hfit;have lt:=hx.lt;have hbase:=hfit.aD;have hlast:=hfit.aG;have hat:=hfit.aR;have second:∀(Le:fV)(H0 H:eW)(R1:eZ),R.aT=R1->R1.aD k->lk 1 Le=.aC h.length 2 0 0->eV eY h H0->H0[h.length]?=some (some (.aA 2 [[.aC r 21 0 0,.aC o 5 0 0]] false))->fy wA eY L H0 r o ⟨R1,out⟩ H->
   vc P (kU f1 f2 f3 f4 f5).aA.tl.tl.tl ⟨Le,[],H⟩ (i_ (kU f1 f2 f3 f4 f5).aC λ_ h'=>fy wA eY L h r o (RX.aA ⟨R,out⟩) h'):=by
  intro Le H0 H R1 e1 fit1 k1 X0 C0 T;have hlast:=fit1.aG;have hbase:=fit1.aD;have hat:=fit1.aR;have z2:∀m,h.length<=m->¬wA (L m):=λm e=>by rw[hx.ge e];exact jF
  have b0:=T.aA (z2 _ (Uy _)) (λy=>y) C0;obtain⟨g,ff,r0⟩:=T.aE;obtain⟨ma,ca,aa,o0,sma,sca,saa⟩:=T.aN;have r0':=r0;simp only[eZ.aJ]at r0';have lo:=(Up.1 o0).1;have lr:=(Up.1 r0).1;have eE:RX.aA ⟨R,out⟩=if R1.aE<=R1.aH then ⟨R1,out⟩ else ⟨{R1 with aH:=R1.aE},{out with aE:=R1.aH+1,aF:=R1.aA.aA.aI (R1.aH+1) (R1.aE-R1.aH)}⟩:=by unfold RX.aA;simp only[e1]
  rw[eE];simp only[kU,AC.aD,go_sem,k1,b0,r0'];by_cases c:R1.aE<=R1.aH;·simp only[go_sem,Uu c];rw[Uv c];exact fy.aC X0 T
  ·have ew:IntKind.i64.wrap (R1.aH+1)=R1.aH+1:=gi (by omega);have ew2:IntKind.i64.wrap (R1.aE-R1.aH)=R1.aE-R1.aH:=gi (by omega);rw[Uw c];obtain⟨ap1,ap2,ap3⟩:=hx.aC;have q1:(o=h.length)=False:=UO (by omega);have q2:(o=r)=False:=UO (by omega);have q3:(r=o)=False:=UO (by omega);have q4:(r=h.length)=False:=UO (by omega);simp only[go_sem,Us c,k1,b0,r0',o0,ew,ew2,q1,q2,lo];have T1:=fy.aO (n:=R1.aH+1) (b:=out.aC) T o0 (λ_ z=>z);generalize hH3:H.set o _=H3 at *;have r3:H3[r]?=some (some (.aA 21 [R1.aJ g ff] false)):=by rw[<-hH3];exact (Uq (λe=>ap3 e.symm)).trans r0
   have o3:H3[o]?=some (some (.aA 5 [[ma,ca,aa,.aA .i64 (R1.aH+1),.aE out.aC]] false)):=by rw[<-hH3];exact Ux lo
   have b3:=T1.aA (z2 _ (Uy _)) (λy=>y) C0;have sl:=u5.2 eY H3 R1.aA.aA _ (R1.aH+1) (R1.aE-R1.aH) (m_ R1.aA.aA H3) (fit1.aC hk);refine fA ⟨u5.1,sl⟩ ?_;rintro e H4 ⟨oe,-,X4⟩;have se:=oe.aA;have b4:=X4.aA b3;have r4:=X4.aA r3;have r4':=r4;have o4:=X4.aA o3;have lo4:=(Up.1 o4).1;have lr4:=(Up.1 r4).1;simp only[eZ.aJ]at r4';have T2:=fy.aQ (l:=R1.aA.aA.aI (R1.aH+1) (R1.aE-R1.aH)) T1 X4 o3 oe (λ_ z=>z);rw[iC];simp only[go_sem,k1,b4,r4',o4,se,gC se,q1,q2,q4,lo4,lr4,UA];have r5:(H4.set o (some (.aA 5 [[ma,ca,e,.aA .i64 (R1.aH+1),.aE out.aC]] false)))[r]?=some (some (.aA 21 [R1.aJ g ff] false)):=(Uq (λe=>ap3 e.symm)).trans r4;have T3:=fy.aH (R':={R1 with aH:=R1.aE}) T2 r5 rfl rfl (λ_ z=>z);exact fy.aC X0 T3
 have e0:(kU f1 f2 f3 f4 f5).aA=.aA (kU f1 f2 f3 f4 f5).aA.hd (.aA (kU f1 f2 f3 f4 f5).aA.tl.hd (.aA (kU f1 f2 f3 f4 f5).aA.tl.tl.hd (kU f1 f2 f3 f4 f5).aA.tl.tl.tl)):=rfl;rw[e0];generalize (kU f1 f2 f3 f4 f5).aA.tl.tl.tl=D at second ⊢;obtain⟨g,ff,rr⟩:=hx.aA;have lr:=(Up.1 rr).1;simp only[eZ.aJ]at rr;have R1:∀a,(h++[a])[r]?=_:=λa=>(eV.b1 a).aA rr;have R2:∀a b,(h++[a]++[b])[r]?=_:=λa b=>(eV.b2 a b).aA rr;have cof:=λH=>u1.2 eY H R.aA _ (CB R.aA H) (hfit.aK hk);simp only[fq.aK]at cof;simp only[kU,AC.aF,AC.aD,go_sem,R1];refine gh u1.1 (cof _) ?_;obtain⟨H2,hH2⟩:∃H2,H2=h++[some (e_.aA 2 [[.aC r 21 0 0,.aC o 5 0 0]] false)]++[some (e_.aA 3 [[gG R.aA.of.1.aA,gG R.aA.of.1.aC,gG R.aA.of.1.aD]] false)]:=⟨_,rfl⟩;have X2:eV eY h H2:=by rw[hH2];exact eV.b2 _ _
 have l2:H2.length=h.length+2:=by rw[hH2];simp
 have C0:H2[h.length]?=some (some (e_.aA 2 [[.aC r 21 0 0,.aC o 5 0 0]] false)):=by rw[hH2];exact jJ _ _ _
 have C1:H2[h.length+1]?=some (some (e_.aA 3 [[gG R.aA.of.1.aA,gG R.aA.of.1.aC,gG R.aA.of.1.aD]] false)):=by rw[hH2];exact iO _ _ _
 have r2:=X2.aA rr;have hx2:=hx.up X2;have fin:∀(Le:fV),R.aT=R->lk 1 Le=.aC h.length 2 0 0->vc P D ⟨Le,[],H2⟩ (i_ (kU f1 f2 f3 f4 f5).aC λ_ h'=>fy wA eY L h r o (RX.aA ⟨R,out⟩) h'):=λLe e k1=>second Le H2 H2 R e hfit k1 X2 C0 hx2.to;simp only[kU]at fin;simp only[go_sem,R2];rw[<-hH2];by_cases c1:R.aG=2
 ·simp only[go_sem,r2,C0,Uu c1];by_cases c2:R.aA.of.2<=R.aE
  ·simp only[go_sem,r2,C0,C1,Uu c2];refine fA ⟨u2.1,u2.2 eY H2 R.aA.of.1 _ (vw R.aA.of.1 H2) (hfit.aM (by decide))⟩ ?_;rintro w H3 ⟨ow,X3⟩;have C0':=X3.aA C0;have C1':=X3.aA C1;have r3:=X3.aA r2;rw[iC];simp only[go_sem,r3,C0',C1'];have vl:=xS hfit.aP;refine gh u3.1 (u3.2 (λ_=>True) H3 _ w R.id (eX.rd _ (λ_ _=>UF) _ ow) (by have:R.aA.of.1.aI.length<=14:=vl;omega)) ?_;rw[iC];have hx3:=hx2.up X3;have snd:=second;simp only[kU]at snd;cases c3:decide (R.id∈R.aA.of.1.aI);·simp only[go_sem,r3,C0',C1',Vc];refine fA ⟨u4.1,u4.2 L H3 r o ⟨R,out⟩ 0 hx3⟩ ?_;intro _ H4 T4;simp only[go_sem];refine snd _ H3 H4 (R.aW 0) ?_ (hfit.aJ 0) (by simp[fj]) (X2.tr X3) C0' T4;unfold eZ.aT;rw[Uv ⟨c1,c2,c3⟩]
   ·simp only[go_sem,r3,C0',C1',U2];refine snd _ H3 H3 R ?_ hfit (by simp[fj]) (X2.tr X3) C0' hx3.to;unfold eZ.aT;rw[Uw (λz=>by have:=z.2.2;unfold eZ.aZ eZ.aN at this;rw[c3]at this;cases this)]
  ·simp only[go_sem,Us c2];exact fin _ (by unfold eZ.aT;rw[Uw (λz=>c2 z.2.1)]) (by simp[fj])
 ·simp only[go_sem,Us c1];exact fin _ (by unfold eZ.aT;rw[Uw (λz=>c1 z.1)]) (by simp[fj])
theorem Qu {P:Program}{f f1 f2 f3 f4 f5:FuncId}(hf:Is P f (kU f1 f2 f3 f4 f5))(u1:ui P f1)(u2:ot P f2 fq.aI)(u3:nO P f3)(u4:qO P f4)(u5:nT P f5):yL P f:=
 ⟨hf.2,λL h r o x k hx e hk=>tj hf.1 (Vx rfl) (Hh u1 u2 u3 u4 u5 L h r o x k hx e hk)⟩
theorem Qt {P:Program}{f f1 f2 f3 f4 f5:FuncId}(hf:Is P f (kU f1 f2 f3 f4 f5))(u1:ui P f1)(u2:ot P f2 fq.aI)(u3:nO P f3)(u4:qO P f4)(u5:nT P f5):wh P f:=
 ⟨hf.2,λL h r o x k hx e hk=>Lj hf.1 (Vx rfl) (Hh u1 u2 u3 u4 u5 L h r o x k hx e hk)⟩
theorem kJ.aA {lo:Nat}{h:eW}{sz:Nat}{a:AV}{es:List (List AV)}{e:List AV}{i:Nat}(ho:kJ lo h sz a es) (hi:es[i]?=some e):
  ∃n j row g,jg sz a (.aA .i64 i)=some (.aC n sz j 0)/\lo<=n/\h[n]?=some (some (.aA sz row g))/\row[j]?=some e:=by
 have E:=(Up.1 hi).1;rcases ho with⟨rfl,rfl⟩ | ⟨n,off,cap,row,g,rfl,hn,u,hle,hcl,h5,h6,h7⟩;·simp at E
 ·refine⟨n,off+i,row,g,?_,hn,u,?_⟩;·simp only[jg];rw[Uv ⟨UF,by omega,by omega⟩];simp
  ·rw[<-h7,Vp,Uv E,UR]at hi;exact hi
theorem kJ.aD {lo:Nat}{h:eW}{sz:Nat}{a:AV}{es:List (List AV)}(ho:kJ lo h sz a es):ik a=some (.aA .i64 es.length)/\a.aH=true:=by
 rcases ho with⟨rfl,rfl⟩ | ⟨n,off,cap,row,g,rfl,hn,hrow,hle,hcl,h5,h6,h7⟩;·exact⟨rfl,rfl⟩
 ·exact⟨rfl,rfl⟩
theorem fy.aR {W Q L h r o R R' out h' h1 g f gv}(T:fy W Q L h r o ⟨R,out⟩ h')(X:eV eY h' h1) (row:h'[r]?=some (some (.aA 21 [R.aJ g f] false))) (ho:eX (fM R'.aI) (λm=>h'.length<=m) h1 gv) (hc:gP h1 gv) (e2:R'.aC=R.aC) (hW:∀k,k≠0->W k):
  fy W Q L h r o ⟨R',out⟩ (h1.set r (some (.aA 21 [R'.aJ gv f] false))):=by
 obtain⟨L1,x1,l1,E⟩:=T;obtain⟨g1,f1,ra⟩:=x1.r;obtain⟨ma,ca,aa,oa⟩:=x1.o;have:=ra.aA.symm.trans row;simp only[UB,e_.aA.injEq,VI,eZ.aJ]at this;obtain⟨-,⟨⟨-,-,-,-,-,-,-,-,-,-,-,-,-,-,-,-,-,rfl,rfl,-⟩,-⟩,-⟩:=this;have lr:=(Up.1 ra.aA).1;have u:r<h1.length:=by have:=X.1;omega
 have ne:∀m,m≠r->(h1.set r (some (.aA 21 [R'.aJ gv f1] false)))[m]?=h1[m]?:=λm hm=>Uq (λe=>hm e.symm);have st:∀m,m<h'.length->m≠r->(h1.set r (some (.aA 21 [R'.aJ gv f1] false)))[m]?=h'[m]?:=λm hm hr=>(ne m hr).trans (X.2 m hm (λy=>y));have old:∀{m},m<h'.length->k_ L1 eY h'.length h1.length 1 m=L1 m:=fun {m} hm=>lW (.inr ⟨λy=>y,hm⟩);have nr:∀m,L1 m≠6->m≠r:=λm hm e=>hm (e▸ra.lr);have hl:=X.1;refine fy.aF l1 E (λ_ _ y=>y) ⟨k_ L1 eY h'.length h1.length 1,⟨⟨gv,f1,Ux u,?_,?_,?_,?_,(old lr).trans ra.lr⟩,⟨ma,ca,aa,oa.aC (λm hm _=>old hm) λm hm c=>st m hm (nr m (by omega))⟩,λm hm=>by rw[UA];exact tP (λz=>by have:=x1.lt m z;omega) hm⟩,λm hm _=>old hm,?_⟩;·exact eX.aC _ (λm hm=>tQ (x1.ge hm.1) hm.2 (.inr hm.1)) (λm hm y hy=>(ne m (by omega)).trans hy) _ (eX.lt _ _ ho)
 ·exact hc.aA ho (λm hm y hy=>(ne m (by omega)).trans hy)
 ·rw[e2];exact eX.aC _ (λm hm=>(old hm.2).trans hm.1) (λm hm y hy=>(st m hm.2 (nr m (by omega))).trans hy) _ (eX.lt _ _ ra.fo)
 ·exact ra.fc.aA (eX.lt _ _ ra.fo) (λm hm y hy=>(st m hm.2 (nr m (by omega))).trans hy)
 ·exact X.aD (eV.aI (F:=λm=>m=r) _ (λ_=>rfl)) (F'':=λm=>W (L1 m)\/Q m) (λ_ _ y=>y.elim) (λm _ y=>.inl (by rw[y];exact hW _ (by rw[ra.lr];omega)))
theorem Sb (x:RX)(l:List fE)(w:fE):x.aM (l++[w])=(x.aM l).aK w:=by unfold RX.aM;rw[List.foldl_append];rfl
def yP (P:Program)(f:FuncId):Prop:=fP P f=true/\∀(L:Nat->Nat)(h:eW)(r o:Nat)(x:RX)(k j:Nat)(draw:Int),g_ L h r o x->x.r.aD k->k<2^28->x.aC j->j+1<2^20->x.r.aA.aC<2^40->
 fC P f [.aF [.aC r 21 0 0,.aC o 5 0 0],.aA .i64 draw] h λ_ h'=>fy wA eY L h r o (x.aV draw) h'
theorem Ro {P:Program}{f f1 f2 f3 f4 f5 f6 f7 f8:FuncId}(hf:Is P f (Bf f1 f2 f3 f4 f5 f6 f7 f8))(u1:uC P f1)(u2:qO P f2)(u3:wu P f3)(u4:pZ P f4)(u5:pt P f5)(u6:wk P f6)(u7:x_ P f7)(u8:qW P f8):yP P f:=by
 refine⟨hf.2,λL h r o x k j E hx M hk hj an a2=>fU hf ?_⟩;have ap:=hx.aC;obtain⟨R,out⟩:=x;simp only at M a2;have X1:=eV.b1 (h:=h) (some (e_.aA 2 [[.aC r 21 0 0,.aC o 5 0 0]] false));have ag:=hx.up X1;have z2:∀m,h.length<=m->¬wA (L m):=λm e=>by rw[hx.ge e];exact jF
 have B1:=gH h (some (e_.aA 2 [[.aC r 21 0 0,.aC o 5 0 0]] false));obtain⟨g,ff,rr⟩:=ag.aA;have a8:=rr;simp only[eZ.aJ]at a8;have ht:=M.aF;have ew:IntKind.i64.wrap (R.aA.aC+1)=R.aA.aC+1:=gi (by omega);simp only[Bf,go_sem,a8,B1,ew];have t1:=u1.2 L _ r o ⟨R,out⟩ (R.aA.aC+1) R.id ag (by have:=hj.2;show (out.aA.length+1)*216<=2^46;have a:out.aA.length+1<=2^21:=by {have b:out.aA.length<=j:=this;omega};exact UH (Vi 216 a) (by decide));refine fA ⟨u1.1,t1⟩ ?_;intro _ H2 T2;have D2:=T2.aA (z2 _ (Uy _)) (λy=>y) B1;rw[iC];simp only[go_sem,D2];have t2:=fy.aD (Q':=eY) T2 (eV.aC _ _) (λ_ _ y=>y) λL1 x1=>u2.2 L1 H2 r o _ 0 x1;refine fA ⟨u2.1,t2⟩ ?_;intro _ H3 T3;have D3:=T3.aA (z2 _ (Uy _)) (λy=>y) B1;obtain⟨y,hy⟩:∃y,y=((({r:=R,o:=out}:RX).aI (R.aA.aC+1) R.id).aL 0):=⟨_,rfl⟩;have W:y.r.aD k:=by rw[hy];have:=(M.aW (t:=R.aA.aC+1) (v:=R.id) ⟨by omega,by omega⟩ ⟨by have:=M.id;omega,by have:=M.id;omega⟩).aJ 0;exact this
 have a4:y.aC (j+1):=by rw[hy];have:=RX.aC.aD (x:=({r:={R with aA:={R.aA with aC:=R.aA.aC+1,aF:=R.id}},o:=out}:RX)) hj {fZ.aI with aC:=1,aK:=R.aA.aC+1,aL:=R.id};exact this
 have yid:y.r.id=R.id:=by rw[hy];rfl
 have ah:(({r:=R,o:=out}:RX).aV E)=(let z:RX:={y with r:={y.r with aG:=1,aK:=0,aY:=lZ E,aI:=[y.r.id]}}
  if z.r.aN.aF z.r.aI then z.aN else z.aM (kj z.r.id z.r.aA.aE z.r.aA.aC z.r.aA.aA z.r.aN)):=by rw[hy];rfl
 rw[ah];rw[<-hy]at T3;clear hy ah T2 t2 t1;obtain⟨Y,yo⟩:=y;obtain⟨g3,a6,r3⟩:=T3.aE;have ab:=r3;simp only[eZ.aJ]at ab;simp only at W;obtain⟨ap1,ap2,ap3⟩:=ap;have ad:=(Up.1 D3).1;have a1:=(Up.1 r3).1;have ai:∀a,(H3++[a])[h.length]?=_:=λa=>(eV.b1 a).aA D3;have aa:∀a,(H3++[a])[r]?=_:=λa=>(eV.b1 a).aA ab;have NR:∀sz i o',gW H3.length 1 (.aC r sz i o')=true:=λsz i o'=>iu a1;have NB:∀sz i o',gW H3.length 1 (.aC h.length sz i o')=true:=λsz i o'=>iu ad;have q0:(r=h.length)=False:=UO (by omega);have q1:(r=H3.length)=False:=UO (by omega);have q2:r<H3.length+1:=by omega
 have q3:(h.length=r)=False:=UO (by omega);have q4:(h.length=H3.length)=False:=UO (by omega);have SA:∀x v,(H3++[x]).set r v=H3.set r v++[x]:=λx v=>by rw[List.set_append_left _ _ a1]
 have SB:∀v x y,(H3.set r v++[x]).set H3.length y=H3.set r v++[y]:=λv x y=>by rw[WC _ _ (by rw[UA];exact Uy _)];simp
 have SC:∀v w x,(H3.set r v++[x]).set r w=H3.set r w++[x]:=λv w x=>by rw[List.set_append_left _ _ (by rw[UA];exact a1),Vs]
 have GA:∀v x,(H3.set r v++[x])[r]?=some v:=λv x=>by rw[UZ (by rw[UA];exact a1),Ux a1]
 have GB:∀v x,(H3.set r v++[x])[h.length]?=some (some (e_.aA 2 [[.aC r 21 0 0,.aC o 5 0 0]] false)):=λv x=>by rw[UZ (by rw[UA];exact ad),Uq (by omega)];exact D3
 have GC:∀v x,(H3.set r v++[x])[H3.length]?=some x:=λv x=>by rw[U1 (by rw[UA];exact Uy _),UA];simp
 have GN:(H3++[none])[H3.length]?=some none:=by simp
 simp only[go_sem,jK,ai,aa,NR,NB];refine gh u3.1 (u3.2 _ E) ?_;simp only[go_sem,jK,ai,aa,SA,SB,SC,GA,GB,GC,GN,UA,Ut,WK,Bool.true_or];have og:eX (fM [Y.id]) (λm=>H3.length<=m) (H3++[some (e_.aA 1 [[.aA .i64 Y.id]] false)]) (.aG H3.length 1 0 1 (some 1)):=.inr (.inr ⟨_,0,some 1,_,_,rfl,Uy _,gH _ _,by simp,(λc hc=>by cases hc;simp),by simp[fG,fI,eX]⟩);have cg:gP (H3++[some (e_.aA 1 [[.aA .i64 Y.id]] false)]) (.aG H3.length 1 0 1 (some 1)):=⟨_,_,gH _ _,(λe=>by cases e),(λc hc=>by cases hc;simp)⟩;have T4:=fy.aR (R':={Y with aG:=1,aK:=0,aY:=lZ E,aI:=[Y.id]}) T3 (eV.b1 (some (e_.aA 1 [[.aA .i64 Y.id]] false))) r3 og cg rfl (λ_ z=>z);rw[SA]at T4;obtain⟨Z,hZ⟩:∃Z:eZ,Z={Y with aG:=1,aK:=0,aY:=lZ E,aI:=[Y.id]}:=⟨_,rfl⟩;have u:Z.aD k:=by rw[hZ];obtain⟨g1,g2,g3,g4,g5,g6,g7,g8,g9,g10,au,ar,g13,aq,ao⟩:=W;exact⟨g1,g2,g3,g4,g5,g6,g7,g8,g9,⟨UL _,by show (0:Int)<=k;omega⟩,au,ar,by show [Y.id].length<=k+1;simp,aq,ao⟩
 have zg:Z.aI=[Y.id]:=by rw[hZ]
 have a3:∀g f,Z.aJ g f=[.aA .i64 Y.id,.aA .i64 Y.aA.aE,.aA .i64 Y.aA.aC,.aA .i64 Y.aA.aF,.aA .i64 Y.aA.aA.aA,.aA .i64 Y.aA.aA.aD,ki Y.aA.aA.es,gG Y.aA.aD.aA,gG Y.aA.aD.aC,gG Y.aA.aD.aD,i9 Y.aA.aG,
  .aA .i64 Y.aE,.aA .i64 Y.aH,.aA .i64 1,.aA .i64 Y.aX,.aA .i64 0,.aA .i64 (lZ E),g,f,.aA .i64 Y.aL,.aA .i64 Y.aO]:=λg f=>by rw[hZ];rfl
 have a9:Rd (λ_=>True) (H3.set r (some (.aA 21 [Z.aJ (.aG H3.length 1 0 1 (some 1)) a6] false))++[some (e_.aA 1 [[.aA .i64 Y.id]] false)]) (fM Z.aI) (.aG H3.length 1 0 1 (some 1)):=by rw[zg];exact⟨_,.inr (.inr ⟨_,0,1,some 1,_,_,rfl,UF,GC _ _,by simp,(λc hc=>by cases hc;simp),rfl⟩),by simp[fY,fm,Rd]⟩
 have r4:=GA (some (.aA 21 [Z.aJ (.aG H3.length 1 0 1 (some 1)) a6] false)) (some (e_.aA 1 [[.aA .i64 Y.id]] false));rw[<-hZ]at T4;have O:=a3 (.aG H3.length 1 0 1 (some 1)) a6;rw[O]at T4 a9 r4;generalize hH4:(H3.set r _++_:eW)=H4 at *;have C4:=T4.aA (z2 _ (Uy _)) (λy=>y) B1;have ez:Z.id=Y.id/\Z.aA=Y.aA:=by rw[hZ];exact⟨rfl,rfl⟩
 have U:(⟨Z,yo⟩:RX).aC (j+1):=a4;have a7:((let z:RX:={({r:=Y,o:=yo}:RX) with r:={Y with aG:=1,aK:=0,aY:=lZ E,aI:=[Y.id]}}
  if z.r.aN.aF z.r.aI then z.aN else z.aM (kj z.r.id z.r.aA.aE z.r.aA.aC z.r.aA.aA z.r.aN)))=if Z.aN.aF Z.aI then RX.aN ⟨Z,yo⟩ else RX.aM ⟨Z,yo⟩ (kj Z.id Z.aA.aE Z.aA.aC Z.aA.aA Z.aN):=by rw[hZ]
 rw[a7];clear a7;refine gh u4.1 (u4.2 H4 r Z T4.aE (u.aK (by omega))) ?_;rw[iC];simp only[go_sem,C4,r4,fq.aK];refine gh u5.1 (u5.2 eY (λ_=>True) H4 Z.aN Z.aI _ _ (vw Z.aN H4) a9 (u.aM (by decide)) (by rw[zg];simp)) ?_;rw[iC];simp only[go_sem,C4,r4];cases cw:Z.aN.aF Z.aI
 ·simp only[go_sem,C4,r4,UQ,Vd];refine gh u4.1 (u4.2 H4 r Z T4.aE (u.aK (by omega))) ?_;rw[iC];simp only[go_sem,C4,r4,fq.aK];have ak:=u7.2 eY eY H4 Z.id Z.aA.aE Z.aA.aC Z.aA.aA Z.aN _ _ (m_ Z.aA.aA H4) (vw Z.aN H4) (u.aC (by omega)) (u.aM (by decide));rw[ez.1,ez.2]at ak ⊢;refine fA ⟨u7.1,ak⟩ ?_;rintro a H5 ⟨oo,X5⟩;have am:=JE (id:=Y.id) (group:=Y.aA.aE) (term:=Y.aA.aC) (l:=Y.aA.aA) (c:=Z.aN);have hal:(kj Y.id Y.aA.aE Y.aA.aC Y.aA.aA Z.aN).length<=14:=UH (Ej _ _ _ _ _) (xS u.aP);generalize kj Y.id Y.aA.aE Y.aA.aC Y.aA.aA Z.aN=ms at *;obtain⟨ac,sa⟩:=oo.aD;have C5:=X5.aA C4;have r5:=X5.aA r4;simp only[UI]at ac;rw[iC];simp only[go_sem,C5,r5,ac];obtain⟨L5,x4,l5,e4⟩:=T4;have x5:=x4.up X5;have e5:eV (λm=>wA (L m)\/eY m) (h++[some (e_.aA 2 [[.aC r 21 0 0,.aC o 5 0 0]] false)]) H5:=e4.aD X5 (λ_ _ z=>z) (λ_ _ z=>z.elim);have lh4:=(Up.1 C4).1;have z5:∀m,H4.length<=m->¬wO (L5 m):=λm hm=>by rw[x4.ge hm];unfold wO;omega
  have zb:¬wO (L5 h.length):=by rw[l5 h.length (by simp) (.inr (λz=>z)),hx.ge (Uy _)];unfold wO;omega
  obtain⟨I,hI⟩:∃I:Nat->fV->eW->Prop,∀m Le h',I m Le h'↔∃i:Nat,lk 2 Le=.aC h.length 2 0 0/\lk 84 Le=a/\lk 85 Le=.aA .i64 ms.length/\lk 86 Le=.aA .i64 i/\fy wO eY L5 H5 r o (RX.aM ⟨Z,yo⟩ (ms.take i)) h'/\i<=ms.length/\m=ms.length-i:=⟨_,λ_ _ _=>VW⟩;refine iM I ms.length ((hI _ _ _).2 ⟨0,by simp[fj],by simp[fj],by simp[fj],by simp[fj],x5.to,by omega,by omega⟩) ?_;intro m Le h' hh;obtain⟨i,k2,af,ae,a5,T,hi,rfl⟩:=(hI _ _ _).1 hh;simp only[ET,go_sem,ae,a5];refine iw (λci=>?_) (λci=>?_)
  ·simp at ci;have ci:i<ms.length:=by omega
   have ew:IntKind.i64.wrap ((i:Int)+1)=((i+1:Nat):Int):=by rw[gi (by omega)];omega
   obtain⟨n,q,row,gr,i1,i2,i3,i4⟩:=oo.aA (i:=i) (e:=oS ms[i]) (by rw[U_,Ur ci];rfl);have tk:ms.take (i+1)=ms.take i++[ms[i]]:=U3 ci;obtain⟨al,aj⟩:=am _ (UT ci);have sr:=CG (ms.take i) ⟨Z,yo⟩;have tl:=Ww i ms;have sn:=Sb ⟨Z,yo⟩ (ms.take i) ms[i];generalize ms[i]=m at *;have i5:=T.aA (z5 n i2) (λz=>z) i3;have C6:=T.aA zb (λz=>z) C5;have ld:ir h' true 17 (.aC n 17 q 0)=some (.aF (oS m)):=by rw[ju (cs:=oS m) (by simp[jA,i5,i4])];rfl
   have aw:∀b,(h'++[b])[h.length]?=_:=λb=>(eV.b1 b).aA C6;simp only[oS,fE.aE]at ld;simp only[go_sem,k2,af,a5,i1,ld,aw];have sd:=fy.aD (Q':=eY) (h3:=h'++[some (e_.aA 17 [oS m] false)]) T (eV.b1 _) (λ_ _ y=>y) λL1 x1=>u8.2 eY L1 (h'++[some (e_.aA 17 [oS m] false)]) r o _ m .aD .aD (x1.up (eV.b1 _)) (by rw[al];exact eX.aD 3) (by rw[aj];exact eX.aD 1) (λ_ z=>z.elim) (by
    have h1:=sr.2.2;have h2:=U.1;have a:(RX.aM ⟨Z,yo⟩ (ms.take i)).o.aD.length+1<=2^21:=by have h3:yo.aD.length<=j+1:=h2;have h4:(RX.aM ⟨Z,yo⟩ (ms.take i)).o.aD.length=yo.aD.length+(ms.take i).length:=h1;omega
    exact UH (Vi 168 a) (by decide))
   simp only[oS,fE.aE]at sd;refine fA ⟨u8.1,sd⟩ ?_;intro _ h2 T2;simp only[go_sem,a5,ew];exact⟨_,by omega,(hI _ _ _).2 ⟨i+1,by simp[fj,k2],by simp[fj,af],by simp[fj,ae],by simp[fj],by rw[tk,sn];exact T2,by omega,rfl⟩⟩
  ·simp at ci;obtain rfl:i=ms.length:=by omega
   rw[U7]at T;simp only[go_sem];exact fy.aC X1 (fy.aF l5 e5 (λ_ _ y=>y) (T.aG mO))
 ·simp only[go_sem,C4,Vm];have t6:=fy.aD (Q':=eY) T4 (eV.aC _ _) (λ_ _ y=>y) λL1 x1=>u6.2 L1 H4 r o ⟨Z,yo⟩ k (j+1) x1 u hk U an;refine fA ⟨u6.1,t6⟩ ?_;intro _ H5 T5;simp only[go_sem];exact fy.aC X1 T5
def lC (L:Nat->Nat)(h:eW)(m:fE)(a:List AV):Prop:=∃G:Nat->Prop,fm G h m.c a/\∀n,G n->L n=0
theorem lC.to {W:Nat->Prop}{L h r o x h' m a}(hm:lC L h m a){L1}(x1:g_ L1 h' r o x)(l1:∀m,m<h.length->L m≠0\/¬eY m->L1 m=L m) (e1:eV (λm=>W (L m)\/eY m) h h') (hW:¬W 0):lC L1 h' m a:=by obtain⟨G,hr,h0⟩:=hm;exact⟨λn=>G n/\n<h.length,fm.aA (λ_ y=>y) (λn hn y hy=>(e1.2 n hn.2 (λz=>by rcases z with z | z;rw[h0 n hn.1]at z;exact hW z;exact z)).trans hy) _ _ (fm.lt _ _ hr),λn hn=>(l1 n hn.2 (.inr (λz=>z))).trans (h0 n hn.1)⟩
theorem fy.aI {P:Program}{f:FuncId}{u:List AV}{W L h r o x h' x' m a}(T:fy W eY L h r o x h')(hm:lC L h m a)(hW:¬W 0)
  (hc:∀L1,g_ L1 h' r o x->lC L1 h' m a->fC P f u h' λ_ e=>fy W eY L1 h' r o x' e):fC P f u h' λ_ e=>fy W eY L h r o x' e:=by
 obtain⟨L1,x1,l1,e1⟩:=T;exact (hc L1 x1 (hm.to x1 l1 e1 hW)).aA λ_ _ b=>fy.aF l1 e1 (λ_ _ y=>y) b
def yJ (P:Program)(f:FuncId):Prop:=fP P f=true/\∀(L:Nat->Nat)(h:eW)(r o:Nat)(x:RX)(k j:Nat)(m:fE)(a:List AV),g_ L h r o x->x.r.aD k->k<=2^28->x.aC j->j+1<2^20->lC L h m a->
 fC P f [.aF [.aC r 21 0 0,.aC o 5 0 0],.aF a] h λ_ h'=>fy wA eY L h r o (x.aQ m) h'
theorem rD {n j:Nat}(h:n<=j)(hj:j<2^20)(b:Nat)(hb:b<=216):(n+1)*b<=2^46:=UH (Nat.mul_le_mul (show n+1<=2^20 by omega) hb) (by decide)
theorem PZ {P:Program}{f f1 f2 f3:FuncId}(hf:Is P f (mW f1 f2 f3))(u1:yy P f1)(u2:uC P f2)(u3:qW P f3):yJ P f:=by
 refine⟨hf.2,λL h r o x k j m a hx I hk hj Z hm=>fU hf ?_⟩;obtain⟨G,hr,h0⟩:=id hm;obtain⟨e,d,rfl,he,hd⟩:=pP hr;have ap:=hx.aC;obtain⟨R,out⟩:=x;simp only at I;obtain⟨H,hH⟩:∃H,H=h++[some (e_.aA 2 [[.aC r 21 0 0,.aC o 5 0 0]] false)]++[some (e_.aA 17 [m.aE e d] false)]:=⟨_,rfl⟩;have X1:eV eY h H:=by rw[hH];exact eV.b2 _ _
 have C0:H[h.length]?=some (some (e_.aA 2 [[.aC r 21 0 0,.aC o 5 0 0]] false)):=by rw[hH];exact jJ _ _ _
 have C1:H[h.length+1]?=some (some (e_.aA 17 [m.aE e d] false)):=by rw[hH];exact iO _ _ _
 have U:=hx.up X1;have z2:∀m,h.length<=m->¬wA (L m):=λm e=>by rw[hx.ge e];exact jF
 have E:∀(Le:fV)(H':eW)(y:RX)(ok:Bool),(RX.aQ ⟨R,out⟩ m)=y.aK {fE.aI with aD:=2,to:=m.aC,ok:=ok}->y.aC (j+1)->lk 2 Le=.aC h.length 2 0 0->lk 3 Le=.aC (h.length+1) 17 0 0->lk 4 Le=.aE ok->fy wA eY L H r o y H'->
   vc P (mW f1 f2 f3).aA.tl.tl.tl ⟨Le,[],H'⟩ (i_ (mW f1 f2 f3).aC λ_ h'=>fy wA eY L h r o (RX.aQ ⟨R,out⟩ m) h'):=by
  intro Le H' y ok ey yf k2 k3 k4 T;have D0:=T.aA (z2 _ (Uy _)) (λy=>y) C0;have D1:=T.aA (z2 _ (by omega)) (λy=>y) C1;simp only[fE.aE]at D1;rw[ey];simp only[mW,AC.aD,go_sem,k2,k3,k4,D0,D1];have sd:=fy.aD (Q':=eY) T (eV.aC _ _) (λ_ _ y=>y) λL1 x1=>(u3.2 eY L1 H' r o y {fE.aI with aD:=2,to:=m.aC,ok:=ok} .aD .aD x1 (eX.aD 3) (eX.aD 1) (λ_ z=>z.elim) (rD yf.1 Z 168 (by omega))).aA λ_ _ b=>b.aG mO;refine fA ⟨u3.1,sd⟩ ?_;intro _ H2 T2;simp only[go_sem];exact fy.aC X1 T2
 have e0:(mW f1 f2 f3).aA=.aA (mW f1 f2 f3).aA.hd (.aA (mW f1 f2 f3).aA.tl.hd (.aA (mW f1 f2 f3).aA.tl.tl.hd (mW f1 f2 f3).aA.tl.tl.tl)):=rfl;rw[e0];generalize (mW f1 f2 f3).aA.tl.tl.tl=D at E ⊢;obtain⟨g,ff,rr⟩:=U.aA;have O:=rr;have M:=C1;simp only[eZ.aJ]at O;simp only[fE.aE]at M hH;simp only[mW,AC.aF,AC.aD,go_sem,fE.aE,he.aA,hd.aA];rw[<-hH];clear hH;simp only[go_sem,O,C0,M];have gr:=u1.2 eY G H R.aA.aC R.aA.aF R.aA.aA m _ _ (m_ R.aA.aA H) (fm.aA (λ_ y=>y) (X1.aE _) _ _ hr) (I.aC hk);simp only[fE.aE]at gr;refine gh u1.1 gr ?_;rw[iC];have snd:=E;simp only[mW]at snd;have lr:=(Up.1 rr).1;have q0:(h.length=r)=False:=UO (by omega);have q1:(h.length+1=r)=False:=UO (by omega);have q2:(r=h.length)=False:=UO (by omega);have q3:(r=h.length+1)=False:=UO (by omega);simp only[go_sem,O,C0,M];have u:(RX.aQ ⟨R,out⟩ m)=(if mo R.aA.aC R.aA.aF R.aA.aA m then (let z:RX:=⟨{R with aK:=0},out⟩;if z.r.aA.aF=m.aC then z else z.aI z.r.aA.aC m.aC) else ⟨R,out⟩).aK {fE.aI with aD:=2,to:=m.aC,ok:=mo R.aA.aC R.aA.aF R.aA.aA m}:=rfl;cases cg:mo R.aA.aC R.aA.aF R.aA.aA m;·rw[cg]at u;simp only[go_sem];refine snd _ H ⟨R,out⟩ false u (hj.aA (by omega)) ?_ ?_ ?_ U.to<;>simp[fj]
 ·rw[cg]at u;have T0:=fy.aH (R':={R with aK:=0}) (U.to (W:=wA) (Q:=eY)) rr rfl rfl (λ_ z=>z);simp only[eZ.aJ]at T0;simp only[go_sem,O,C0,M,q2,q3,lr];generalize a1:H.set r _=H2 at *;have D0:=T0.aA (z2 _ (Uy _)) (λy=>y) C0;have D1:=T0.aA (z2 _ (by omega)) (λy=>y) M;have rE:H2[r]?=some (some (.aA 21 [({R with aK:=0}:eZ).aJ g ff] false)):=by rw[<-a1];exact Ux lr
  simp only[eZ.aJ]at rE;simp only[Vm]at u;by_cases cv:R.aA.aF=m.aC;·simp only[Uv cv]at u;simp only[go_sem,Uu cv,U2];refine snd _ H2 ⟨{R with aK:=0},out⟩ true u (RX.aC.aA (x:=⟨{R with aK:=0},out⟩) hj (by omega)) ?_ ?_ ?_ T0<;>simp[fj]
  ·simp only[Uw cv]at u;simp only[go_sem,rE,D0,D1,Us cv,Vc];have tm:=fy.aD (Q':=eY) T0 (eV.aC _ _) (λ_ _ y=>y) λL1 x1=>u2.2 L1 H2 r o _ R.aA.aC m.aC x1 (rD (show out.aA.length<=j from hj.2) (by omega) 216 (by omega));refine fA ⟨u2.1,tm⟩ ?_;intro _ H3 T3;rw[iC];simp only[go_sem];refine snd _ H3 _ true u (RX.aC.aD (x:=({r:={R with aK:=0,aA:={R.aA with aF:=m.aC}},o:=out}:RX)) hj {fZ.aI with aC:=1,aK:=R.aA.aC,aL:=m.aC}) ?_ ?_ ?_ T3<;>simp[fj]
theorem fy.aP {W:Nat->Prop}{L h r o R out H g f n}{Hb:eW}(T:fy W eY L h r o ⟨R,out⟩ H) (row:H[r]?=some (some (.aA 21 [R.aJ g f] false))) (X:eV eY H Hb) (hW:∀k,k≠0->W k) (hb:R.aI.length<=2^30):
  ∃g' H',ij Hb 1 8 g [[.aA .i64 n]]=some (g',H')/\g'.aH=true/\Hb.length<=H'.length/\(∀m,L m=0->m<h.length\/H.length<=m->m<Hb.length->H'[m]?=Hb[m]?)/\H'[r]?=some (some (.aA 21 [R.aJ g f] false)) /\
   gP H' g'/\Rd (λ_=>True) H' (fM (R.aI++[n])) g' /\
   fy W eY L h r o ⟨{R with aI:=R.aI++[n]},out⟩ (H'.set r (some (.aA 21 [({R with aI:=R.aI++[n]}:eZ).aJ g' f] false))):=by
 obtain⟨L1,x1,l1,I⟩:=T;obtain⟨g1,f1,ra⟩:=x1.r;obtain⟨ma,ca,aa,oa⟩:=x1.o;have:=ra.aA.symm.trans row;simp only[UB,e_.aA.injEq,VI,eZ.aJ]at this;obtain⟨-,⟨⟨-,-,-,-,-,-,-,-,-,-,-,-,-,-,-,-,-,rfl,rfl,-⟩,-⟩,-⟩:=this;have lr:=(Up.1 ra.aA).1;have hl:=X.1;have kg:gS (λm=>L1 m=1/\m<H.length) H Hb:=λm hm y hy=>X.aA hy;have og:eX (fM R.aI) (λm=>(L1 m=1/\m<H.length)\/Hb.length<=m) Hb g1:=eX.aC _ (λm hm=>.inl hm) kg _ (eX.lt _ _ ra.go);have cg:gP Hb g1:=ra.gc.aA (eX.lt _ _ ra.go) kg;obtain⟨g',H',s1,s2,s3,s4⟩:=vj (bytes:=8) (es:=[[.aA .i64 n]]) (ys:=[[.aA .i64 n]]) og cg (eV.aC _ _) (by simp[fG,fI,eX]) (λm hm=>.inr hm) (by simp;omega);have kk:∀m,m<Hb.length->L1 m≠1->H'[m]?=Hb[m]?:=λm hm hn=>s4.2 m hm (λz=>by rcases z with z | z;exact hn z.1;omega);have E:=s4.1;have e4:fM (R.aI++[n])=.sl 1 (R.aI.map (λn=>[D.aA .i64 n])++[[.aA .i64 n]]):=by simp[fM]
 have rr:H'[r]?=some (some (.aA 21 [R.aJ g1 f1] false)):=(kk r (by omega) (by rw[ra.lr];omega)).trans (X.aA ra.aA);have ne:∀m,m≠r->(H'.set r (some (.aA 21 [({R with aI:=R.aI++[n]}:eZ).aJ g' f1] false)))[m]?=H'[m]?:=λm hm=>Uq (λe=>hm e.symm);have st:∀m,m<H.length->L1 m≠1->m≠r->(H'.set r (some (.aA 21 [({R with aI:=R.aI++[n]}:eZ).aJ g' f1] false)))[m]?=H[m]?:=λm hm h1 hr=>(ne m hr).trans ((kk m (by omega) h1).trans (X.2 m hm (λy=>y)));have nr:∀m,L1 m≠6->m≠r:=λm hm e=>hm (e▸ra.lr);have old:∀{m},m<H.length->k_ L1 eY Hb.length H'.length 1 m=L1 m:=fun {m} hm=>lW (.inr ⟨λy=>y,by omega⟩);have u:=eX.lt _ _ s2;have kf:gS (λm=>L1 m=2/\m<H.length) H (H'.set r (some (.aA 21 [({R with aI:=R.aI++[n]}:eZ).aJ g' f1] false))):=λm hm y hy=>(st m hm.2 (by omega) (nr m (by omega))).trans hy;have kn:gS (λm=>((L1 m=1/\m<H.length)\/Hb.length<=m)/\m<H'.length) H' (H'.set r (some (.aA 21 [({R with aI:=R.aI++[n]}:eZ).aJ g' f1] false))):=λm hm y hy=>(ne m (by rcases hm.1 with z | z;exact nr m (by omega);omega)).trans hy;refine⟨g',H',s1,s2.aA,E,λm h0 hlt hm=>kk m hm ?_,rr,s3,?_,fy.aF l1 I (λ_ _ y=>y) ⟨k_ L1 eY Hb.length H'.length 1,⟨⟨g',f1,Ux (by omega),?_,?_,?_,?_,(old lr).trans ra.lr⟩,⟨ma,ca,aa,oa.aC (λm hm _=>old hm) λm hm c=>st m hm (by omega) (nr m (by omega))⟩,λm hm=>by rw[UA];exact tP (λz=>by have:=x1.lt m z;omega) hm⟩,λm hm _=>old hm,?_⟩⟩
 ·rcases hlt with hlt | hlt;·rw[l1 m hlt (.inr (λz=>z)),h0];omega
  ·rw[x1.ge hlt];omega
 ·rw[e4];exact eX.rd _ (λ_ _=>UF) _ s2
 ·show eX (fM (R.aI++[n])) _ _ _;rw[e4];refine eX.aC _ (λm hm=>?_) kn _ u;rcases hm.1 with z | z;·exact (old z.2).trans z.1
  ·exact tQ (x1.ge (by omega)) hm.2 (.inr z)
 ·exact s3.aA u kn
 ·exact eX.aC _ (λm hm=>(old hm.2).trans hm.1) kf _ (eX.lt _ _ ra.fo)
 ·exact ra.fc.aA (eX.lt _ _ ra.fo) kf
 ·refine (X.aD s4 (F'':=λm=>W (L1 m)\/eY m) (λ_ _ y=>y.elim) (λm hm y=>.inl (by rcases y with y | y;exact hW _ (by rw[y.1];omega);omega))).aD (eV.aI (F:=λm=>m=r) _ (λ_=>rfl)) (λ_ _ y=>y) (λm _ y=>.inl (by rw[y];exact hW _ (by rw[ra.lr];omega)))
def yR (P:Program)(f:FuncId):Prop:=fP P f=true/\∀(L:Nat->Nat)(h:eW)(r o:Nat)(x:RX)(k j:Nat)(m:fE)(a:List AV),g_ L h r o x->x.r.aD k->k+1<2^28->x.aC j->j<2^20->lC L h m a->
 fC P f [.aF [.aC r 21 0 0,.aC o 5 0 0],.aF a] h λ_ h'=>fy wA eY L h r o (x.aU m) h'
theorem RK {P:Program}{f f1 f2 f3 f4 f5:FuncId}(hf:Is P f (Bj f1 f2 f3 f4 f5))(u1:nO P f1)(u2:uD P f2)(u3:pZ P f3)(u4:pt P f4)(u5:wk P f5):yR P f:=by
 refine⟨hf.2,λL h r o x k j m a hx hfit hk hj hj2 hm=>fU hf ?_⟩;obtain⟨G,hr,h0⟩:=id hm;obtain⟨e,d,rfl,he,hd⟩:=pP hr;have ap:=hx.aC;obtain⟨R,out⟩:=x;simp only at hfit;obtain⟨H,hH⟩:∃H,H=h++[some (e_.aA 2 [[.aC r 21 0 0,.aC o 5 0 0]] false)]++[some (e_.aA 17 [m.aE e d] false)]:=⟨_,rfl⟩;have X1:eV eY h H:=by rw[hH];exact eV.b2 _ _
 have lH:H.length=h.length+2:=by rw[hH];simp
 have C0:H[h.length]?=some (some (e_.aA 2 [[.aC r 21 0 0,.aC o 5 0 0]] false)):=by rw[hH];exact jJ _ _ _
 have C1:H[h.length+1]?=some (some (e_.aA 17 [m.aE e d] false)):=by rw[hH];exact iO _ _ _
 have hx1:=hx.up X1;have z2:∀m,h.length<=m->¬wA (L m):=λm e=>by rw[hx.ge e];exact jF
 obtain⟨g,ff,ra⟩:=hx1.r;have rr:=ra.aA;have rr':=rr;have C1':=C1;have rg:=eX.rd _ (F':=λ_=>True) (λ_ _=>UF) _ ra.go;have sg:=ra.go.aA;simp only[eZ.aJ]at rr';simp only[fE.aE]at C1' hH;have gl:=hfit.aY;simp only[Bj,go_sem,fE.aE,he.aA,hd.aA];rw[<-hH];clear hH;have ex:∀(c:¬R.aG=1\/m.ok=false\/m.aC∈R.aI\/R.aZ m.aC=false),(RX.aU ⟨R,out⟩ m)=⟨R,out⟩:=λc=>Uv c;by_cases c1:R.aG=1
 ·simp only[go_sem,rr',C1',Uu c1,U2];cases c2:m.ok;·simp only[go_sem,Vc];rw[ex (.inr (.inl c2))];exact fy.aC X1 hx1.to
  ·simp only[go_sem,rr',C0,C1',c2,U2];refine gh u1.1 (u1.2 (λ_=>True) H R.aI g m.aC rg (by omega)) ?_;rw[iC];cases c3:decide (m.aC∈R.aI)
   ·simp only[go_sem,rr',C0,C1'];refine gh u2.1 (u2.2 H r R m.aC ⟨g,ff,rr⟩ (hfit.aK (by omega)) (hfit.aM (by decide))) ?_;rw[iC];cases c4:R.aZ m.aC;·simp only[go_sem,rr',C0,C1',Vc,c2];rw[ex (.inr (.inr (.inr c4)))];exact fy.aC X1 hx1.to
    ·have n4:¬(¬R.aG=1\/m.ok=false\/m.aC∈R.aI\/R.aZ m.aC=false):=by
      rintro (z | z | z | z);·exact z c1
      ·rw[c2]at z;cases z
      ·simp at c3;exact c3 z
      ·rw[c4]at z;cases z
     have ev:(RX.aU ⟨R,out⟩ m)=(let y:RX:=⟨{R with aI:=R.aI++[m.aC]},out⟩;if y.r.aN.aF y.r.aI then y.aN else y):=Uw n4;rw[ev];clear ex ev;have R3:∀b,(H++[b])[r]?=_:=λb=>(eV.b1 b).aA rr';have D0:∀b,(H++[b])[h.length]?=_:=λb=>(eV.b1 b).aA C0;have D1:∀b,(H++[b])[h.length+1]?=_:=λb=>(eV.b1 b).aA C1';have NR:∀s sz i o' n,s<H.length->gW H.length n (.aC s sz i o')=true:=λs sz i o' n hs=>iu hs;have N1:∀sz i o',gW (h.length+1+1) 1 (.aC r sz i o')=true:=λsz i o'=>iu (by omega);have N2:∀sz i o',gW (h.length+1+1) 1 (.aC h.length sz i o')=true:=λsz i o'=>iu (by omega);have N3:∀sz i o',gW (h.length+1+1) 1 (.aC (h.length+1) sz i o')=true:=λsz i o'=>iu (by omega);simp only[go_sem,jK,rr',C0,C1',U2,c2,R3,D0,D1,lH,N1,N2,N3];obtain⟨g',H',s1,s2,s3,s4,s5,s6,s7,s8⟩:=fy.aP (n:=m.aC) (hx1.to (W:=wA)) rr (eV.b1 (some (e_.aA 1 [[.aA .i64 m.aC]] false))) (λ_ z=>z) (by omega);rw[<-iq (lR H 1 [_] false (some 1) (len:=1) rfl),lH]at s1;rw[s1];obtain⟨R',hR'⟩:∃R':eZ,R'={R with aI:=R.aI++[m.aC]}:=⟨_,rfl⟩;have fit':R'.aD (k+1):=by rw[hR'];obtain⟨g1,g2,g3,g4,g5,g6,g7,g8,g9,g10,g11,g12,g13,g14,g15⟩:=hfit.aA (V4 k);exact⟨g1,g2,g3,g4,g5,g6,g7,g8,g9,g10,g11,g12,by show (R.aI++[m.aC]).length<=k+1+1;simp;omega,g14,g15⟩
     have eg':R'.aI=R.aI++[m.aC]:=by rw[hR']
     have zrow:∀g f,R'.aJ g f=R.aJ g f:=λg f=>by rw[hR'];rfl
     have K0:=(s4 h.length (hx.ge (Uy _)) (.inl (by omega)) (by simp;omega)).trans (D0 _);have K1:=(s4 (h.length+1) (hx.ge (by omega)) (.inl (by omega)) (by simp;omega)).trans (D1 _);have b2:=gH H (some (e_.aA 1 [[.aA .i64 m.aC]] false));rw[lH]at b2;have K2:=(s4 (h.length+2) (hx.ge (by omega)) (.inr (by omega)) (by simp[lH])).trans b2;have lr5:=(Up.1 s5).1;have s5':=s5;simp only[eZ.aJ]at s5';have w1:(h.length=r)=False:=UO (by omega);have w2:(r=h.length)=False:=UO (by omega);have w3:(h.length+2=r)=False:=UO (by omega);have w4:(r=h.length+2)=False:=UO (by omega);have w5:(r=h.length+1)=False:=UO (by omega);have w6:(h.length+1=r)=False:=UO (by omega);rw[<-hR']at s8;have l8:r<H'.length:=lr5;have r8:(H'.set r (some (.aA 21 [R'.aJ g' ff] false)))[r]?=some (some (.aA 21 [R'.aJ g' ff] false)):=Ux l8;have g8:Rd (λm=>m≠r) (H'.set r (some (.aA 21 [R'.aJ g' ff] false))) (fM R'.aI) g':=by rw[eg'];obtain⟨L8,x8,-⟩:=s8;obtain⟨g9,f9,ra9⟩:=x8.r;have:=ra9.aA.symm.trans r8;simp only[UB,e_.aA.injEq,VI,eZ.aJ]at this;obtain⟨-,⟨⟨-,-,-,-,-,-,-,-,-,-,-,-,-,-,-,-,-,rfl,-⟩,-⟩,-⟩:=this;rw[<-eg'];exact eX.rd _ (λm hm=>by rintro rfl;rw[ra9.lr]at hm;omega) _ ra9.go
     have E0:=s8.aA (z2 _ (Uy _)) (λz=>z) C0;have E1:=s8.aA (z2 _ (by omega)) (λz=>z) C1';rw[zrow]at s8 r8 g8 E0 E1;have r8':=r8;simp only[eZ.aJ]at s8 r8' g8 E0 E1;have ez:(let y:RX:=⟨{R with aI:=R.aI++[m.aC]},out⟩;if y.r.aN.aF y.r.aI then y.aN else y)=if R'.aN.aF R'.aI then RX.aN ⟨R',out⟩ else ⟨R',out⟩:=by rw[hR']
     rw[ez];simp only[go_sem,jK,K0,K1,K2,s5',s2,gC s2,w2,w4,w5,lr5,Bool.true_or,UA];generalize H'.set r _=H2 at *;refine gh u3.1 (u3.2 H2 r R' s8.aE (fit'.aK (by omega))) ?_;rw[iC];simp only[go_sem,E0,r8',fq.aK];refine gh u4.1 (u4.2 eY _ H2 R'.aN R'.aI _ _ (vw R'.aN H2) g8 (fit'.aM (by decide)) (by rw[eg'];simp;omega)) ?_;rw[iC];cases cw:R'.aN.aF R'.aI;·simp only[go_sem,E0,r8',UQ,Vd];exact fy.aC X1 s8
     ·simp only[go_sem,E0,r8',Vm];have ld:=fy.aD (Q':=eY) s8 (eV.aC _ _) (λ_ _ y=>y) λL1 x1=>u5.2 L1 H2 r o _ (k+1) j x1 fit' hk (RX.aC.aA (x:=⟨R',out⟩) hj (Uy _)) hj2;refine fA ⟨u5.1,ld⟩ ?_;intro _ H3 T3;simp only[go_sem];exact fy.aC X1 T3
   ·simp only[go_sem,rr',C0,C1',c2];rw[ex (.inr (.inr (.inl (by simpa using c3))))];exact fy.aC X1 hx1.to
 ·simp only[go_sem,rr',Us c1,Vc];rw[ex (.inl c1)];exact fy.aC X1 hx1.to
def wg (P:Program)(f:FuncId):Prop:=fP P f=true/\∀(L:Nat->Nat)(h:eW)(r o:Nat)(x:RX)(j:Nat)(m:fE)(a:List AV)(G:Nat->Prop)(ok:Bool)(index:Int),g_ L h r o x->x.aC j->j<2^20->fm G h m.c a->
 fC P f [.aF [.aC r 21 0 0,.aC o 5 0 0],.aF a,.aE ok,.aA .i64 index] h λ_ h'=>fy wO eY L h r o (x.aS m ok index) h'
theorem PX {P:Program}{f f1:FuncId}(hf:Is P f (A9 f1))(u1:qW P f1):wg P f:=by
 refine⟨hf.2,λL h r o x j m a G ok index hx hj u hr=>fU hf ?_⟩;obtain⟨e,d,rfl,he,hd⟩:=pP hr;simp only[A9,go_sem,fE.aE,he.aA,hd.aA];obtain⟨H,hH⟩:∃H,H=h++[some (e_.aA 2 [[.aC r 21 0 0,.aC o 5 0 0]] false)]++[some (e_.aA 17 [m.aE e d] false)]:=⟨_,rfl⟩;have X1:eV eY h H:=by rw[hH];exact eV.b2 _ _
 simp only[fE.aE]at hH;rw[<-hH];have sd:=u1.2 eY L H r o x {fE.aI with aD:=4,to:=m.aC,ok:=ok,aA:=index,aK:=m.aK} .aD .aD (hx.up X1) (eX.aD 3) (eX.aD 1) (λ_ z=>z.elim) (rD hj.1 u 168 (by omega));refine fA ⟨u1.1,sd⟩ ?_;intro _ H2 T2;simp only[go_sem];exact fy.aC X1 T2
theorem fy.aS {W:Nat->Prop}{L h r o R out H g f}(T:fy W eY L h r o ⟨R,out⟩ H) (row:H[r]?=some (some (.aA 21 [R.aJ g f] false))) (hW:∀k,k≠0->W k) {i:Nat} (hi:i<R.aC.length):
  ∃n j rw gr,jg 4 f (.aA .i64 i)=some (.aC n 4 j 0)/\H[n]?=some (some (.aA 4 rw gr))/\rw[j]?=some (R.aC[i]).aA/\n≠r/\n<H.length/\(∀m,L m=0->m<h.length\/H.length<=m->m≠n) /\
   ∀w:fR,fy W eY L h r o ⟨{R with aC:=R.aC.set i w},out⟩ (H.set n (some (.aA 4 (rw.set j w.aA) gr))):=by
 obtain⟨L1,x1,l1,U⟩:=T;obtain⟨g1,f1,ra⟩:=x1.r;obtain⟨ma,ca,aa,oa⟩:=x1.o;have:=ra.aA.symm.trans row;simp only[UB,e_.aA.injEq,VI,eZ.aJ]at this;obtain⟨-,⟨⟨-,-,-,-,-,-,-,-,-,-,-,-,-,-,-,-,-,rfl,rfl,-⟩,-⟩,-⟩:=this;obtain⟨n,off,rw,gr,cs,len,cap,e1,hn,ix,u,M,hd,wr⟩:=Cs (j:=i) (d0:=(R.aC[i]).c) ra.fo (by rw[U_,Ur hi];rfl);have O:cs=(R.aC[i]).aA:=xE (fI.rd _ (F':=λ_=>True) (λ_ _=>UF) _ hd);subst O;have hlt:=(Up.1 u).1;have ne:∀m,L1 m≠2->m≠n:=λm hm e=>hm (e▸hn);refine⟨n,off+i,rw,gr,ix,u,M,λe=>by rw[e,ra.lr]at hn;omega,hlt,λm h0 hm=>?_,λw=>?_⟩
 ·rcases hm with hm | hm;·exact ne m (by rw[l1 m hm (.inr (λz=>z)),h0];omega)
  ·omega
 ·have st:∀m,L1 m≠2->(H.set n (some (.aA 4 (rw.set (off+i) w.aA) gr)))[m]?=H[m]?:=λm hm=>Uq (λe=>ne m hm e.symm);have I:=wr (λm=>L1 m=2) H w.c w.aA (λ_ z=>z) (λ_ _ _ y=>y) rfl (by simp only[fR.c,fR.aA,fI,eX];exact⟨_,_,rfl,rfl,_,_,rfl,rfl,_,_,rfl,rfl,_,_,rfl,rfl,rfl⟩);refine fy.aF l1 U (λ_ _ y=>y) ⟨L1,⟨⟨g1,f1,(st r (by rw[ra.lr];omega)).trans ra.aA,?_,?_,?_,?_,ra.lr⟩,⟨ma,ca,aa,oa.aC (λ_ _ _=>rfl) λm hm c=>st m (by omega)⟩,λm hm=>by rw[UA];exact x1.lt m hm⟩,λ_ _ _=>rfl,eV.aI _ λ_=>.inl (hW _ (by rw[hn];omega))⟩;·exact eX.aC _ (λ_ y=>y) (λm hm y hy=>(st m (by omega)).trans hy) _ ra.go
  ·exact ra.gc.aA ra.go (λm hm y hy=>(st m (by omega)).trans hy)
  ·show eX (.sl 4 ((R.aC.set i w).map fR.c)) _ _ _;rw[List.map_set];exact I
  ·have hc:=ra.fc;subst e1;obtain⟨row',g',E,h1,h2⟩:=hc;rw[u]at E;simp only[UB,e_.aA.injEq,true_and]at E;obtain⟨rfl,rfl⟩:=E;exact⟨_,_,Ux hlt,h1,λc hc=>by rw[UA];exact h2 c hc⟩
theorem MF {P:Program}{f:FuncId}(hf:Is P f wT){h:eW}{n:Nat}{m:fE}{e d:AV} (hq:h[n]?=some (some (.aA 17 [m.aE e d] false))) (w:fR):
  fC P f [.aF w.aA,.aC n 17 0 0] h λr h'=>r=.aE (decide (w.aD=m.aC))/\h'=h:=by
 refine jN (rX _ _) (fU hf ?_);have u:∀b,(h++[b])[n]?=_:=λb=>(eV.b1 b).aA hq;simp only[fE.aE]at u;simp only[wT,fR.aA,go_sem,u];exact eV.b1 _
theorem fR.aH.aC {w:fR}(h:w.aH)(m:fE)(hi:0<=m.aA/\m.aA<=2^40):(w.aF m).aH:=by
 obtain⟨h1,⟨h2,h3⟩,h4,h5⟩:=h;unfold fR.aF;split
 ·split;·exact⟨h1,⟨by show 0<=max w.aC (max w.aE m.aA+1);omega,by show max w.aC (max w.aE m.aA+1)<=_;omega⟩,by show 0<=max w.aE m.aA;omega,by show max w.aE m.aA<=_;omega⟩
  ·exact⟨h1,⟨by show 0<=max (w.aE+1) (min (w.aC-1) (m.aA+1));omega,by show max (w.aE+1) (min (w.aC-1) (m.aA+1))<=_;omega⟩,h4,h5⟩
 ·exact⟨h1,⟨h2,h3⟩,h4,h5⟩
theorem eZ.aD.bF {k:Nat}{x:eZ}(h:x.aD k)(i:Nat){w:fR}(hw:w.aH):({x with aC:=x.aC.set i w}:eZ).aD k:=by
 obtain⟨g1,g2,g3,g4,g5,g6,g7,g8,g9,O,M,I,E,e,u⟩:=h;refine⟨g1,g2,g3,g4,g5,g6,g7,g8,g9,O,M,I,E,⟨by show (x.aC.set i w).length<=21;rw[UA];exact e.1,λy hy=>?_⟩,u⟩;rcases Wj hy with z | z;·exact e.2 y z
 ·rw[z];exact hw
def yM (P:Program)(f:FuncId):Prop:=fP P f=true/\∀(L:Nat->Nat)(h:eW)(r o:Nat)(x:RX)(k j:Nat)(m:fE)(a:List AV),g_ L h r o x->x.r.aD k->k<=2^28->x.aC j->j<2^20->lC L h m a->0<=m.aA/\m.aA<=2^40->
 fC P f [.aF [.aC r 21 0 0,.aC o 5 0 0],.aF a] h λ_ h'=>fy wA eY L h r o (x.aP m) h'
theorem QZ {P:Program}{f f1 f2 f3 f4 f5 f6:FuncId}(hf:Is P f (A_ f1 f2 f3 f4 f5 f6))(u1:Is P f1 wT)(u2:vV P f2)(u3:yz P f3)(u4:uw P f4)(u5:pn P f5)(u6:p8 P f6):yM P f:=by
 refine⟨hf.2,λL h r o x k j m a hx u hk hj ad hm a6=>fU hf ?_⟩;obtain⟨G,hr,h0⟩:=id hm;obtain⟨e,d,rfl,he,hd⟩:=pP hr;have ap:=hx.aC;obtain⟨R,out⟩:=x;simp only at u;obtain⟨H,hH⟩:∃H,H=h++[some (e_.aA 2 [[.aC r 21 0 0,.aC o 5 0 0]] false)]++[some (e_.aA 17 [m.aE e d] false)]:=⟨_,rfl⟩;have X1:eV eY h H:=by rw[hH];exact eV.b2 _ _
 have lH:H.length=h.length+2:=by rw[hH];simp
 have C0:H[h.length]?=some (some (e_.aA 2 [[.aC r 21 0 0,.aC o 5 0 0]] false)):=by rw[hH];exact jJ _ _ _
 have C1:H[h.length+1]?=some (some (e_.aA 17 [m.aE e d] false)):=by rw[hH];exact iO _ _ _
 have Z:=hx.up X1;have z2:∀m,h.length<=m->¬wA (L m):=λm e=>by rw[hx.ge e];exact jF
 obtain⟨g,ff,ra⟩:=Z.r;have rr:=ra.aA;have I:=rr;have a5:=C1;have rf:=eX.rd _ (F':=λm=>L m=2) (λ_ y=>y) _ ra.fo;have a7:=u.aE;simp only[eZ.aJ]at I;simp only[fE.aE]at a5 hH;simp only[A_,go_sem,fE.aE,he.aA,hd.aA];rw[<-hH];clear hH;simp only[go_sem,I];refine gh u2.1 (u2.2 _ H R.aC ff f1 [] [.aC (h.length+1) 17 0 0] (λw=>decide (w.aD=m.aC)) rf (by omega) u1.2 (λw _=>MF u1 C1 w)) ?_;by_cases c1:R.aG=2
 ·cases c2:tg R.aC m.aC with
  | none=>
   have e1:(RX.aP ⟨R,out⟩ m)=⟨R,out⟩:=by unfold RX.aP;rw[Uw (by simpa using c1)];simp only[c2]
   rw[e1,BN c2];have zn:(-1:Int)<0:=by omega
   simp only[go_sem,I,C0,Uu c1,U2,Uu zn];exact fy.aC X1 Z.to
  | some i=>
   obtain⟨e1,hi⟩:=BO (k:=0) c2;rw[Wp]at e1;rw[e1];have zn:¬(i:Int)<0:=by omega
   have eh:(RX.aP ⟨R,out⟩ m)=(let f:=(R.aC[i]).aF m
    let y:RX:=⟨{R with aC:=R.aC.set i f},out⟩
    let z:=if m.ok then y.aH else y
    if m.ok=false\/f.aC<=z.r.aM then z.to f else z):=by
    unfold RX.aP;rw[Uw (by simpa using c1)];simp only[c2,Ur hi,U6]
   obtain⟨n,jj,rw,gr,w1,w2,w3,w4,w5,w6,w7⟩:=fy.aS (Z.to (W:=wA)) rr (λ_ z=>z) hi;have ww:=(a7.2 _ (UT hi)).aC m a6;have ws:=a7.2 _ (UT hi);rw[eh];clear eh;generalize R.aC[i]=w at *;have pc:jA H (.aC n 4 jj 0)=some w.aA:=by simp[jA,w2,w3]
   have R3:∀b,(H++[b])[r]?=_:=λb=>(eV.b1 b).aA I;have D0:∀b,(H++[b])[h.length]?=_:=λb=>(eV.b1 b).aA C0;have D1:∀b,(H++[b])[h.length+1]?=_:=λb=>(eV.b1 b).aA a5;have D2:∀b,(H++[b])[n]?=_:=λb=>(eV.b1 b).aA w2;have N1:∀sz i o',gW (h.length+1+1) 1 (.aC r sz i o')=true:=λsz i o'=>iu (by omega);have N2:∀sz i o',gW (h.length+1+1) 1 (.aC h.length sz i o')=true:=λsz i o'=>iu (by omega);have N3:∀sz i o',gW (h.length+1+1) 1 (.aC (h.length+1) sz i o')=true:=λsz i o'=>iu (by omega);have N4:∀sz i o',gW (h.length+1+1) 1 (.aC n sz i o')=true:=λsz i o'=>iu (by omega);have ld:∀b,ir (H++[b]) true 4 (.aC n 4 jj 0)=some (.aF w.aA):=λb=>by rw[ju (cs:=w.aA) (by simp[jA,D2,w3])];rfl
   have E:∀a b,(H++[a]).set (h.length+2) b=H++[b]:=λa b=>by rw[WC _ _ (by omega),lH];simp
   simp only[fR.aA]at ld;simp only[go_sem,jK,I,C0,Uu c1,U2,Us zn,R3,D0,D1,lH,N1,N2,N3,N4,w1,ld,E];have ac:∀b,fm G (H++[b]) m.c (m.aE e d):=λb=>fm.aA (λ_ y=>y) ((X1.tr (eV.b1 b)).aE _) _ _ hr;have hc:=u3.2 G (H++[none]) w m _ (ac none) ws.aA a6;simp only[fE.aE,fR.aA]at hc;refine gh u3.1 hc ?_;have q0:(h.length=h.length+2)=False:=UO (by omega);have q1:(h.length+2=h.length)=False:=UO (by omega);have q2:(h.length+1=h.length+2)=False:=UO (by omega);have q3:(h.length+2=h.length+1)=False:=UO (by omega);have q4:(r=h.length+2)=False:=UO (by omega);have q5:(h.length+2=r)=False:=UO (by omega);have q6:(n=h.length+2)=False:=UO (by omega);have q7:(h.length+2=n)=False:=UO (by omega);have b2:∀b,(H++[b])[h.length+2]?=some b:=λb=>by rw[<-lH];exact gH H b
   have ab:∀b,((jg 4 ff (.aA .i64 i)).bind λp=>ir (H++[b]) true 4 p)=some (.aF w.aA):=λb=>by rw[w1];exact ld b
   simp only[go_sem,jK,R3,D0,D1,D2,lH,w1,ld,E,b2,WK,Bool.true_or,Ut];have a3:=(Up.1 w3).1;have U:(rw.modify jj λx=>(((x.set 0 (AV.aA IntKind.i64 (w.aF m).aD)).set 1 (AV.aA IntKind.i64 (w.aF m).aC)).set 2 (AV.aA IntKind.i64 (w.aF m).aE)).set 3 (AV.aA IntKind.i64 (w.aF m).aG))=rw.set jj (w.aF m).aA:=by
    apply Vf;intro q;rw[We,VJ];by_cases c:jj=q
    ·subst c;have a9:rw[jj]=w.aA:=by have:=w3;rw[Ur a3]at this;exact WN this
     simp[a3,a9,fR.aA]
    ·simp[c]
   rw[Uv a3,U];have T1:=w7 (w.aF m);obtain⟨F,hF⟩:∃F,F=w.aF m:=⟨_,rfl⟩;rw[<-hF]at T1 ww ⊢;have sA:∀v b,(H++[b]).set n v=H.set n v++[b]:=λv b=>List.set_append_left _ _ w5;rw[sA];obtain⟨L1,x0,l1,e1⟩:=T1;have z1:∀m,h.length<=m->¬wA (L1 m):=λm hm=>by
    by_cases c:m<H.length
    ·rw[l1 m c (.inr (λz=>z))];exact z2 m hm
    ·rw[x0.ge (by rw[UA];omega)];exact jF
   have x1:=x0.up (eV.b1 (some (e_.aA 4 [F.aA] false)));have e3:=e1.aD (eV.b1 (some (e_.aA 4 [F.aA] false))) (F'':=λm=>wA (L m)\/eY m) (λ_ _ z=>z) (λ_ _ z=>z.elim);have T2:=fy.aF l1 e3 (λ_ _ y=>y) (x1.to (W:=wA) (Q:=eY));have O:({R with aC:=R.aC.set i F}:eZ).aD k:=u.bF i ww;have K0:=T2.aA (z2 _ (Uy _)) (λy=>y) C0;have K1:=T2.aA (z2 _ (by omega)) (λy=>y) a5;have K2:(H.set n (some (.aA 4 (rw.set jj F.aA) gr))++[some (e_.aA 4 [F.aA] false)])[h.length+2]?=some (some (e_.aA 4 [F.aA] false)):=by have:=gH (H.set n (some (.aA 4 (rw.set jj F.aA) gr))) (some (e_.aA 4 [F.aA] false));rw[UA,lH]at this;exact this
   simp only[fR.aA]at K0 K1 K2 T2 x1 e3 ⊢;clear T2;generalize hH3:(H.set n _++_:eW)=H3 at *;simp only[go_sem];obtain⟨g3,ff3,aa⟩:=x1.aA;have a2:=aa;simp only[eZ.aJ]at a2;clear ab sA E U;have a1:∀(H4:eW)(y:RX),y.aC j->y.r.aA=R.aA->fy wA eY L1 H3 r o y H4->fC P f6 [.aF [.aC r 21 0 0,.aC o 5 0 0],.aF F.aA] H4 λ_ h'=>fy wA eY L1 H3 r o (y.to F) h':=λH4 y yf yh T=>fy.aD (Q':=eY) T (eV.aC _ _) (λ_ _ y=>y) λL1 x1=>(u6.2 L1 H4 r o y F x1 ww.aA (by rw[yh];exact u.bx hk) (rD yf.1 ad 168 (by omega))).aA λ_ _ b=>b.aG mO;simp only[fR.aA]at a1;have fin:∀{y H4},fy wA eY L1 H3 r o y H4->fy wA eY L h r o y H4:=λT=>fy.aC X1 (fy.aF l1 e3 (λ_ _ y=>y) T);have yf:(⟨{R with aC:=R.aC.set i F},out⟩:RX).aC j:=hj;cases c3:m.ok;·simp only[go_sem,K0,K1,K2,c3,Vc,true_or,Vm,UQ,Vd];refine fA ⟨u6.1,a1 H3 _ yf rfl x1.to⟩ ?_;intro _ H4 T4;simp only[go_sem];exact fin T4
   ·simp only[go_sem,K0,K1,c3,Vm,Bool.true_eq_false,false_or];have st:=u4.2 L1 H3 r o _ k x1 O hk;refine fA ⟨u4.1,st⟩ ?_;intro _ H4 T4;have M0:=T4.aA (z1 _ (Uy _)) (λy=>y) K0;have M1:=T4.aA (z1 _ (by omega)) (λy=>y) K1;have M2:=T4.aA (z1 _ (by omega)) (λy=>y) K2;have a4:(RX.aH ⟨{R with aC:=R.aC.set i F},out⟩).r.aD k:=O.aQ;have M:(RX.aH ⟨{R with aC:=R.aC.set i F},out⟩).r.aA=R.aA:=by show (eZ.aV _).aA=_;unfold eZ.aV;split<;>rfl
    have a8:(RX.aH ⟨{R with aC:=R.aC.set i F},out⟩).aC j:=hj;generalize (RX.aH ⟨{R with aC:=R.aC.set i F},out⟩)=y at *;simp only[go_sem,M0,M1,M2,c3,U2];refine gh u5.1 (u5.2 H4 r y.r T4.aE (a4.aC hk)) ?_;rw[iC];by_cases c4:F.aC<=y.r.aM;·rw[Uv c4];simp only[go_sem,M0,M1,M2,c3,Uu c4];refine fA ⟨u6.1,a1 H4 y a8 M T4⟩ ?_;intro _ H5 T5;simp only[go_sem];exact fin T5
    ·rw[Uw c4];simp only[go_sem,M0,M1,M2,c3,Us c4];exact fin T4
 ·have e1:(RX.aP ⟨R,out⟩ m)=⟨R,out⟩:=by unfold RX.aP;rw[Uv (by simpa using c1)]
  rw[e1];simp only[go_sem,I,C0,Us c1,Vc];exact fy.aC X1 Z.to
end Glb
