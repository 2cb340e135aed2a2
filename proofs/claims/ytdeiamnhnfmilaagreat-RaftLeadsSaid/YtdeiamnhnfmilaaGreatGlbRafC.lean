/-
  A library of its own.
-/
import Derived.Test.YtdeiamnhnfmilaaGreatGlbRafB
set_option linter.unusedSimpArgs false
set_option linter.unusedVariables false
set_option maxRecDepth 10000
set_option maxHeartbeats 8000000
namespace Glb
open Go
variable {P:Program}{f1 f2 f3 f4 f5 f:FuncId}
def AC.hd:AC->AC
 | .aA a _=>a
 | x=>x
def AC.tl:AC->AC
 | .aA _ b=>b
 | x=>x
theorem AC.aE (a b:AC):(AC.aA a b).hd=a:=rfl
theorem AC.aC (a b:AC):(AC.aA a b).tl=b:=rfl
theorem fJ.aN {W Q L h r o R out h' ma ca aa}{n:Int}{b:Bool}(T:fJ W Q L h r o ⟨R,out⟩ h') (row:h'[o]?=ar 5 [[ma,ca,aa,ι out.aE,.aE out.aD]]) (hW:∀k,k≠0->W k):
  fJ W Q L h r o ⟨R,{out with aE:=n,aD:=b}⟩ (h'.set o (some (.aA 5 [[ma,ca,aa,ι n,.aE b]] false))):=by
 obtain⟨L1,x1,l1,I⟩:=T;obtain⟨g1,f1,ra⟩:=x1.r;obtain⟨e,u,E,oa⟩:=x1.o;have:=oa.aA.symm.trans row;simp only[W8,fC.aA.injEq,Yv]at this;obtain⟨-,⟨⟨rfl,rfl,rfl,-⟩,-⟩,-⟩:=this;have lo:=(WR.1 oa.aA).1;have ne:∀m,L1 m≠7->(h'.set o (some (.aA 5 [[e,u,E,ι n,.aE b]] false)))[m]?=h'[m]?:=λm hm=>WS (by rintro rfl;exact hm oa.lo);refine fJ.aE l1 I (λ_ _ y=>y) ⟨L1,⟨⟨g1,f1,ra.aC (λ_ _ _=>rfl) λm hm y=>ne m ω⟩,⟨e,u,E,W0 lo,?_,?_,?_,?_,?_,oa.lo⟩,λm hm=>by rw[W4];exact x1.lt m hm⟩,λ_ _ _=>rfl,fq.aH _ λ_=>.inl (hW _ (by rw[oa.lo];omega))⟩;·exact fA.aC _ (λ_ y=>y) (λm hm y hy=>(ne m ω).trans hy) _ oa.m
 ·exact oa.mc.aA oa.m (λm hm y hy=>(ne m ω).trans hy)
 ·exact fA.aC _ (λ_ y=>y) (λm hm y hy=>(ne m ω).trans hy) _ oa.c
 ·exact oa.cc.aA oa.c (λm hm y hy=>(ne m ω).trans hy)
 ·exact fA.aC _ (λ_ y=>y) (λm hm y hy=>(ne m ω).trans hy) _ oa.a
theorem fJ.aQ {W Q L h r o R out h' h3 ma ca aa e}{l:List gw}(T:fJ W Q L h r o ⟨R,out⟩ h')(X:fq fB h' h3) (row:h'[o]?=ar 5 [[ma,ca,aa,ι out.aE,.aE out.aD]]) (he:fA (gZ l) (λm=>h'.length<=m) h3 e) (hW:∀k,k≠0->W k):
  fJ W Q L h r o ⟨R,{out with aF:=l}⟩ (h3.set o (some (.aA 5 [[ma,ca,e,ι out.aE,.aE out.aD]] false))):=by
 obtain⟨L1,x1,l1,I⟩:=T;obtain⟨g1,f1,ra⟩:=x1.r;obtain⟨u,E,aa',oa⟩:=x1.o;have:=oa.aA.symm.trans row;simp only[W8,fC.aA.injEq,Yv]at this;obtain⟨-,⟨⟨rfl,rfl,rfl,-⟩,-⟩,-⟩:=this;have lo:=(WR.1 oa.aA).1;have hl:=X.1;have st:∀m,m<h'.length->L1 m≠7->(h3.set o (some (.aA 5 [[u,E,e,ι out.aE,.aE out.aD]] false)))[m]?=h'[m]?:=λm hm h7=>(WS (by rintro rfl;exact h7 oa.lo)).trans (X.2 m hm (λy=>y));have old:∀{m},m<h'.length->me L1 fB h'.length h3.length 5 m=L1 m:=fun {m} hm=>mM (.inr ⟨λy=>y,hm⟩);refine fJ.aE l1 I (λ_ _ y=>y) ⟨me L1 fB h'.length h3.length 5,⟨⟨g1,f1,ra.aC (λm hm _=>old hm) λm hm y=>st m hm ω⟩,⟨u,E,e,W0 ω,?_,?_,?_,?_,?_,(old lo).trans oa.lo⟩,λm hm=>by rw[W4];exact vj (λz=>by have:=x1.lt m z;omega) hm⟩,λm hm _=>old hm,?_⟩;·exact fA.aC _ (λm hm=>(old hm.2).trans hm.1) (λm hm y hy=>(st m hm.2 ω).trans hy) _ (fA.lt _ _ oa.m)
 ·exact oa.mc.aA (fA.lt _ _ oa.m) (λm hm y hy=>(st m hm.2 ω).trans hy)
 ·exact fA.aC _ (λm hm=>(old hm.2).trans hm.1) (λm hm y hy=>(st m hm.2 ω).trans hy) _ (fA.lt _ _ oa.c)
 ·exact oa.cc.aA (fA.lt _ _ oa.c) (λm hm y hy=>(st m hm.2 ω).trans hy)
 ·exact fA.aC _ (λm hm=>vk (x1.ge hm.1) hm.2 (.inr hm.1)) (λm hm y hy=>(WS ω).trans hy) _ (fA.lt _ _ he)
 ·exact X.aD (fq.aH (F:=λm=>m=o) _ (λ_=>rfl)) (F'':=λm=>W (L1 m)\/Q m) (λ_ _ y=>y.elim) (λm _ y=>.inl (by rw[y];exact hW _ (by rw[oa.lo];omega)))
theorem fJ.aM {W Q L h r o x h'}(T:fJ W Q L h r o x h'):∃ma ca aa,h'[o]?=ar 5 [[ma,ca,aa,ι x.o.aE,.aE x.o.aD]]/\ma.aH=true/\ca.aH=true/\aa.aH=true:=by obtain⟨_,x1,_⟩:=T;obtain⟨ma,ca,aa,oa⟩:=x1.o;exact⟨ma,ca,aa,oa.aA,oa.m.aA,oa.c.aA,oa.a.aA⟩
theorem iv.aC {L h r o x}(a:iv L h r o x):r<h.length/\o<h.length/\r≠o:=by obtain⟨⟨g,f,ra⟩,⟨ma,ca,aa,oa⟩,lt⟩:=a;exact⟨lt r (by rw[ra.lr];omega),lt o (by rw[oa.lo];omega),λe=>by have:=ra.lr;have:=oa.lo;rw[e]at *;omega⟩
def AE (P:Program)(f:FuncId):Prop:=fZ P f=true/\∀(L:Nat->Nat)(h:fu)(r o:Nat)(x:RX)(k:Nat),iv L h r o x->x.r.aG k->k<=2^28->
 fO P f [.aF [.aA r 21 0 0,.aA o 5 0 0]] h λ_ h'=>fJ wA fB L h r o x.aA h'
def xS (P:Program)(f:FuncId):Prop:=fZ P f=true/\∀(L:Nat->Nat)(h:fu)(r o:Nat)(x:RX)(k:Nat),iv L h r o x->x.r.aG k->k<=2^28->
 qR P f [.aF [.aA r 21 0 0,.aA o 5 0 0]] h λ_ h'=>fJ wA fB L h r o x.aA h'
theorem Jv (u1:vM P f1)(u2:pJ P f2 fI.aI)(u3:oM P f3)(u4:sq P f4)(u5:oT P f5)(L:Nat->Nat)(h:fu)(r o:Nat)(x:RX)(k:Nat)(hx:iv L h r o x)(hfit:x.r.aG k)(hk:k<=2^28):
  vc P (lY f1 f2 f3 f4 f5).aA ⟨[(0,.aF [.aA r 21 0 0,.aA o 5 0 0])],[],h⟩ (iS (lY f1 f2 f3 f4 f5).aC λ_ h'=>fJ wA fB L h r o x.aA h'):=by
 obtain⟨R,out⟩:=x;simp only at hfit;have lt:=hx.lt;have hbase:=hfit.aD;have hlast:=hfit.aJ;have hat:=hfit.aP;have second:∀(Le:gx)(H0 H:fu)(R1:fy),R.aZ=R1->R1.aG k->lk 1 Le=.aA h.length 2 0 0->fq fB h H0->H0[h.length]?=ar 2 [[.aA r 21 0 0,.aA o 5 0 0]]->fJ wA fB L H0 r o ⟨R1,out⟩ H->
   vc P (lY f1 f2 f3 f4 f5).aA.tl.tl.tl ⟨Le,[],H⟩ (iS (lY f1 f2 f3 f4 f5).aC λ_ h'=>fJ wA fB L h r o (RX.aA ⟨R,out⟩) h'):=by
  intro Le H0 H R1 e1 fit1 k1 X0 C0 T;have hlast:=fit1.aJ;have hbase:=fit1.aD;have hat:=fit1.aP;have z2:∀m,h.length<=m->¬wA (L m):=λm e=>by rw[hx.ge e];exact kl
  have b0:=T.aA (z2 _ (WX _)) (λy=>y) C0;obtain⟨g,ff,r0⟩:=T.aF;obtain⟨ma,ca,aa,o0,sma,sca,saa⟩:=T.aM;have r0':=r0;simp only[fy.aL]at r0';have lo:=(WR.1 o0).1;have lr:=(WR.1 r0).1;have eE:RX.aA ⟨R,out⟩=if R1.aD<=R1.aI then ⟨R1,out⟩ else ⟨{R1 with aI:=R1.aD},{out with aE:=R1.aI+1,aF:=R1.aA.aA.aH (R1.aI+1) (R1.aD-R1.aI)}⟩:=by unfold RX.aA;simp only[e1]
  rw[eE];simp only[lY,AC.aC,go_sem,k1,b0,r0'];by_cases c:R1.aD<=R1.aI;·simp only[go_sem,WZ c];rw[WW c];exact fJ.aC X0 T
  ·have ew:IntKind.i64.wrap (R1.aI+1)=R1.aI+1:=gF ω;have ew2:IntKind.i64.wrap (R1.aD-R1.aI)=R1.aD-R1.aI:=gF ω;rw[WY c];obtain⟨ap1,ap2,ap3⟩:=hx.aC;have q1:(o=h.length)=False:=Xp ω;have q2:(o=r)=False:=Xp ω;have q3:(r=o)=False:=Xp ω;have q4:(r=h.length)=False:=Xp ω;simp only[go_sem,WV c,k1,b0,r0',o0,ew,ew2,q1,q2,lo];have T1:=fJ.aN (n:=R1.aI+1) (b:=out.aD) T o0 (λ_ z=>z);generalize hH3:H.set o _=H3 at *;have r3:H3[r]?=ar 21 [R1.aL g ff]:=by rw[<-hH3];exact (WS (λe=>ap3 e.symm)).trans r0
   have o3:H3[o]?=ar 5 [[ma,ca,aa,ι (R1.aI+1),.aE out.aD]]:=by rw[<-hH3];exact W0 lo
   have b3:=T1.aA (z2 _ (WX _)) (λy=>y) C0;have sl:=u5.2 fB H3 R1.aA.aA _ (R1.aI+1) (R1.aD-R1.aI) (m8 R1.aA.aA H3) (fit1.aC hk);refine fK ⟨u5.1,sl⟩ ?_;rintro e H4 ⟨oe,-,X4⟩;have se:=oe.aA;have b4:=X4.aA b3;have r4:=X4.aA r3;have r4':=r4;have o4:=X4.aA o3;have lo4:=(WR.1 o4).1;have lr4:=(WR.1 r4).1;simp only[fy.aL]at r4';have T2:=fJ.aQ (l:=R1.aA.aA.aH (R1.aI+1) (R1.aD-R1.aI)) T1 X4 o3 oe (λ_ z=>z);rw[iY];simp only[go_sem,k1,b4,r4',o4,se,gV se,q1,q2,q4,lo4,lr4,W4];have r5:(H4.set o (some (.aA 5 [[ma,ca,e,ι (R1.aI+1),.aE out.aD]] false)))[r]?=ar 21 [R1.aL g ff]:=(WS (λe=>ap3 e.symm)).trans r4;have T3:=fJ.aH (R':={R1 with aI:=R1.aD}) T2 r5 rfl rfl (λ_ z=>z);exact fJ.aC X0 T3
 have e0:(lY f1 f2 f3 f4 f5).aA=.aA (lY f1 f2 f3 f4 f5).aA.hd (.aA (lY f1 f2 f3 f4 f5).aA.tl.hd (.aA (lY f1 f2 f3 f4 f5).aA.tl.tl.hd (lY f1 f2 f3 f4 f5).aA.tl.tl.tl)):=rfl;rw[e0];generalize (lY f1 f2 f3 f4 f5).aA.tl.tl.tl=D at second ⊢;obtain⟨g,ff,rr⟩:=hx.aA;have lr:=(WR.1 rr).1;simp only[fy.aL]at rr;have R1:∀a,(h++[a])[r]?=_:=λa=>(fq.b1 a).aA rr;have R2:∀a b,(h++[a]++[b])[r]?=_:=λa b=>(fq.b2 a b).aA rr;have cof:=λH=>u1.2 fB H R.aA _ (EA R.aA H) (hfit.aL hk);simp only[fI.aN]at cof;simp only[lY,AC.aE,AC.aC,go_sem,R1];refine gH u1.1 (cof _) ?_;obtain⟨H2,hH2⟩:∃H2,H2=h++[some (fC.aA 2 [[.aA r 21 0 0,.aA o 5 0 0]] false)]++[some (fC.aA 3 [[gO R.aA.of.1.aA,gO R.aA.of.1.aC,gO R.aA.of.1.aD]] false)]:=⟨_,rfl⟩;have X2:fq fB h H2:=by rw[hH2];exact fq.b2 _ _
 have l2:H2.length=h.length+2:=by rw[hH2];simp
 have C0:H2[h.length]?=ar 2 [[.aA r 21 0 0,.aA o 5 0 0]]:=by rw[hH2];exact kr _ _ _
 have C1:H2[h.length+1]?=ar 3 [[gO R.aA.of.1.aA,gO R.aA.of.1.aC,gO R.aA.of.1.aD]]:=by rw[hH2];exact jy _ _ _
 have r2:=X2.aA rr;have hx2:=hx.up X2;have fin:∀(Le:gx),R.aZ=R->lk 1 Le=.aA h.length 2 0 0->vc P D ⟨Le,[],H2⟩ (iS (lY f1 f2 f3 f4 f5).aC λ_ h'=>fJ wA fB L h r o (RX.aA ⟨R,out⟩) h'):=λLe e k1=>second Le H2 H2 R e hfit k1 X2 C0 hx2.to;simp only[lY,fV]at fin;simp only[go_sem,R2];rw[<-hH2];by_cases c1:R.aE=2
 ·simp only[go_sem,r2,C0,WZ c1];by_cases c2:R.aA.of.2<=R.aD
  ·simp only[go_sem,r2,C0,C1,WZ c2];refine fK ⟨u2.1,u2.2 fB H2 R.aA.of.1 _ (w_ R.aA.of.1 H2) (hfit.aM δ)⟩ ?_;rintro w H3 ⟨ow,X3⟩;have C0':=X3.aA C0;have C1':=X3.aA C1;have r3:=X3.aA r2;rw[iY];simp only[go_sem,r3,C0',C1'];have vl:=zT hfit.aQ;refine gH u3.1 (u3.2 (λ_=>True) H3 _ w R.id (fA.rd _ (λ_ _=>Xb) _ ow) (by have:R.aA.of.1.aI.length<=14:=vl;omega)) ?_;rw[iY];have hx3:=hx2.up X3;have snd:=second;simp only[lY,fV]at snd;cases c3:decide (R.id∈R.aA.of.1.aI);·simp only[go_sem,r3,C0',C1',X_];refine fK ⟨u4.1,u4.2 L H3 r o ⟨R,out⟩ 0 hx3⟩ ?_;intro _ H4 T4;simp only[go_sem];refine snd _ H3 H4 (R.aW 0) ?_ (hfit.aK 0) (by simp[fE]) (X2.tr X3) C0' T4;unfold fy.aZ;rw[WW ⟨c1,c2,c3⟩]
   ·simp only[go_sem,r3,C0',C1',XL];refine snd _ H3 H3 R ?_ hfit (by simp[fE]) (X2.tr X3) C0' hx3.to;unfold fy.aZ;rw[WY (λz=>by have:=z.2.2;unfold fy.bz fy.aN at this;rw[c3]at this;cases this)]
  ·simp only[go_sem,WV c2];exact fin _ (by unfold fy.aZ;rw[WY (λz=>c2 z.2.1)]) (by simp[fE])
 ·simp only[go_sem,WV c1];exact fin _ (by unfold fy.aZ;rw[WY (λz=>c1 z.1)]) (by simp[fE])
theorem Td (hf:Is P f (lY f1 f2 f3 f4 f5))(u1:vM P f1)(u2:pJ P f2 fI.aI)(u3:oM P f3)(u4:sq P f4)(u5:oT P f5):AE P f:=
 ⟨hf.2,λL h r o x k hx e hk=>uM hf.1 (Yq rfl) (Jv u1 u2 u3 u4 u5 L h r o x k hx e hk)⟩
theorem Tc (hf:Is P f (lY f1 f2 f3 f4 f5))(u1:vM P f1)(u2:pJ P f2 fI.aI)(u3:oM P f3)(u4:sq P f4)(u5:oT P f5):xS P f:=
 ⟨hf.2,λL h r o x k hx e hk=>NP hf.1 (Yq rfl) (Jv u1 u2 u3 u4 u5 L h r o x k hx e hk)⟩
variable {P:Program}{f1 f2 f3 f4 f5 f:FuncId}
theorem lK.aA {lo:Nat}{h:fu}{sz:Nat}{a:AV}{es:List (List AV)}{e:List AV}{i:Nat}(ho:lK lo h sz a es) (hi:es[i]?=some e):
  ∃n j row g,jq sz a (ι i)=some (.aA n sz j 0)/\lo<=n/\h[n]?=some (some (.aA sz row g))/\row[j]?=some e:=by
 have E:=(WR.1 hi).1;rcases ho with⟨rfl,rfl⟩ | ⟨n,off,cap,row,g,rfl,hn,u,hle,hcl,h5,h6,h7⟩;·simp at E
 ·refine⟨n,off+i,row,g,?_,hn,u,?_⟩;·simp only[jq];rw[WW ⟨Xb,ω,ω⟩];simp
  ·rw[<-h7,Ye,WW E,Xv]at hi;exact hi
theorem lK.aD {lo:Nat}{h:fu}{sz:Nat}{a:AV}{es:List (List AV)}(ho:lK lo h sz a es):iJ a=some (ι es.length)/\a.aH=true:=by
 rcases ho with⟨rfl,rfl⟩ | ⟨n,off,cap,row,g,rfl,hn,hrow,hle,hcl,h5,h6,h7⟩;·exact⟨rfl,rfl⟩
 ·exact⟨rfl,rfl⟩
theorem fJ.aR {W Q L h r o R R' out h' h1 g f gv}(T:fJ W Q L h r o ⟨R,out⟩ h')(X:fq fB h' h1) (row:h'[r]?=ar 21 [R.aL g f]) (ho:fA (f_ R'.aJ) (λm=>h'.length<=m) h1 gv) (hc:ic h1 gv) (e2:R'.aC=R.aC) (hW:∀k,k≠0->W k):
  fJ W Q L h r o ⟨R',out⟩ (h1.set r (some (.aA 21 [R'.aL gv f] false))):=by
 obtain⟨L1,x1,l1,E⟩:=T;obtain⟨g1,f1,ra⟩:=x1.r;obtain⟨ma,ca,aa,oa⟩:=x1.o;have:=ra.aA.symm.trans row;simp only[W8,fC.aA.injEq,Yv,fy.aL]at this;obtain⟨-,⟨⟨-,-,-,-,-,-,-,-,-,-,-,-,-,-,-,-,-,rfl,rfl,-⟩,-⟩,-⟩:=this;have lr:=(WR.1 ra.aA).1;have u:r<h1.length:=by have:=X.1;omega
 have ne:∀m,m≠r->(h1.set r (some (.aA 21 [R'.aL gv f1] false)))[m]?=h1[m]?:=λm hm=>WS (λe=>hm e.symm);have st:∀m,m<h'.length->m≠r->(h1.set r (some (.aA 21 [R'.aL gv f1] false)))[m]?=h'[m]?:=λm hm hr=>(ne m hr).trans (X.2 m hm (λy=>y));have old:∀{m},m<h'.length->me L1 fB h'.length h1.length 1 m=L1 m:=fun {m} hm=>mM (.inr ⟨λy=>y,hm⟩);have nr:∀m,L1 m≠6->m≠r:=λm hm e=>hm (e▸ra.lr);have hl:=X.1;refine fJ.aE l1 E (λ_ _ y=>y) ⟨me L1 fB h'.length h1.length 1,⟨⟨gv,f1,W0 u,?_,?_,?_,?_,(old lr).trans ra.lr⟩,⟨ma,ca,aa,oa.aC (λm hm _=>old hm) λm hm c=>st m hm (nr m ω)⟩,λm hm=>by rw[W4];exact vj (λz=>by have:=x1.lt m z;omega) hm⟩,λm hm _=>old hm,?_⟩;·exact fA.aC _ (λm hm=>vk (x1.ge hm.1) hm.2 (.inr hm.1)) (λm hm y hy=>(ne m ω).trans hy) _ (fA.lt _ _ ho)
 ·exact hc.aA ho (λm hm y hy=>(ne m ω).trans hy)
 ·rw[e2];exact fA.aC _ (λm hm=>(old hm.2).trans hm.1) (λm hm y hy=>(st m hm.2 (nr m ω)).trans hy) _ (fA.lt _ _ ra.fo)
 ·exact ra.fc.aA (fA.lt _ _ ra.fo) (λm hm y hy=>(st m hm.2 (nr m ω)).trans hy)
 ·exact X.aD (fq.aH (F:=λm=>m=r) _ (λ_=>rfl)) (F'':=λm=>W (L1 m)\/Q m) (λ_ _ y=>y.elim) (λm _ y=>.inl (by rw[y];exact hW _ (by rw[ra.lr];omega)))
theorem UN (x:RX)(l:List fF)(w:fF):x.aK (l++[w])=(x.aK l).aI w:=by unfold RX.aK;rw[List.foldl_append];rfl
def AH (P:Program)(f:FuncId):Prop:=fZ P f=true/\∀(L:Nat->Nat)(h:fu)(r o:Nat)(x:RX)(k j:Nat)(draw:Int),iv L h r o x->x.r.aG k->k<2^28->x.aC j->j+1<2^20->x.r.aA.aC<2^40->
 fO P f [.aF [.aA r 21 0 0,.aA o 5 0 0],.aD .i64 draw] h λ_ h'=>fJ wA fB L h r o (x.aV draw) h'
theorem Uf {f6 f7 f8:FuncId}(hf:Is P f (CS f1 f2 f3 f4 f5 f6 f7 f8))(u1:vV P f1)(u2:sq P f2)(u3:x9 P f3)(u4:sw P f4)(u5:vX P f5)(u6:xV P f6)(u7:z8 P f7)(u8:sI P f8):AH P f:=by
 refine⟨hf.2,λL h r o x k j E hx O hk hj aq a3=>gy hf ?_⟩;have ap:=hx.aC;obtain⟨R,out⟩:=x;simp only at O a3;have X1:=fq.b1 (h:=h) (some (fC.aA 2 [[.aA r 21 0 0,.aA o 5 0 0]] false));have ai:=hx.up X1;have z2:∀m,h.length<=m->¬wA (L m):=λm e=>by rw[hx.ge e];exact kl
 have B1:=h_ h (some (fC.aA 2 [[.aA r 21 0 0,.aA o 5 0 0]] false));obtain⟨g,ff,rr⟩:=ai.aA;have a9:=rr;simp only[fy.aL]at a9;have ht:=O.aG;have ew:IntKind.i64.wrap (R.aA.aC+1)=R.aA.aC+1:=gF ω;simp only[CS,go_sem,a9,B1,ew];have t1:=u1.2 L _ r o ⟨R,out⟩ (R.aA.aC+1) R.id ai (by have:=hj.2;show (out.aC.length+1)*216<=2^46;have a:out.aC.length+1<=2^21:=by {have b:out.aC.length<=j:=this;omega};exact Xg (XZ 216 a) δ);refine fK ⟨u1.1,t1⟩ ?_;intro _ H2 T2;have D2:=T2.aA (z2 _ (WX _)) (λy=>y) B1;rw[iY];simp only[go_sem,D2];have t2:=fJ.aD (Q':=fB) T2 (fq.aC _ _) (λ_ _ y=>y) λL1 x1=>u2.2 L1 H2 r o _ 0 x1;refine fK ⟨u2.1,t2⟩ ?_;intro _ H3 T3;have D3:=T3.aA (z2 _ (WX _)) (λy=>y) B1;obtain⟨y,hy⟩:∃y,y=((({r:=R,o:=out}:RX).aJ (R.aA.aC+1) R.id).aO 0):=⟨_,rfl⟩;have a1:y.r.aG k:=by rw[hy];have:=(O.aW (t:=R.aA.aC+1) (v:=R.id) ⟨ω,ω⟩ ⟨by have:=O.id;omega,by have:=O.id;omega⟩).aK 0;exact this
 have a5:y.aC (j+1):=by rw[hy];have:=RX.aC.aD (x:=({r:={R with aA:={R.aA with aC:=R.aA.aC+1,aF:=R.id}},o:=out}:RX)) hj {gE.aI with aC:=1,aK:=R.aA.aC+1,aL:=R.id};exact this
 have yid:y.r.id=R.id:=by rw[hy];rfl
 have aj:(({r:=R,o:=out}:RX).aV E)=(let z:RX:={y with r:={y.r with aE:=1,aF:=0,aT:=k_ E,aJ:=[y.r.id]}}
  if z.r.aN.aE z.r.aJ then z.aL else z.aK (jY z.r.id z.r.aA.aE z.r.aA.aC z.r.aA.aA z.r.aN)):=by rw[hy];rfl
 rw[aj];rw[<-hy]at T3;clear hy aj T2 t2 t1;obtain⟨Y,yo⟩:=y;obtain⟨g3,a7,r3⟩:=T3.aF;have ac:=r3;simp only[fy.aL]at ac;simp only at a1;obtain⟨ap1,ap2,ap3⟩:=ap;have af:=(WR.1 D3).1;have a2:=(WR.1 r3).1;have al:∀a,(H3++[a])[h.length]?=_:=λa=>(fq.b1 a).aA D3;have ab:∀a,(H3++[a])[r]?=_:=λa=>(fq.b1 a).aA ac;have NR:∀sz i o',ij H3.length 1 (.aA r sz i o')=true:=λsz i o'=>iN a2;have NB:∀sz i o',ij H3.length 1 (.aA h.length sz i o')=true:=λsz i o'=>iN af;have q0:(r=h.length)=False:=Xp ω;have q1:(r=H3.length)=False:=Xp ω;have q2:r<H3.length+1:=ω;have q3:(h.length=r)=False:=Xp ω;have q4:(h.length=H3.length)=False:=Xp ω;have SA:∀x v,(H3++[x]).set r v=H3.set r v++[x]:=λx v=>by rw[List.set_append_left _ _ a2]
 have SB:∀v x y,(H3.set r v++[x]).set H3.length y=H3.set r v++[y]:=λv x y=>by rw[Zv _ _ (by rw[W4];exact WX _)];simp
 have SC:∀v w x,(H3.set r v++[x]).set r w=H3.set r w++[x]:=λv w x=>by rw[List.set_append_left _ _ (by rw[W4];exact a2),Yi]
 have GA:∀v x,(H3.set r v++[x])[r]?=some v:=λv x=>by rw[Xy (by rw[W4];exact a2),W0 a2]
 have GB:∀v x,(H3.set r v++[x])[h.length]?=ar 2 [[.aA r 21 0 0,.aA o 5 0 0]]:=λv x=>by rw[Xy (by rw[W4];exact af),WS ω];exact D3
 have GC:∀v x,(H3.set r v++[x])[H3.length]?=some x:=λv x=>by rw[XA (by rw[W4];exact WX _),W4];simp
 have GN:(H3++[none])[H3.length]?=some none:=by simp
 simp only[go_sem,kj,al,ab,NR,NB];refine gH u3.1 (u3.2 _ E) ?_;simp only[go_sem,kj,al,ab,SA,SB,SC,GA,GB,GC,GN,W4,WT,ZD,ZE];have og:fA (f_ [Y.id]) (λm=>H3.length<=m) (H3++[some (fC.aA 1 [[ι Y.id]] false)]) (.aG H3.length 1 0 1 (some 1)):=.inr (.inr ⟨_,0,some 1,_,_,rfl,WX _,h_ _ _,ς,(λc hc=>by cases hc;simp),by simp[fQ,fU,fA]⟩);have cg:ic (H3++[some (fC.aA 1 [[ι Y.id]] false)]) (.aG H3.length 1 0 1 (some 1)):=⟨_,_,h_ _ _,(λe=>by cases e),(λc hc=>by cases hc;simp)⟩;have T4:=fJ.aR (R':={Y with aE:=1,aF:=0,aT:=k_ E,aJ:=[Y.id]}) T3 (fq.b1 (some (fC.aA 1 [[ι Y.id]] false))) r3 og cg rfl (λ_ z=>z);rw[SA]at T4;obtain⟨Z,hZ⟩:∃Z:fy,Z={Y with aE:=1,aF:=0,aT:=k_ E,aJ:=[Y.id]}:=⟨_,rfl⟩;have u:Z.aG k:=by rw[hZ];obtain⟨g1,g2,g3,g4,g5,g6,g7,g8,g9,g10,ax,aw,g13,au,ar⟩:=a1;exact⟨g1,g2,g3,g4,g5,g6,g7,g8,g9,⟨W9 _,by show (0:Int)<=k;omega⟩,ax,aw,by show [Y.id].length<=k+1;simp,au,ar⟩
 have zg:Z.aJ=[Y.id]:=by rw[hZ]
 have a4:∀g f,Z.aL g f=[ι Y.id,ι Y.aA.aE,ι Y.aA.aC,ι Y.aA.aF,ι Y.aA.aA.aA,ι Y.aA.aA.aD,kE Y.aA.aA.es,gO Y.aA.aD.aA,gO Y.aA.aD.aC,gO Y.aA.aD.aD,jx Y.aA.aG,
  ι Y.aD,ι Y.aI,ι 1,ι Y.aR,ι 0,ι (k_ E),g,f,ι Y.bG,ι Y.aM]:=λg f=>by rw[hZ];rfl
 have aa:Rd (λ_=>True) (H3.set r (some (.aA 21 [Z.aL (.aG H3.length 1 0 1 (some 1)) a7] false))++[some (fC.aA 1 [[ι Y.id]] false)]) (f_ Z.aJ) (.aG H3.length 1 0 1 (some 1)):=by rw[zg];exact⟨_,.inr (.inr ⟨_,0,1,some 1,_,_,rfl,Xb,GC _ _,ς,(λc hc=>by cases hc;simp),rfl⟩),by simp[gB,fH,Rd]⟩
 have r4:=GA (some (.aA 21 [Z.aL (.aG H3.length 1 0 1 (some 1)) a7] false)) (some (fC.aA 1 [[ι Y.id]] false));rw[<-hZ]at T4;have U:=a4 (.aG H3.length 1 0 1 (some 1)) a7;rw[U]at T4 aa r4;generalize hH4:(H3.set r _++_:fu)=H4 at *;have C4:=T4.aA (z2 _ (WX _)) (λy=>y) B1;have ez:Z.id=Y.id/\Z.aA=Y.aA:=by rw[hZ];exact⟨rfl,rfl⟩
 have W:(⟨Z,yo⟩:RX).aC (j+1):=a5;have a8:((let z:RX:={({r:=Y,o:=yo}:RX) with r:={Y with aE:=1,aF:=0,aT:=k_ E,aJ:=[Y.id]}}
  if z.r.aN.aE z.r.aJ then z.aL else z.aK (jY z.r.id z.r.aA.aE z.r.aA.aC z.r.aA.aA z.r.aN)))=if Z.aN.aE Z.aJ then RX.aL ⟨Z,yo⟩ else RX.aK ⟨Z,yo⟩ (jY Z.id Z.aA.aE Z.aA.aC Z.aA.aA Z.aN):=by rw[hZ]
 rw[a8];clear a8;refine gH u4.1 (u4.2 H4 r Z T4.aF (u.aL ω)) ?_;rw[iY];simp only[go_sem,C4,r4,fI.aN];refine gH u5.1 (u5.2 fB (λ_=>True) H4 Z.aN Z.aJ _ _ (w_ Z.aN H4) aa (u.aM δ) (by rw[zg];simp)) ?_;rw[iY];simp only[go_sem,C4,r4];cases cw:Z.aN.aE Z.aJ
 ·simp only[go_sem,C4,r4,Xt,XS];refine gH u4.1 (u4.2 H4 r Z T4.aF (u.aL ω)) ?_;rw[iY];simp only[go_sem,C4,r4,fI.aN];have ak:=u7.2 fB fB H4 Z.id Z.aA.aE Z.aA.aC Z.aA.aA Z.aN _ _ (m8 Z.aA.aA H4) (w_ Z.aN H4) (u.aC ω) (u.aM δ);rw[ez.1,ez.2]at ak ⊢;refine fK ⟨u7.1,ak⟩ ?_;rintro a H5 ⟨oo,X5⟩;have ao:=LZ (id:=Y.id) (group:=Y.aA.aE) (term:=Y.aA.aC) (l:=Y.aA.aA) (c:=Z.aN);have hal:(jY Y.id Y.aA.aE Y.aA.aC Y.aA.aA Z.aN).length<=14:=Xg (Gt _ _ _ _ _) (zT u.aQ);generalize jY Y.id Y.aA.aE Y.aA.aC Y.aA.aA Z.aN=ms at *;obtain⟨ae,sa⟩:=oo.aD;have C5:=X5.aA C4;have r5:=X5.aA r4;simp only[Xd]at ae;rw[iY];simp only[go_sem,C5,r5,ae];obtain⟨L5,x4,l5,e4⟩:=T4;have x5:=x4.up X5;have e5:fq (λm=>wA (L m)\/fB m) (h++[some (fC.aA 2 [[.aA r 21 0 0,.aA o 5 0 0]] false)]) H5:=e4.aD X5 (λ_ _ z=>z) (λ_ _ z=>z.elim);have lh4:=(WR.1 C4).1;have z5:∀m,H4.length<=m->¬wO (L5 m):=λm hm=>by rw[x4.ge hm];unfold wO;omega
  have zb:¬wO (L5 h.length):=by rw[l5 h.length ς (.inr (λz=>z)),hx.ge (WX _)];unfold wO;omega
  obtain⟨I,hI⟩:∃I:Nat->gx->fu->Prop,∀m Le h',I m Le h'↔∃i:Nat,lk 2 Le=.aA h.length 2 0 0/\lk 84 Le=a/\lk 85 Le=ι ms.length/\lk 86 Le=ι i/\fJ wO fB L5 H5 r o (RX.aK ⟨Z,yo⟩ (ms.take i)) h'/\i<=ms.length/\m=ms.length-i:=⟨_,λ_ _ _=>YD⟩;refine iP I ms.length ((hI _ _ _).2 ⟨0,by simp[fE],by simp[fE],by simp[fE],by simp[fE],x5.to,ω,ω⟩) ?_;intro m Le h' hh;obtain⟨i,k2,ah,ag,a6,T,hi,rfl⟩:=(hI _ _ _).1 hh;simp only[He,go_sem,ag,a6];refine iQ (λci=>?_) (λci=>?_)
  ·simp at ci;have ci:i<ms.length:=ω;have ew:IntKind.i64.wrap ((i:Int)+1)=((i+1:Nat):Int):=by rw[gF ω];omega
   obtain⟨n,q,row,gr,i1,i2,i3,i4⟩:=oo.aA (i:=i) (e:=pY ms[i]) (by rw[XR,WU ci];rfl);have tk:ms.take (i+1)=ms.take i++[ms[i]]:=XE ci;obtain⟨an,am⟩:=ao _ (Xq ci);have sr:=EH (ms.take i) ⟨Z,yo⟩;have tl:=Zz i ms;have sn:=UN ⟨Z,yo⟩ (ms.take i) ms[i];generalize ms[i]=m at *;have i5:=T.aA (z5 n i2) (λz=>z) i3;have C6:=T.aA zb (λz=>z) C5;have ld:iK h' true 17 (.aA n 17 q 0)=some (.aF (pY m)):=by rw[jN (cs:=pY m) (by simp[jV,i5,i4])];rfl
   have ay:∀b,(h'++[b])[h.length]?=_:=λb=>(fq.b1 b).aA C6;simp only[pY,fF.aF]at ld;simp only[go_sem,k2,ah,a6,i1,ld,ay];have sd:=fJ.aD (Q':=fB) (h3:=h'++[some (fC.aA 17 [pY m] false)]) T (fq.b1 _) (λ_ _ y=>y) λL1 x1=>u8.2 fB L1 (h'++[some (fC.aA 17 [pY m] false)]) r o _ m .aC .aC (x1.up (fq.b1 _)) (by rw[an];exact fA.aD 3) (by rw[am];exact fA.aD 1) (λ_ z=>z.elim) (by
    have h1:=sr.2.2;have h2:=W.1;have a:(RX.aK ⟨Z,yo⟩ (ms.take i)).o.aA.length+1<=2^21:=by have h3:yo.aA.length<=j+1:=h2;have h4:(RX.aK ⟨Z,yo⟩ (ms.take i)).o.aA.length=yo.aA.length+(ms.take i).length:=h1;omega
    exact Xg (XZ 168 a) δ)
   simp only[pY,fF.aF]at sd;refine fK ⟨u8.1,sd⟩ ?_;intro _ h2 T2;simp only[go_sem,a6,ew];exact⟨_,ω,(hI _ _ _).2 ⟨i+1,by simp[fE,k2],by simp[fE,ah],by simp[fE,ag],by simp[fE],by rw[tk,sn];exact T2,ω,rfl⟩⟩
  ·simp at ci;obtain rfl:i=ms.length:=ω;rw[XF]at T;simp only[go_sem];exact fJ.aC X1 (fJ.aE l5 e5 (λ_ _ y=>y) (T.aG nZ))
 ·simp only[go_sem,C4,Yc];have t6:=fJ.aD (Q':=fB) T4 (fq.aC _ _) (λ_ _ y=>y) λL1 x1=>u6.2 L1 H4 r o ⟨Z,yo⟩ k (j+1) x1 u hk W aq;refine fK ⟨u6.1,t6⟩ ?_;intro _ H5 T5;simp only[go_sem];exact fJ.aC X1 T5
variable {P:Program}{f1 f2 f3 f4 f5 f:FuncId}
def mw (L:Nat->Nat)(h:fu)(m:fF)(a:List AV):Prop:=∃G:Nat->Prop,fH G h m.c a/\∀n,G n->L n=0
theorem mw.to {W:Nat->Prop}{L h r o x h' m a}(hm:mw L h m a){L1}(x1:iv L1 h' r o x)(l1:∀m,m<h.length->L m≠0\/¬fB m->L1 m=L m) (e1:fq (λm=>W (L m)\/fB m) h h') (hW:¬W 0):mw L1 h' m a:=by obtain⟨G,hr,h0⟩:=hm;exact⟨λn=>G n/\n<h.length,fH.aA (λ_ y=>y) (λn hn y hy=>(e1.2 n hn.2 (λz=>by rcases z with z | z;rw[h0 n hn.1]at z;exact hW z;exact z)).trans hy) _ _ (fH.lt _ _ hr),λn hn=>(l1 n hn.2 (.inr (λz=>z))).trans (h0 n hn.1)⟩
theorem fJ.aI {u:List AV}{W L h r o x h' x' m a}(T:fJ W fB L h r o x h')(hm:mw L h m a)(hW:¬W 0)
  (hc:∀L1,iv L1 h' r o x->mw L1 h' m a->fO P f u h' λ_ e=>fJ W fB L1 h' r o x' e):fO P f u h' λ_ e=>fJ W fB L h r o x' e:=by
 obtain⟨L1,x1,l1,e1⟩:=T;exact (hc L1 x1 (hm.to x1 l1 e1 hW)).aA λ_ _ b=>fJ.aE l1 e1 (λ_ _ y=>y) b
def AA (P:Program)(f:FuncId):Prop:=fZ P f=true/\∀(L:Nat->Nat)(h:fu)(r o:Nat)(x:RX)(k j:Nat)(m:fF)(a:List AV),iv L h r o x->x.r.aG k->k<=2^28->x.aC j->j+1<2^20->mw L h m a->
 fO P f [.aF [.aA r 21 0 0,.aA o 5 0 0],.aF a] h λ_ h'=>fJ wA fB L h r o (x.aS m) h'
theorem tg {n j:Nat}(h:n<=j)(hj:j<2^20)(b:Nat)(hb:b<=216):(n+1)*b<=2^46:=Xg (Nat.mul_le_mul (show n+1<=2^20 by omega) hb) δ
theorem SN (hf:Is P f (nR f1 f2 f3))(u1:Ao P f1)(u2:vV P f2)(u3:sI P f3):AA P f:=by
 refine⟨hf.2,λL h r o x k j m a hx I hk hj a1 hm=>gy hf ?_⟩;obtain⟨G,hr,h0⟩:=id hm;obtain⟨e,d,rfl,he,hd⟩:=qK hr;have ap:=hx.aC;obtain⟨R,out⟩:=x;simp only at I;obtain⟨H,hH⟩:∃H,H=h++[some (fC.aA 2 [[.aA r 21 0 0,.aA o 5 0 0]] false)]++[some (fC.aA 17 [m.aF e d] false)]:=⟨_,rfl⟩;have X1:fq fB h H:=by rw[hH];exact fq.b2 _ _
 have C0:H[h.length]?=ar 2 [[.aA r 21 0 0,.aA o 5 0 0]]:=by rw[hH];exact kr _ _ _
 have C1:H[h.length+1]?=ar 17 [m.aF e d]:=by rw[hH];exact jy _ _ _
 have Z:=hx.up X1;have z2:∀m,h.length<=m->¬wA (L m):=λm e=>by rw[hx.ge e];exact kl
 have E:∀(Le:gx)(H':fu)(y:RX)(ok:Bool),(RX.aS ⟨R,out⟩ m)=y.aI {fF.aJ with aC:=2,to:=m.aE,ok:=ok}->y.aC (j+1)->lk 2 Le=.aA h.length 2 0 0->lk 3 Le=.aA (h.length+1) 17 0 0->lk 4 Le=.aE ok->fJ wA fB L H r o y H'->
   vc P (nR f1 f2 f3).aA.tl.tl.tl ⟨Le,[],H'⟩ (iS (nR f1 f2 f3).aC λ_ h'=>fJ wA fB L h r o (RX.aS ⟨R,out⟩ m) h'):=by
  intro Le H' y ok ey yf k2 k3 k4 T;have D0:=T.aA (z2 _ (WX _)) (λy=>y) C0;have D1:=T.aA (z2 _ ω) (λy=>y) C1;simp only[fF.aF]at D1;rw[ey];simp only[nR,AC.aC,go_sem,k2,k3,k4,D0,D1];have sd:=fJ.aD (Q':=fB) T (fq.aC _ _) (λ_ _ y=>y) λL1 x1=>(u3.2 fB L1 H' r o y {fF.aJ with aC:=2,to:=m.aE,ok:=ok} .aC .aC x1 (fA.aD 3) (fA.aD 1) (λ_ z=>z.elim) (tg yf.1 a1 168 ω)).aA λ_ _ b=>b.aG nZ;refine fK ⟨u3.1,sd⟩ ?_;intro _ H2 T2;simp only[go_sem];exact fJ.aC X1 T2
 have e0:(nR f1 f2 f3).aA=.aA (nR f1 f2 f3).aA.hd (.aA (nR f1 f2 f3).aA.tl.hd (.aA (nR f1 f2 f3).aA.tl.tl.hd (nR f1 f2 f3).aA.tl.tl.tl)):=rfl;rw[e0];generalize (nR f1 f2 f3).aA.tl.tl.tl=D at E ⊢;obtain⟨g,ff,rr⟩:=Z.aA;have U:=rr;have O:=C1;simp only[fy.aL]at U;simp only[fF.aF]at O hH;simp only[nR,AC.aE,AC.aC,go_sem,fF.aF,he.aA,hd.aA];rw[<-hH];clear hH;simp only[go_sem,U,C0,O];have gr:=u1.2 fB G H R.aA.aC R.aA.aF R.aA.aA m _ _ (m8 R.aA.aA H) (fH.aA (λ_ y=>y) (X1.aE _) _ _ hr) (I.aC hk);simp only[fF.aF]at gr;refine gH u1.1 gr ?_;rw[iY];have snd:=E;simp only[nR,fV]at snd;have lr:=(WR.1 rr).1;have q0:(h.length=r)=False:=Xp ω;have q1:(h.length+1=r)=False:=Xp ω;have q2:(r=h.length)=False:=Xp ω;have q3:(r=h.length+1)=False:=Xp ω;simp only[go_sem,U,C0,O];have u:(RX.aS ⟨R,out⟩ m)=(if ku R.aA.aC R.aA.aF R.aA.aA m then (let z:RX:=⟨{R with aF:=0},out⟩;if z.r.aA.aF=m.aE then z else z.aJ z.r.aA.aC m.aE) else ⟨R,out⟩).aI {fF.aJ with aC:=2,to:=m.aE,ok:=ku R.aA.aC R.aA.aF R.aA.aA m}:=rfl;cases cg:ku R.aA.aC R.aA.aF R.aA.aA m;·rw[cg]at u;simp only[go_sem];refine snd _ H ⟨R,out⟩ false u (hj.aA ω) ?_ ?_ ?_ Z.to<;>simp[fE]
 ·rw[cg]at u;have T0:=fJ.aH (R':={R with aF:=0}) (Z.to (W:=wA) (Q:=fB)) rr rfl rfl (λ_ z=>z);simp only[fy.aL]at T0;simp only[go_sem,U,C0,O,q2,q3,lr];generalize a2:H.set r _=H2 at *;have D0:=T0.aA (z2 _ (WX _)) (λy=>y) C0;have D1:=T0.aA (z2 _ ω) (λy=>y) O;have rE:H2[r]?=ar 21 [({R with aF:=0}:fy).aL g ff]:=by rw[<-a2];exact W0 lr
  simp only[fy.aL]at rE;simp only[Yc]at u;by_cases cv:R.aA.aF=m.aE;·simp only[WW cv]at u;simp only[go_sem,WZ cv,XL];refine snd _ H2 ⟨{R with aF:=0},out⟩ true u (RX.aC.aA (x:=⟨{R with aF:=0},out⟩) hj ω) ?_ ?_ ?_ T0<;>simp[fE]
  ·simp only[WY cv]at u;simp only[go_sem,rE,D0,D1,WV cv,X_];have tm:=fJ.aD (Q':=fB) T0 (fq.aC _ _) (λ_ _ y=>y) λL1 x1=>u2.2 L1 H2 r o _ R.aA.aC m.aE x1 (tg (show out.aC.length<=j from hj.2) ω 216 ω);refine fK ⟨u2.1,tm⟩ ?_;intro _ H3 T3;rw[iY];simp only[go_sem];refine snd _ H3 _ true u (RX.aC.aD (x:=({r:={R with aF:=0,aA:={R.aA with aF:=m.aE}},o:=out}:RX)) hj {gE.aI with aC:=1,aK:=R.aA.aC,aL:=m.aE}) ?_ ?_ ?_ T3<;>simp[fE]
variable {P:Program}{f1 f2 f3 f4 f5 f:FuncId}
theorem fJ.aO {W:Nat->Prop}{L h r o R out H g f n}{Hb:fu}(T:fJ W fB L h r o ⟨R,out⟩ H) (row:H[r]?=some (some (.aA 21 [R.aL g f] false))) (X:fq fB H Hb) (hW:∀k,k≠0->W k) (hb:R.aJ.length<=2^30):
  ∃g' H',iL Hb 1 8 g [[.aD .i64 n]]=some (g',H')/\g'.aH=true/\Hb.length<=H'.length/\(∀m,L m=0->m<h.length\/H.length<=m->m<Hb.length->H'[m]?=Hb[m]?)/\H'[r]?=some (some (.aA 21 [R.aL g f] false)) /\
   ic H' g'/\Rd (λ_=>True) H' (f_ (R.aJ++[n])) g' /\
   fJ W fB L h r o ⟨{R with aJ:=R.aJ++[n]},out⟩ (H'.set r (some (.aA 21 [({R with aJ:=R.aJ++[n]}:fy).aL g' f] false))):=by
 obtain⟨L1,x1,l1,I⟩:=T;obtain⟨g1,f1,ra⟩:=x1.r;obtain⟨ma,ca,aa,oa⟩:=x1.o;have:=ra.aA.symm.trans row;simp only[W8,fC.aA.injEq,Yv,fy.aL]at this;obtain⟨-,⟨⟨-,-,-,-,-,-,-,-,-,-,-,-,-,-,-,-,-,rfl,rfl,-⟩,-⟩,-⟩:=this;have lr:=(WR.1 ra.aA).1;have hl:=X.1;have kg:ik (λm=>L1 m=1/\m<H.length) H Hb:=λm hm y hy=>X.aA hy;have og:fA (f_ R.aJ) (λm=>(L1 m=1/\m<H.length)\/Hb.length<=m) Hb g1:=fA.aC _ (λm hm=>.inl hm) kg _ (fA.lt _ _ ra.go);have cg:ic Hb g1:=ra.gc.aA (fA.lt _ _ ra.go) kg;obtain⟨g',H',s1,s2,s3,s4⟩:=Em (bytes:=8) (es:=[[.aA .i64 n]]) (ys:=[[.aD .i64 n]]) og cg (fq.aC _ _) (by simp[fQ,fU,fA]) (λm hm=>.inr hm) (by simp;omega);have kk:∀m,m<Hb.length->L1 m≠1->H'[m]?=Hb[m]?:=λm hm hn=>s4.2 m hm (λz=>by rcases z with z | z;exact hn z.1;omega);have E:=s4.1;have e4:f_ (R.aJ++[n])=.sl 1 (R.aJ.map (λn=>[D.aA .i64 n])++[[.aA .i64 n]]):=by simp[f_]
 have rr:H'[r]?=some (some (.aA 21 [R.aL g1 f1] false)):=(kk r ω (by rw[ra.lr];omega)).trans (X.aA ra.aA);have ne:∀m,m≠r->(H'.set r (some (.aA 21 [({R with aJ:=R.aJ++[n]}:fy).aL g' f1] false)))[m]?=H'[m]?:=λm hm=>WS (λe=>hm e.symm);have st:∀m,m<H.length->L1 m≠1->m≠r->(H'.set r (some (.aA 21 [({R with aJ:=R.aJ++[n]}:fy).aL g' f1] false)))[m]?=H[m]?:=λm hm h1 hr=>(ne m hr).trans ((kk m ω h1).trans (X.2 m hm (λy=>y)));have nr:∀m,L1 m≠6->m≠r:=λm hm e=>hm (e▸ra.lr);have old:∀{m},m<H.length->me L1 fB Hb.length H'.length 1 m=L1 m:=fun {m} hm=>mM (.inr ⟨λy=>y,ω⟩);have u:=fA.lt _ _ s2;have kf:ik (λm=>L1 m=2/\m<H.length) H (H'.set r (some (.aA 21 [({R with aJ:=R.aJ++[n]}:fy).aL g' f1] false))):=λm hm y hy=>(st m hm.2 ω (nr m ω)).trans hy;have kn:ik (λm=>((L1 m=1/\m<H.length)\/Hb.length<=m)/\m<H'.length) H' (H'.set r (some (.aA 21 [({R with aJ:=R.aJ++[n]}:fy).aL g' f1] false))):=λm hm y hy=>(ne m (by rcases hm.1 with z | z;exact nr m ω;omega)).trans hy;refine⟨g',H',s1,s2.aA,E,λm h0 hlt hm=>kk m hm ?_,rr,s3,?_,fJ.aE l1 I (λ_ _ y=>y) ⟨me L1 fB Hb.length H'.length 1,⟨⟨g',f1,W0 ω,?_,?_,?_,?_,(old lr).trans ra.lr⟩,⟨ma,ca,aa,oa.aC (λm hm _=>old hm) λm hm c=>st m hm ω (nr m ω)⟩,λm hm=>by rw[W4];exact vj (λz=>by have:=x1.lt m z;omega) hm⟩,λm hm _=>old hm,?_⟩⟩
 ·rcases hlt with hlt | hlt;·rw[l1 m hlt (.inr (λz=>z)),h0];omega
  ·rw[x1.ge hlt];omega
 ·rw[e4];exact fA.rd _ (λ_ _=>Xb) _ s2
 ·show fA (f_ (R.aJ++[n])) _ _ _;rw[e4];refine fA.aC _ (λm hm=>?_) kn _ u;rcases hm.1 with z | z;·exact (old z.2).trans z.1
  ·exact vk (x1.ge ω) hm.2 (.inr z)
 ·exact s3.aA u kn
 ·exact fA.aC _ (λm hm=>(old hm.2).trans hm.1) kf _ (fA.lt _ _ ra.fo)
 ·exact ra.fc.aA (fA.lt _ _ ra.fo) kf
 ·refine (X.aD s4 (F'':=λm=>W (L1 m)\/fB m) (λ_ _ y=>y.elim) (λm hm y=>.inl (by rcases y with y | y;exact hW _ (by rw[y.1];omega);omega))).aD (fq.aH (F:=λm=>m=r) _ (λ_=>rfl)) (λ_ _ y=>y) (λm _ y=>.inl (by rw[y];exact hW _ (by rw[ra.lr];omega)))
def AJ (P:Program)(f:FuncId):Prop:=fZ P f=true/\∀(L:Nat->Nat)(h:fu)(r o:Nat)(x:RX)(k j:Nat)(m:fF)(a:List AV),iv L h r o x->x.r.aG k->k+1<2^28->x.aC j->j<2^20->mw L h m a->
 fO P f [.aF [.aA r 21 0 0,.aA o 5 0 0],.aF a] h λ_ h'=>fJ wA fB L h r o (x.aU m) h'
theorem Uz (hf:Is P f (CW f1 f2 f3 f4 f5))(u1:oM P f1)(u2:vW P f2)(u3:sw P f3)(u4:vX P f4)(u5:xV P f5):AJ P f:=by
 refine⟨hf.2,λL h r o x k j m a hx hfit hk hj hj2 hm=>gy hf ?_⟩;obtain⟨G,hr,h0⟩:=id hm;obtain⟨e,d,rfl,he,hd⟩:=qK hr;have ap:=hx.aC;obtain⟨R,out⟩:=x;simp only at hfit;obtain⟨H,hH⟩:∃H,H=h++[some (fC.aA 2 [[.aA r 21 0 0,.aA o 5 0 0]] false)]++[some (fC.aA 17 [m.aF e d] false)]:=⟨_,rfl⟩;have X1:fq fB h H:=by rw[hH];exact fq.b2 _ _
 have lH:H.length=h.length+2:=by rw[hH];simp
 have C0:H[h.length]?=ar 2 [[.aA r 21 0 0,.aA o 5 0 0]]:=by rw[hH];exact kr _ _ _
 have C1:H[h.length+1]?=ar 17 [m.aF e d]:=by rw[hH];exact jy _ _ _
 have hx1:=hx.up X1;have z2:∀m,h.length<=m->¬wA (L m):=λm e=>by rw[hx.ge e];exact kl
 obtain⟨g,ff,ra⟩:=hx1.r;have rr:=ra.aA;have rr':=rr;have C1':=C1;have rg:=fA.rd _ (F':=λ_=>True) (λ_ _=>Xb) _ ra.go;have sg:=ra.go.aA;simp only[fy.aL]at rr';simp only[fF.aF]at C1' hH;have gl:=hfit.aZ;simp only[CW,go_sem,fF.aF,he.aA,hd.aA];rw[<-hH];clear hH;have ex:∀(c:¬R.aE=1\/m.ok=false\/m.aE∈R.aJ\/R.bz m.aE=false),(RX.aU ⟨R,out⟩ m)=⟨R,out⟩:=λc=>WW c;by_cases c1:R.aE=1
 ·simp only[go_sem,rr',C1',WZ c1,XL];cases c2:m.ok;·simp only[go_sem,X_];rw[ex (.inr (.inl c2))];exact fJ.aC X1 hx1.to
  ·simp only[go_sem,rr',C0,C1',c2,XL];refine gH u1.1 (u1.2 (λ_=>True) H R.aJ g m.aE rg ω) ?_;rw[iY];cases c3:decide (m.aE∈R.aJ)
   ·simp only[go_sem,rr',C0,C1'];refine gH u2.1 (u2.2 H r R m.aE ⟨g,ff,rr⟩ (hfit.aL ω) (hfit.aM δ)) ?_;rw[iY];cases c4:R.bz m.aE;·simp only[go_sem,rr',C0,C1',X_,c2];rw[ex (.inr (.inr (.inr c4)))];exact fJ.aC X1 hx1.to
    ·have n4:¬(¬R.aE=1\/m.ok=false\/m.aE∈R.aJ\/R.bz m.aE=false):=by
      rintro (z | z | z | z);·exact z c1
      ·rw[c2]at z;cases z
      ·simp at c3;exact c3 z
      ·rw[c4]at z;cases z
     have ev:(RX.aU ⟨R,out⟩ m)=(let y:RX:=⟨{R with aJ:=R.aJ++[m.aE]},out⟩;if y.r.aN.aE y.r.aJ then y.aL else y):=WY n4;rw[ev];clear ex ev;have R3:∀b,(H++[b])[r]?=_:=λb=>(fq.b1 b).aA rr';have D0:∀b,(H++[b])[h.length]?=_:=λb=>(fq.b1 b).aA C0;have D1:∀b,(H++[b])[h.length+1]?=_:=λb=>(fq.b1 b).aA C1';have NR:∀s sz i o' n,s<H.length->ij H.length n (.aA s sz i o')=true:=λs sz i o' n hs=>iN hs;have N1:∀sz i o',ij (h.length+1+1) 1 (.aA r sz i o')=true:=λsz i o'=>iN ω;have N2:∀sz i o',ij (h.length+1+1) 1 (.aA h.length sz i o')=true:=λsz i o'=>iN ω;have N3:∀sz i o',ij (h.length+1+1) 1 (.aA (h.length+1) sz i o')=true:=λsz i o'=>iN ω;simp only[go_sem,kj,rr',C0,C1',XL,c2,R3,D0,D1,lH,N1,N2,N3];obtain⟨g',H',s1,s2,s3,s4,s5,s6,s7,s8⟩:=fJ.aO (n:=m.aE) (hx1.to (W:=wA)) rr (fq.b1 (some (fC.aA 1 [[ι m.aE]] false))) (λ_ z=>z) ω;rw[<-iR (mH H 1 [_] false (some 1) (len:=1) rfl),lH]at s1;rw[s1];obtain⟨R',hR'⟩:∃R':fy,R'={R with aJ:=R.aJ++[m.aE]}:=⟨_,rfl⟩;have fit':R'.aG (k+1):=by rw[hR'];obtain⟨g1,g2,g3,g4,g5,g6,g7,g8,g9,g10,g11,g12,g13,g14,g15⟩:=hfit.aA (Zc k);exact⟨g1,g2,g3,g4,g5,g6,g7,g8,g9,g10,g11,g12,by show (R.aJ++[m.aE]).length<=k+1+1;simp;omega,g14,g15⟩
     have eg':R'.aJ=R.aJ++[m.aE]:=by rw[hR']
     have zrow:∀g f,R'.aL g f=R.aL g f:=λg f=>by rw[hR'];rfl
     have K0:=(s4 h.length (hx.ge (WX _)) (.inl ω) (by simp;omega)).trans (D0 _);have K1:=(s4 (h.length+1) (hx.ge ω) (.inl ω) (by simp;omega)).trans (D1 _);have b2:=h_ H (some (fC.aA 1 [[ι m.aE]] false));rw[lH]at b2;have K2:=(s4 (h.length+2) (hx.ge ω) (.inr ω) (by simp[lH])).trans b2;have lr5:=(WR.1 s5).1;have s5':=s5;simp only[fy.aL]at s5';have w1:(h.length=r)=False:=Xp ω;have w2:(r=h.length)=False:=Xp ω;have w3:(h.length+2=r)=False:=Xp ω;have w4:(r=h.length+2)=False:=Xp ω;have w5:(r=h.length+1)=False:=Xp ω;have w6:(h.length+1=r)=False:=Xp ω;rw[<-hR']at s8;have l8:r<H'.length:=lr5;have r8:(H'.set r (some (.aA 21 [R'.aL g' ff] false)))[r]?=ar 21 [R'.aL g' ff]:=W0 l8;have g8:Rd (λm=>m≠r) (H'.set r (some (.aA 21 [R'.aL g' ff] false))) (f_ R'.aJ) g':=by rw[eg'];obtain⟨L8,x8,-⟩:=s8;obtain⟨g9,f9,ra9⟩:=x8.r;have:=ra9.aA.symm.trans r8;simp only[W8,fC.aA.injEq,Yv,fy.aL]at this;obtain⟨-,⟨⟨-,-,-,-,-,-,-,-,-,-,-,-,-,-,-,-,-,rfl,-⟩,-⟩,-⟩:=this;rw[<-eg'];exact fA.rd _ (λm hm=>by rintro rfl;rw[ra9.lr]at hm;omega) _ ra9.go
     have E0:=s8.aA (z2 _ (WX _)) (λz=>z) C0;have E1:=s8.aA (z2 _ ω) (λz=>z) C1';rw[zrow]at s8 r8 g8 E0 E1;have r8':=r8;simp only[fy.aL]at s8 r8' g8 E0 E1;have ez:(let y:RX:=⟨{R with aJ:=R.aJ++[m.aE]},out⟩;if y.r.aN.aE y.r.aJ then y.aL else y)=if R'.aN.aE R'.aJ then RX.aL ⟨R',out⟩ else ⟨R',out⟩:=by rw[hR']
     rw[ez];simp only[go_sem,kj,K0,K1,K2,s5',s2,gV s2,w2,w4,w5,lr5,ZE,W4];generalize H'.set r _=H2 at *;refine gH u3.1 (u3.2 H2 r R' s8.aF (fit'.aL ω)) ?_;rw[iY];simp only[go_sem,E0,r8',fI.aN];refine gH u4.1 (u4.2 fB _ H2 R'.aN R'.aJ _ _ (w_ R'.aN H2) g8 (fit'.aM δ) (by rw[eg'];simp;omega)) ?_;rw[iY];cases cw:R'.aN.aE R'.aJ;·simp only[go_sem,E0,r8',Xt,XS];exact fJ.aC X1 s8
     ·simp only[go_sem,E0,r8',Yc];have ld:=fJ.aD (Q':=fB) s8 (fq.aC _ _) (λ_ _ y=>y) λL1 x1=>u5.2 L1 H2 r o _ (k+1) j x1 fit' hk (RX.aC.aA (x:=⟨R',out⟩) hj (WX _)) hj2;refine fK ⟨u5.1,ld⟩ ?_;intro _ H3 T3;simp only[go_sem];exact fJ.aC X1 T3
   ·simp only[go_sem,rr',C0,C1',c2];rw[ex (.inr (.inr (.inl (by simpa using c3))))];exact fJ.aC X1 hx1.to
 ·simp only[go_sem,rr',WV c1,X_];rw[ex (.inl c1)];exact fJ.aC X1 hx1.to
variable {P:Program}{f1 f2 f3 f4 f5 f:FuncId}
def xR (P:Program)(f:FuncId):Prop:=fZ P f=true/\∀(L:Nat->Nat)(h:fu)(r o:Nat)(x:RX)(j:Nat)(m:fF)(a:List AV)(G:Nat->Prop)(ok:Bool)(index:Int),iv L h r o x->x.aC j->j<2^20->fH G h m.c a->
 fO P f [.aF [.aA r 21 0 0,.aA o 5 0 0],.aF a,.aE ok,.aD .i64 index] h λ_ h'=>fJ wO fB L h r o (x.aQ m ok index) h'
theorem SL (hf:Is P f (CL f1))(u1:sI P f1):xR P f:=by
 refine⟨hf.2,λL h r o x j m a G ok index hx hj u hr=>gy hf ?_⟩;obtain⟨e,d,rfl,he,hd⟩:=qK hr;simp only[CL,go_sem,fF.aF,he.aA,hd.aA];obtain⟨H,hH⟩:∃H,H=h++[some (fC.aA 2 [[.aA r 21 0 0,.aA o 5 0 0]] false)]++[some (fC.aA 17 [m.aF e d] false)]:=⟨_,rfl⟩;have X1:fq fB h H:=by rw[hH];exact fq.b2 _ _
 simp only[fF.aF]at hH;rw[<-hH];have sd:=u1.2 fB L H r o x {fF.aJ with aC:=4,to:=m.aE,ok:=ok,aA:=index,aM:=m.aM} .aC .aC (hx.up X1) (fA.aD 3) (fA.aD 1) (λ_ z=>z.elim) (tg hj.1 u 168 ω);refine fK ⟨u1.1,sd⟩ ?_;intro _ H2 T2;simp only[go_sem];exact fJ.aC X1 T2
theorem fJ.aS {W:Nat->Prop}{L h r o R out H g f}(T:fJ W fB L h r o ⟨R,out⟩ H) (row:H[r]?=ar 21 [R.aL g f]) (hW:∀k,k≠0->W k) {i:Nat} (hi:i<R.aC.length):
  ∃n j rw gr,jq 4 f (ι i)=some (.aA n 4 j 0)/\H[n]?=some (some (.aA 4 rw gr))/\rw[j]?=some (R.aC[i]).aF/\n≠r/\n<H.length/\(∀m,L m=0->m<h.length\/H.length<=m->m≠n) /\
   ∀w:fS,fJ W fB L h r o ⟨{R with aC:=R.aC.set i w},out⟩ (H.set n (some (.aA 4 (rw.set j w.aF) gr))):=by
 obtain⟨L1,x1,l1,Z⟩:=T;obtain⟨g1,f1,ra⟩:=x1.r;obtain⟨ma,ca,aa,oa⟩:=x1.o;have:=ra.aA.symm.trans row;simp only[W8,fC.aA.injEq,Yv,fy.aL]at this;obtain⟨-,⟨⟨-,-,-,-,-,-,-,-,-,-,-,-,-,-,-,-,-,rfl,rfl,-⟩,-⟩,-⟩:=this;obtain⟨n,off,rw,gr,cs,len,cap,e1,hn,ix,u,O,hd,wr⟩:=Er (j:=i) (d0:=(R.aC[i]).c) ra.fo (by rw[XR,WU hi];rfl);have U:cs=(R.aC[i]).aF:=zB (fU.rd _ (F':=λ_=>True) (λ_ _=>Xb) _ hd);subst U;have hlt:=(WR.1 u).1;have ne:∀m,L1 m≠2->m≠n:=λm hm e=>hm (e▸hn);refine⟨n,off+i,rw,gr,ix,u,O,λe=>by rw[e,ra.lr]at hn;omega,hlt,λm h0 hm=>?_,λw=>?_⟩
 ·rcases hm with hm | hm;·exact ne m (by rw[l1 m hm (.inr (λz=>z)),h0];omega)
  ·omega
 ·have st:∀m,L1 m≠2->(H.set n (some (.aA 4 (rw.set (off+i) w.aF) gr)))[m]?=H[m]?:=λm hm=>WS (λe=>ne m hm e.symm);have I:=wr (λm=>L1 m=2) H w.c w.aF (λ_ z=>z) (λ_ _ _ y=>y) rfl (by simp only[fS.c,fS.aF,fU,fA];exact⟨_,_,rfl,rfl,_,_,rfl,rfl,_,_,rfl,rfl,_,_,rfl,rfl,rfl⟩);refine fJ.aE l1 Z (λ_ _ y=>y) ⟨L1,⟨⟨g1,f1,(st r (by rw[ra.lr];omega)).trans ra.aA,?_,?_,?_,?_,ra.lr⟩,⟨ma,ca,aa,oa.aC (λ_ _ _=>rfl) λm hm c=>st m ω⟩,λm hm=>by rw[W4];exact x1.lt m hm⟩,λ_ _ _=>rfl,fq.aH _ λ_=>.inl (hW _ (by rw[hn];omega))⟩;·exact fA.aC _ (λ_ y=>y) (λm hm y hy=>(st m ω).trans hy) _ ra.go
  ·exact ra.gc.aA ra.go (λm hm y hy=>(st m ω).trans hy)
  ·show fA (.sl 4 ((R.aC.set i w).map fS.c)) _ _ _;rw[Zk];exact I
  ·have hc:=ra.fc;subst e1;obtain⟨row',g',E,h1,h2⟩:=hc;rw[u]at E;simp only[W8,fC.aA.injEq,true_and]at E;obtain⟨rfl,rfl⟩:=E;exact⟨_,_,W0 hlt,h1,λc hc=>by rw[W4];exact h2 c hc⟩
theorem Pd (hf:Is P f yG){h:fu}{n:Nat}{m:fF}{e d:AV} (hq:h[n]?=ar 17 [m.aF e d]) (w:fS):
  fO P f [.aF w.aF,.aA n 17 0 0] h λr h'=>r=.aE (decide (w.aA=m.aE))/\h'=h:=by
 refine kx (tO _ _) (gy hf ?_);have u:∀b,(h++[b])[n]?=_:=λb=>(fq.b1 b).aA hq;simp only[fF.aF]at u;simp only[yG,fS.aF,go_sem,u];exact fq.b1 _
theorem fS.aG.aC {w:fS}(h:w.aG)(m:fF)(hi:0<=m.aA/\m.aA<=2^40):(w.aE m).aG:=by
 obtain⟨h1,⟨h2,h3⟩,h4,h5⟩:=h;unfold fS.aE;split
 ·split;·exact⟨h1,⟨by show 0<=max w.aD (max w.aC m.aA+1);omega,by show max w.aD (max w.aC m.aA+1)<=_;omega⟩,by show 0<=max w.aC m.aA;omega,by show max w.aC m.aA<=_;omega⟩
  ·exact⟨h1,⟨by show 0<=max (w.aC+1) (min (w.aD-1) (m.aA+1));omega,by show max (w.aC+1) (min (w.aD-1) (m.aA+1))<=_;omega⟩,h4,h5⟩
 ·exact⟨h1,⟨h2,h3⟩,h4,h5⟩
theorem fy.aG.bH {k:Nat}{x:fy}(h:x.aG k)(i:Nat){w:fS}(hw:w.aG):({x with aC:=x.aC.set i w}:fy).aG k:=by
 obtain⟨g1,g2,g3,g4,g5,g6,g7,g8,g9,U,O,I,E,e,u⟩:=h;refine⟨g1,g2,g3,g4,g5,g6,g7,g8,g9,U,O,I,E,⟨by show (x.aC.set i w).length<=21;rw[W4];exact e.1,λy hy=>?_⟩,u⟩;rcases Y3 hy with z | z;·exact e.2 y z
 ·rw[z];exact hw
def AF (P:Program)(f:FuncId):Prop:=fZ P f=true/\∀(L:Nat->Nat)(h:fu)(r o:Nat)(x:RX)(k j:Nat)(m:fF)(a:List AV),iv L h r o x->x.r.aG k->k<=2^28->x.aC j->j<2^20->mw L h m a->0<=m.aA/\m.aA<=2^40->
 fO P f [.aF [.aA r 21 0 0,.aA o 5 0 0],.aF a] h λ_ h'=>fJ wA fB L h r o (x.aP m) h'
theorem TJ {f6:FuncId}(hf:Is P f (CM f1 f2 f3 f4 f5 f6))(u1:Is P f1 yG)(u2:xH P f2)(u3:Ap P f3)(u4:vQ P f4)(u5:qm P f5)(u6:sM P f6):AF P f:=by
 refine⟨hf.2,λL h r o x k j m a hx u hk hj af hm a7=>gy hf ?_⟩;obtain⟨G,hr,h0⟩:=id hm;obtain⟨e,d,rfl,he,hd⟩:=qK hr;have ap:=hx.aC;obtain⟨R,out⟩:=x;simp only at u;obtain⟨H,hH⟩:∃H,H=h++[some (fC.aA 2 [[.aA r 21 0 0,.aA o 5 0 0]] false)]++[some (fC.aA 17 [m.aF e d] false)]:=⟨_,rfl⟩;have X1:fq fB h H:=by rw[hH];exact fq.b2 _ _
 have lH:H.length=h.length+2:=by rw[hH];simp
 have C0:H[h.length]?=ar 2 [[.aA r 21 0 0,.aA o 5 0 0]]:=by rw[hH];exact kr _ _ _
 have C1:H[h.length+1]?=ar 17 [m.aF e d]:=by rw[hH];exact jy _ _ _
 have a1:=hx.up X1;have z2:∀m,h.length<=m->¬wA (L m):=λm e=>by rw[hx.ge e];exact kl
 obtain⟨g,ff,ra⟩:=a1.r;have rr:=ra.aA;have I:=rr;have a6:=C1;have rf:=fA.rd _ (F':=λm=>L m=2) (λ_ y=>y) _ ra.fo;have a8:=u.aE;simp only[fy.aL]at I;simp only[fF.aF]at a6 hH;simp only[CM,go_sem,fF.aF,he.aA,hd.aA];rw[<-hH];clear hH;simp only[go_sem,I];refine gH u2.1 (u2.2 _ H R.aC ff f1 [] [.aA (h.length+1) 17 0 0] (λw=>decide (w.aA=m.aE)) rf ω u1.2 (λw _=>Pd u1 C1 w)) ?_;by_cases c1:R.aE=2
 ·cases c2:rO R.aC m.aE with
  | none=>
   have e1:(RX.aP ⟨R,out⟩ m)=⟨R,out⟩:=by unfold RX.aP;rw[WY (by simpa using c1)];simp only[c2]
   rw[e1,DB c2];have zn:(-1:Int)<0:=ω;simp only[go_sem,I,C0,WZ c1,XL,WZ zn];exact fJ.aC X1 a1.to
  | some i=>
   obtain⟨e1,hi⟩:=DD (k:=0) c2;rw[Y7]at e1;rw[e1];have zn:¬(i:Int)<0:=ω;have eh:(RX.aP ⟨R,out⟩ m)=(let f:=(R.aC[i]).aE m
    let y:RX:=⟨{R with aC:=R.aC.set i f},out⟩
    let z:=if m.ok then y.aM else y
    if m.ok=false\/f.aD<=z.r.aO then z.to f else z):=by
    unfold RX.aP;rw[WY (by simpa using c1)];simp only[c2,WU hi,XJ]
   obtain⟨n,jj,rw,gr,w1,w2,w3,w4,w5,w6,w7⟩:=fJ.aS (a1.to (W:=wA)) rr (λ_ z=>z) hi;have ww:=(a8.2 _ (Xq hi)).aC m a7;have ws:=a8.2 _ (Xq hi);rw[eh];clear eh;generalize R.aC[i]=w at *;have pc:jV H (.aA n 4 jj 0)=some w.aF:=by simp[jV,w2,w3]
   have R3:∀b,(H++[b])[r]?=_:=λb=>(fq.b1 b).aA I;have D0:∀b,(H++[b])[h.length]?=_:=λb=>(fq.b1 b).aA C0;have D1:∀b,(H++[b])[h.length+1]?=_:=λb=>(fq.b1 b).aA a6;have D2:∀b,(H++[b])[n]?=_:=λb=>(fq.b1 b).aA w2;have N1:∀sz i o',ij (h.length+1+1) 1 (.aA r sz i o')=true:=λsz i o'=>iN ω;have N2:∀sz i o',ij (h.length+1+1) 1 (.aA h.length sz i o')=true:=λsz i o'=>iN ω;have N3:∀sz i o',ij (h.length+1+1) 1 (.aA (h.length+1) sz i o')=true:=λsz i o'=>iN ω;have N4:∀sz i o',ij (h.length+1+1) 1 (.aA n sz i o')=true:=λsz i o'=>iN ω;have ld:∀b,iK (H++[b]) true 4 (.aA n 4 jj 0)=some (.aF w.aF):=λb=>by rw[jN (cs:=w.aF) (by simp[jV,D2,w3])];rfl
   have E:∀a b,(H++[a]).set (h.length+2) b=H++[b]:=λa b=>by rw[Zv _ _ ω,lH];simp
   simp only[fS.aF]at ld;simp only[go_sem,kj,I,C0,WZ c1,XL,WV zn,R3,D0,D1,lH,N1,N2,N3,N4,w1,ld,E];have ae:∀b,fH G (H++[b]) m.c (m.aF e d):=λb=>fH.aA (λ_ y=>y) ((X1.tr (fq.b1 b)).aE _) _ _ hr;have hc:=u3.2 G (H++[none]) w m _ (ae none) ws.aA a7;simp only[fF.aF,fS.aF]at hc;refine gH u3.1 hc ?_;have q0:(h.length=h.length+2)=False:=Xp ω;have q1:(h.length+2=h.length)=False:=Xp ω;have q2:(h.length+1=h.length+2)=False:=Xp ω;have q3:(h.length+2=h.length+1)=False:=Xp ω;have q4:(r=h.length+2)=False:=Xp ω;have q5:(h.length+2=r)=False:=Xp ω;have q6:(n=h.length+2)=False:=Xp ω;have q7:(h.length+2=n)=False:=Xp ω;have b2:∀b,(H++[b])[h.length+2]?=some b:=λb=>by rw[<-lH];exact h_ H b
   have ac:∀b,((jq 4 ff (ι i)).bind λp=>iK (H++[b]) true 4 p)=some (.aF w.aF):=λb=>by rw[w1];exact ld b
   simp only[go_sem,kj,R3,D0,D1,D2,lH,w1,ld,E,b2,ZD,ZE,WT];have a4:=(WR.1 w3).1;have Z:(rw.modify jj λx=>(((x.set 0 (ι (w.aE m).aA)).set 1 (ι (w.aE m).aD)).set 2 (ι (w.aE m).aC)).set 3 (ι (w.aE m).aI))=rw.set jj (w.aE m).aF:=by
    apply XT;intro q;rw[Zb,Yz];by_cases c:jj=q
    ·subst c;have aa:rw[jj]=w.aF:=by have:=w3;rw[WU a4]at this;exact ZH this
     simp[a4,aa,fS.aF]
    ·simp[c]
   rw[WW a4,Z];have T1:=w7 (w.aE m);obtain⟨F,hF⟩:∃F,F=w.aE m:=⟨_,rfl⟩;rw[<-hF]at T1 ww ⊢;have sA:∀v b,(H++[b]).set n v=H.set n v++[b]:=λv b=>List.set_append_left _ _ w5;rw[sA];obtain⟨L1,x0,l1,e1⟩:=T1;have z1:∀m,h.length<=m->¬wA (L1 m):=λm hm=>by
    by_cases c:m<H.length
    ·rw[l1 m c (.inr (λz=>z))];exact z2 m hm
    ·rw[x0.ge (by rw[W4];omega)];exact kl
   have x1:=x0.up (fq.b1 (some (fC.aA 4 [F.aF] false)));have e3:=e1.aD (fq.b1 (some (fC.aA 4 [F.aF] false))) (F'':=λm=>wA (L m)\/fB m) (λ_ _ z=>z) (λ_ _ z=>z.elim);have T2:=fJ.aE l1 e3 (λ_ _ y=>y) (x1.to (W:=wA) (Q:=fB));have U:({R with aC:=R.aC.set i F}:fy).aG k:=u.bH i ww;have K0:=T2.aA (z2 _ (WX _)) (λy=>y) C0;have K1:=T2.aA (z2 _ ω) (λy=>y) a6;have K2:(H.set n (some (.aA 4 (rw.set jj F.aF) gr))++[some (fC.aA 4 [F.aF] false)])[h.length+2]?=ar 4 [F.aF]:=by have:=h_ (H.set n (some (.aA 4 (rw.set jj F.aF) gr))) (some (fC.aA 4 [F.aF] false));rw[W4,lH]at this;exact this
   simp only[fS.aF]at K0 K1 K2 T2 x1 e3 ⊢;clear T2;generalize hH3:(H.set n _++_:fu)=H3 at *;simp only[go_sem];obtain⟨g3,ff3,ab⟩:=x1.aA;have a3:=ab;simp only[fy.aL]at a3;clear ac sA E Z;have a2:∀(H4:fu)(y:RX),y.aC j->y.r.aA=R.aA->fJ wA fB L1 H3 r o y H4->fO P f6 [.aF [.aA r 21 0 0,.aA o 5 0 0],.aF F.aF] H4 λ_ h'=>fJ wA fB L1 H3 r o (y.to F) h':=λH4 y yf yh T=>fJ.aD (Q':=fB) T (fq.aC _ _) (λ_ _ y=>y) λL1 x1=>(u6.2 L1 H4 r o y F x1 ww.aA (by rw[yh];exact u.bA hk) (tg yf.1 af 168 ω)).aA λ_ _ b=>b.aG nZ;simp only[fS.aF]at a2;have fin:∀{y H4},fJ wA fB L1 H3 r o y H4->fJ wA fB L h r o y H4:=λT=>fJ.aC X1 (fJ.aE l1 e3 (λ_ _ y=>y) T);have yf:(⟨{R with aC:=R.aC.set i F},out⟩:RX).aC j:=hj;cases c3:m.ok;·simp only[go_sem,K0,K1,K2,c3,X_,true_or,Yc,Xt,XS];refine fK ⟨u6.1,a2 H3 _ yf rfl x1.to⟩ ?_;intro _ H4 T4;simp only[go_sem];exact fin T4
   ·simp only[go_sem,K0,K1,c3,Yc,Bool.true_eq_false,false_or];have st:=u4.2 L1 H3 r o _ k x1 U hk;refine fK ⟨u4.1,st⟩ ?_;intro _ H4 T4;have M0:=T4.aA (z1 _ (WX _)) (λy=>y) K0;have M1:=T4.aA (z1 _ ω) (λy=>y) K1;have M2:=T4.aA (z1 _ ω) (λy=>y) K2;have a5:(RX.aM ⟨{R with aC:=R.aC.set i F},out⟩).r.aG k:=U.aR;have O:(RX.aM ⟨{R with aC:=R.aC.set i F},out⟩).r.aA=R.aA:=by show (fy.aY _).aA=_;unfold fy.aY;split<;>rfl
    have a9:(RX.aM ⟨{R with aC:=R.aC.set i F},out⟩).aC j:=hj;generalize (RX.aM ⟨{R with aC:=R.aC.set i F},out⟩)=y at *;simp only[go_sem,M0,M1,M2,c3,XL];refine gH u5.1 (u5.2 H4 r y.r T4.aF (a5.aC hk)) ?_;rw[iY];by_cases c4:F.aD<=y.r.aO;·rw[WW c4];simp only[go_sem,M0,M1,M2,c3,WZ c4];refine fK ⟨u6.1,a2 H4 y a9 O T4⟩ ?_;intro _ H5 T5;simp only[go_sem];exact fin T5
    ·rw[WY c4];simp only[go_sem,M0,M1,M2,c3,WV c4];exact fin T4
 ·have e1:(RX.aP ⟨R,out⟩ m)=⟨R,out⟩:=by unfold RX.aP;rw[WW (by simpa using c1)]
  rw[e1];simp only[go_sem,I,C0,WV c1,X_];exact fJ.aC X1 a1.to
end Glb
