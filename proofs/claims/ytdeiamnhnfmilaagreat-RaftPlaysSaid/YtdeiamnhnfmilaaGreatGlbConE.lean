/-
  A library of its own.
-/
import Derived.Test.YtdeiamnhnfmilaaGreatGlbConD
import Derived.Test.YtdeiamnhnfmilaaGreatGlbGetA
set_option linter.unusedSimpArgs false
set_option linter.unusedVariables false
set_option maxRecDepth 10000
set_option maxHeartbeats 8000000
namespace Glb
open Go
theorem Nf (Kn:eZ->Prop)(Ks:AX->eZ->Prop)(st:St):qz Kn Ks .aA ⟨none,false,st⟩=Kn st.h:=by simp[qz]
theorem Ng (Kn:eZ->Prop)(Ks:AX->eZ->Prop)(x:AX)(st:St):qz Kn Ks .aB ⟨some x,false,st⟩=Ks x st.h:=by simp[qz]
def DE (P:Program)(f:FuncId):Prop:=fI P f=true/\∀(Y:Yl)(J:Nat->eZ->Prop)(Ks:AX->eZ->Prop)(G:Nat->Prop)(h:eZ)(nb:Nat)(a:AV)(l:List gj),
 (∀avs h (R R':Option AX->eZ->Prop),(∀j h,R j h->R' j h)->Y avs h R->Y avs h R')->l.length<=2^40->J l.length h->
 (∀k h',J k h'->h'[nb]?=some (some (.aA 1 [[a]] false))/\Rd G h' (f_ l) a)->
 (∀k h' d (R:Option AX->eZ->Prop) (hk:k<l.length),J (k+1) h'->Rd G h' (fT l[k].aA) d->(∀h2,J k h2->R none h2)->(∀x h2,Ks x h2->R (some x) h2)->Y [.aA .i64 k,.aE [.aA .i64 l[k].aB,.aA .i64 l[k].aC,d]] h' R)->
 tp P f [.aC nb 1 0 0] h Y (J 0) Ks
theorem K7 {P:Program}{f:FuncId}(hf:vU P true f xR):DE P f:=by
 refine⟨hf.1,λY J Ks G h nb a l hY hl u hJ hB=>Sd hf.2 rfl (Wd rfl) λy=>?_⟩;show iA P y Y xR.aA ⟨none,false,⟨[(0,.aO (.func (.yield y) #[] #[])),(1,.aC nb 1 0 0)],[],h⟩⟩ (qz (J 0) Ks);obtain⟨b1,hr⟩:=hJ _ h u;have la:g_ a=some (.aA .i64 l.length):=by have:=hr.aB;simpa [f_] using this
 have e0:IntKind.i64.wrap ((l.length:Int)-1)=l.length-1:=fQ (by omega);simp only[xR,go_sem,b1,la,e0];obtain⟨I,hI⟩:∃I:Nat->fY->eZ->Prop,∀m L h',I m L h'↔lk 0 L=.aO (.func (.yield y) #[] #[])/\lk 1 L=.aC nb 1 0 0/\lk 3 L=.aA .i64 (m-1)/\J m h'/\m<=l.length:=⟨_,λ_ _ _=>Wu⟩;refine SU hY I l.length ((hI _ _ _).2 ⟨by simp[fi,ga],by simp[fi,ga],by simp[fi],u,by omega⟩) ?_;intro m L h' hh;obtain⟨k0,k1,k3,b,hk⟩:=(hI _ _ _).1 hh;obtain⟨b1,hr⟩:=hJ m h' b;simp only[go_sem,k3];refine gx (λck=>?_) (λck=>?_)
 ·simp at ck;obtain⟨k,rfl⟩:∃k,m=k+1:=⟨m-1,by omega⟩;have t:k<l.length:=by omega
  have ek:((k+1:Nat):Int)-1=k:=by omega
  have e1:IntKind.i64.wrap ((k:Int)-1)=k-1:=fQ (by omega);rw[ek]at k3;obtain⟨p,cs,i1,i2,i3⟩:=Rd.aD hr .i64 (i:=(k:Int)) (d:=l[k].c) (by omega) (by rw[show ((k:Int)).toNat=k by omega,VE,Vi t];rfl);obtain⟨d,rfl,hd⟩:=Ia i3;have ld:gX h' true 3 p=some (.aE [.aA .i64 l[k].aB,.aA .i64 l[k].aC,d]):=by rw[hP i2];rfl
  simp only[go_sem,k0,k1,k3,b1,i1,ld];refine hB k h' d _ t b hd ?_ ?_;·intro h2 E;simp only[go_sem,WO,Vq,k3,e1];exact⟨k,by omega,(hI _ _ _).2 ⟨by simp[fi,k0],by simp[fi,k1],by simp[fi],E,by omega⟩⟩
  ·intro x h2 C;simp only[go_sem,Wa,Vt,Ng];exact C
 ·simp at ck;have:m=0:=by omega
  subst this;simp only[go_sem,Nf];exact b
def nU (l:List gj):Nat->Option (fG×Nat)
 | 0=>none
 | k+1=>match l[k]? with
  | none=>nU l k
  | some e=>if e.aC=2/\(gZ e.aA).2=0 then some ((gZ e.aA).1,k) else nU l k
def fV.aI (x:fV)(k:Nat):fG×Int:=match nU x.aA.es k with
 | none=>(x.aC,x.aA.aA)
 | some (c,k)=>(c,x.aA.aA+1+k)
def fV.of (x:fV):fG×Int:=x.aI x.aA.es.length
theorem fV.aT {x:fV}{k:Nat}(hk:k<x.aA.es.length):x.aI (k+1)=if x.aA.es[k].aC=2/\(gZ x.aA.es[k].aA).2=0 then ((gZ x.aA.es[k].aA).1,x.aA.aA+1+k) else x.aI k:=by
 have e1:nU x.aA.es (k+1)=if x.aA.es[k].aC=2/\(gZ x.aA.es[k].aA).2=0 then some ((gZ x.aA.es[k].aA).1,k) else nU x.aA.es k:=by rw[nU,Vi hk]
 unfold fV.aI;rw[e1];by_cases c:x.aA.es[k].aC=2/\(gZ x.aA.es[k].aA).2=0;·rw[Vf c,Vf c]
 ·rw[Ve c,Ve c]
structure fV.aL (x:fV):Prop where
 aA:0<=x.aA.aA/\x.aA.aA<=2^41
 aD:x.aA.es.length<=2^40
 aC:∀e∈x.aA.es,gK e.aA/\e.aA.length<=2^37
 aB:x.aC.aF (2^40)
def vW (P:Program)(f:FuncId):Prop:=fI P f=true/\∀(G:Nat->Prop)(h:eZ)(x:fV)(ags:List AV),fu G h x.c ags->x.aL->
 fy P f [.aE ags] h λr h'=>∃cs,r=.aI [.aE cs,.aA .i64 x.of.2]/\fW x.of.1.c (λm=>h.length<=m) h' cs/\eY fj h h'
def DG (P:Program)(f sf:FuncId):Prop:=fI P f=true/\∀(h:eZ)(a:AV),a.aG=true->fy P f [a] h λr h'=>r=.aM sf [] [.aC h.length 1 0 0]/\h'[h.length]?=some (some (.aA 1 [[a]] false))/\eY fj h h'
theorem K6 {P:Program}{f sf:FuncId}(hf:Is P f (Cd sf)):DG P f sf:=by refine⟨hf.2,λh a sa=>fN hf ?_⟩;simp only[Cd,go_sem,sa,gH sa];exact eY.b1 _
theorem HK {x:fG}{F:Nat->Prop}{h:eZ}{a:List AV}(hh:fW x.c F h a):∃o n e,a=[o,n,e]/\e_ (fK x.aA) F h o/\e_ (fK x.aB) F h n/\e_ (fK x.aC) F h e:=by simp only[fG.c,fW]at hh;obtain⟨o,_,rfl,ho,n,_,rfl,hn,e,_,rfl,he,rfl⟩:=hh;exact⟨o,n,e,rfl,ho,hn,he⟩
theorem Qf {P:Program}{f g1 g2 g3 sf:FuncId}(hf:vU P false f (uO g1 g2 g3))(h1:DG P g1 sf)(hs:DE P sf)(h2:tF P g2)(h3:vk P g3):vW P f:=by
 refine⟨hf.1,λG h x ags ha hR=>R8 hf.2 (Wd rfl) ?_⟩;obtain⟨e,o,n,l,s,rfl,he,ho,hn,hl,hsn⟩:=kW ha;show iA P 0 (λ_ _ _=>False) (uO g1 g2 g3).aA ⟨none,false,⟨[(0,.aE (x.aG e o n l s))],[],h⟩⟩ (y1 (uO g1 g2 g3).aB _);simp only[uO,fV.aG,go_sem,he.aA,ho.aA,hn.aA,hl.aA,hsn.aA];obtain⟨H,hH⟩:∃H,H=h++[some (fh.aA 10 [[.aA .i64 x.aD,.aA .i64 x.aB,.aA .i64 x.aE,.aA .i64 x.aA.aA,.aA .i64 x.aA.aB,e,o,n,l,s]] false)]++[some (.aA 3 [[.aB,.aB,.aB]] false)]++[some (.aA 1 [[.aA .i64 0]] false)]:=⟨_,rfl⟩;have B0:H[h.length]?=some (some (.aA 10 [[.aA .i64 x.aD,.aA .i64 x.aB,.aA .i64 x.aE,.aA .i64 x.aA.aA,.aA .i64 x.aA.aB,e,o,n,l,s]] false)):=by rw[hH];exact oS _ _ _ _
 have B1:H[h.length+1]?=some (some (.aA 3 [[.aB,.aB,.aB]] false)):=by rw[hH];exact pG _ _ _ _
 have B2:H[h.length+1+1]?=some (some (.aA 1 [[.aA .i64 0]] false)):=by rw[hH];exact rT _ _ _ _
 have X0:eY fj h H:=by rw[hH];exact eY.b3 _ _ _
 have L0:H.length=h.length+3:=by rw[hH];simp
 rw[<-hH];clear hH;have hb:=hR.aA;have hlen:=hR.aD;have hcf:=hR.aB;obtain⟨n0,hn0⟩:∃n,n=h.length:=⟨_,rfl⟩;rw[<-hn0]at B0 B1 B2 L0 ⊢;refine fq ⟨h1.1,h1.2 H e he.aA⟩ ?_;rintro _ H3 ⟨rfl,D0,X3⟩;simp only[go_sem];have he3:=(he.up X0).up X3;have C0:=X3.aA B0;have C1:=X3.aA B1;have C2:=X3.aA B2;have l3:n0+3<=H3.length:=by have:=X3.1;omega
 obtain⟨J,hJ⟩:∃J:Nat->eZ->Prop,∀k h',J k h'↔eY fj H3 h'/\x.of=x.aI k/\k<=x.aA.es.length:=⟨_,λ_ _=>Wu⟩;obtain⟨Ks,hKs⟩:∃Ks:AX->eZ->Prop,∀y h',Ks y h'↔y=.aB/\∃h1 a b c,eY fj H3 h1/\fW x.of.1.c (λm=>H3.length<=m) h1 [a,b,c]/\h'=(h1.set (n0+1) (some (.aA 3 [[a,b,c]] false))).set (n0+1+1) (some (.aA 1 [[.aA .i64 x.of.2]] false)):=⟨_,λ_ _=>Wu⟩;refine SX (gf:=sf) (cs:=[.aC H.length 1 0 0]) (Kn:=J 0) (Ks:=Ks) (by simp[St.aA,fi]) hs.1 (hs.2 _ J Ks G H3 _ e x.aA.es (Lf _ _ _ _) hlen ((hJ _ _).2 ⟨eY.aC _ _,rfl,Vg _⟩) ?_ ?_) ?_ ?_;·intro k h' hk;obtain⟨hx,-,-⟩:=(hJ _ _).1 hk;exact⟨hx.aA D0,he3.up hx⟩
 ·intro k h' d R hk hjk hd hn' hs';obtain⟨hx,hof,-⟩:=(hJ _ _).1 hjk;rw[Ld _ _ _ _ _ _ _ rfl];have sd:=hd.aA;have mem:=hR.aC _ (VU hk);have step:x.aI (k+1)=if x.aA.es[k].aC=2/\(gZ x.aA.es[k].aA).2=0 then ((gZ x.aA.es[k].aA).1,x.aA.aA+1+k) else x.aI k:=by
   have e1:nU x.aA.es (k+1)=if x.aA.es[k].aC=2/\(gZ x.aA.es[k].aA).2=0 then some ((gZ x.aA.es[k].aA).1,k) else nU x.aA.es k:=by rw[nU,Vi hk]
   unfold fV.aI;rw[e1];by_cases c:x.aA.es[k].aC=2/\(gZ x.aA.es[k].aA).2=0;·rw[Vf c,Vf c]
   ·rw[Ve c,Ve c]
  rw[step]at hof;generalize x.aA.es[k]=y at *;simp only[qO,List.zip_cons_cons,List.zip_nil_right,go_sem,sd];have ek:k<=x.aA.es.length:=by omega
  have w1:IntKind.i64.wrap (x.aA.aA+1)=x.aA.aA+1:=fQ (by omega);have w2:IntKind.i64.wrap (x.aA.aA+1+(k:Int))=x.aA.aA+1+k:=fQ (by omega);by_cases c1:y.aC=2
  ·simp only[go_sem,Vc c1,Vq];have Xa:eY fj h' (h'++[some (.aA 3 [[.aA .i64 y.aB,.aA .i64 y.aC,d]] false)]):=eY.b1 _;generalize h'++[some (fh.aA 3 [[.aA .i64 y.aB,.aA .i64 y.aC,d]] false)]=H4 at *;refine fq ⟨h2.1,h2.2 G H4 y.aA d (hd.up Xa) mem.1 mem.2⟩ ?_;rintro _ H5 ⟨ags,rfl,hown,hx5⟩;obtain⟨a,b,c,rfl,oa,ob,oc⟩:=HK hown;have X5:=(hx.tr Xa).tr hx5;have E0:=X5.aA C0;have E1:=X5.aA C1;have E2:=X5.aA C2;have l5:=X5.1;have X6:eY fj H5 (H5++[some (.aA 3 [[a,b,c]] false)]):=eY.b1 _;have F0:=X6.aA E0;have F1:=X6.aA E1;have F2:=X6.aA E2;have F3:(H5++[some (fh.aA 3 [[a,b,c]] false)])[H5.length]?=_:=gh _ _;have lH4:H3.length<=H4.length:=(hx.tr Xa).1;have ow:fW (gZ y.aA).1.c (λm=>H3.length<=m) (H5++[some (fh.aA 3 [[a,b,c]] false)]) [a,b,c]:=fW.aA _ (λm hm=>by omega) (X6.aF _) _ hown;by_cases c2:(gZ y.aA).2=0
   ·rw[Vf ⟨c1,c2⟩]at hof;have k1:n0+1<H5.length+1:=by omega
    have k2:n0+1+1<H5.length+1:=by omega
    simp only[go_sem,oa.aA,ob.aA,oc.aA,Vc c2,F0,F1,F2,w1,w2,k1,k2,Vh];exact hs' _ _ ((hKs _ _).2 ⟨rfl,_,a,b,c,X5.tr X6,by rw[hof];exact ow,by rw[hof]⟩)
   ·rw[Ve (λz=>c2 z.2)]at hof;simp only[go_sem,oa.aA,ob.aA,oc.aA,Va c2];exact hn' _ ((hJ _ _).2 ⟨X5.tr X6,hof,ek⟩)
  ·rw[Ve (λz=>c1 z.1)]at hof;simp only[go_sem,Va c1,Vt];exact hn' _ ((hJ _ _).2 ⟨hx.tr (eY.b1 _),hof,ek⟩)
 ·intro h' hk;obtain⟨hx,hof,-⟩:=(hJ _ _).1 hk;have hof:x.of=(x.aC,x.aA.aA):=hof;have E0:=hx.aA C0;have E1:=hx.aA C1;have E2:=hx.aA C2;have xx:=(X0.tr X3).tr hx;have lx:=hx.1;obtain⟨f1,f2,f3⟩:=id hcf;simp only[go_sem,E0,ho.aA,hn.aA,hl.aA];have G0:(h'++[some (fh.aA 3 [[o,n,l]] false)])[n0]?=_:=(eY.b1 _).aA E0;have G1:(h'++[some (fh.aA 3 [[o,n,l]] false)])[n0+1]?=_:=(eY.b1 _).aA E1;have G2:(h'++[some (fh.aA 3 [[o,n,l]] false)])[n0+1+1]?=_:=(eY.b1 _).aA E2;have G3:(h'++[some (fh.aA 3 [[o,n,l]] false)])[h'.length]?=some (some (.aA 3 [[o,n,l]] false)):=gh _ _;have xy:eY fj h (h'++[some (fh.aA 3 [[o,n,l]] false)]):=xx.tr (eY.b1 _);have ho6:=ho.up xy;have hn6:=hn.up xy;have hl6:=hl.up xy;have l6:n0+3<=(h'++[some (fh.aA 3 [[o,n,l]] false)]).length:=by simp;omega
  generalize h'++[some (fh.aA 3 [[o,n,l]] false)]=H6 at *;simp only[go_sem,G0];refine fq ⟨h3.1,h3.2 G H6 x.aC.aA o ho6 (by omega)⟩ ?_;rintro r1 H7 ⟨ro,-,rx⟩;have M0:=rx.aA G0;have M1:=rx.aA G1;have M2:=rx.aA G2;have M3:=rx.aA G3;simp only[go_sem,M0,M3];refine fq ⟨h3.1,h3.2 G H7 x.aC.aB n (hn6.up rx) (by omega)⟩ ?_;rintro r2 H8 ⟨uo,-,ux⟩;have N0:=ux.aA M0;have N1:=ux.aA M1;have N2:=ux.aA M2;have N3:=ux.aA M3;simp only[go_sem,N0,N3];refine fq ⟨h3.1,h3.2 G H8 x.aC.aC l ((hl6.up rx).up ux) (by omega)⟩ ?_;rintro r3 H9 ⟨vo,-,vx⟩;have P0:=vx.aA N0;have P1:=vx.aA N1;have P2:=vx.aA N2;have P3:=vx.aA N3;have g1:=rx.1;have g2:=ux.1;have g3:=vx.1;have k1:n0+1<H9.length:=by omega
  have k2:n0+1+1<H9.length:=by omega
  have X:=(rx.tr ux).tr vx;simp only[go_sem,P0,P1,P2,P3,ro.aA,gH ro.aA,uo.aA,gH uo.aA,vo.aA,gH vo.aA,k1,k2,Vh];rw[hof];refine⟨_,rfl,xu ?_ ?_ ?_,((xy.tr X).aD (by omega) _).aD (by omega) _⟩;·exact mN (mN (k:=n0+3) (e_.aB (F':=λm=>n0+3<=m) _ (λm hm=>by omega) ((ux.tr vx).aF _) _ ro) (by omega) _ (by omega)) (by omega) _ (by omega)
  ·exact mN (mN (k:=n0+3) (e_.aB (F':=λm=>n0+3<=m) _ (λm hm=>by omega) (vx.aF _) _ uo) (by omega) _ (by omega)) (by omega) _ (by omega)
  ·exact mN (mN (k:=n0+3) (e_.aB (F':=λm=>n0+3<=m) _ (λm hm=>by omega) (gz.lt _ _) _ vo) (by omega) _ (by omega)) (by omega) _ (by omega)
 ·intro y h' hk;obtain⟨rfl,h1',a,b,c,hx,ow,rfl⟩:=(hKs _ _).1 hk;have E1:=hx.aA C1;have E2:=hx.aA C2;have lx:=hx.1;have k1:n0+1<h1'.length:=by omega
  have k2:n0+1+1<h1'.length:=by omega
  refine⟨by simp,?_⟩;simp only[go_sem,k1,k2,Vh];obtain⟨oa,ob,oc⟩:e_ (fK x.of.1.aA) (λm=>H3.length<=m) h1' a/\e_ (fK x.of.1.aB) (λm=>H3.length<=m) h1' b/\e_ (fK x.of.1.aC) (λm=>H3.length<=m) h1' c:=by obtain⟨o',n',e',q,z⟩:=HK ow;cases q;exact z
  refine⟨_,rfl,xu ?_ ?_ ?_,((((X0.tr X3).tr hx)).aD (by omega) _).aD (by omega) _⟩;·exact mN (mN (k:=n0+3) oa (by omega) _ (by omega)) (by omega) _ (by omega)
  ·exact mN (mN (k:=n0+3) ob (by omega) _ (by omega)) (by omega) _ (by omega)
  ·exact mN (mN (k:=n0+3) oc (by omega) _ (by omega)) (by omega) _ (by omega)
def nM (P:Program)(f:FuncId):Prop:=fI P f=true/\∀(G:Nat->Prop)(h:eZ)(x:fV)(ags:List AV),fu G h x.c ags->x.aL->
 fy P f [.aE ags] h λr h'=>r=.aI [.aE x.of.1.v,.aA .i64 x.of.2]/\h'=h
theorem Sr {P:Program}{f g1 g2:FuncId}(hf:Is P f (AD g1 g2))(h1:ot P g1)(h2:oC P g2):nM P f:=by
 refine⟨hf.2,λG h x ags ha hR=>fy.aB (K:=λr h'=>r=.aI [.aE x.of.1.v,.aA .i64 x.of.2]/\eY fj h h') (fN hf ?_) (λr _ ⟨e,hx⟩=>⟨hx,r,by rw[e];exact gM.aC (gM.aA (sy _ _ _)) (gM.aB _ _),e⟩)⟩;obtain⟨e,o,n,l,s,rfl,he,ho,hn,hl,ab⟩:=kW ha;simp only[AD,fV.aG,go_sem,he.aA,ho.aA,hn.aA,hl.aA,ab.aA];have X0:eY fj h (h++[some (fh.aA 10 [[.aA .i64 x.aD,.aA .i64 x.aB,.aA .i64 x.aE,.aA .i64 x.aA.aA,.aA .i64 x.aA.aB,e,o,n,l,s]] false)]++[some (fh.aA 3 [[.aB,.aB,.aB]] false)]):=eY.b2 _ _;obtain⟨f1,f2,f3⟩:=hR.aB;have cc:∀H,eY fj h H->fy P g1 [.aE [o,n,l]] H λr h'=>r=.aE [fA x.aC.aA,fA x.aC.aB,fA x.aC.aC]/\h'=H:=λH hx=>by
  refine (h1.2 G H x.aC [o,n,l] ?_ f1 f2 f3).aB ?_;·simp only[fG.c,fu];exact⟨_,_,rfl,ho.up hx,_,_,rfl,hn.up hx,_,_,rfl,hl.up hx,rfl⟩
  ·rintro r h' ⟨o',n',e',rfl,z1,z2,z3,a0⟩;exact⟨a0,_,gM.aA (fW.fz x.aC.c (λ_ z=>z) _ (xu z1 z2 z3)),by rw[<-fG.aD];rfl⟩
 refine fR h1.1 (cc _ X0) ?_;have B0:(h++[some (fh.aA 10 [[.aA .i64 x.aD,.aA .i64 x.aB,.aA .i64 x.aE,.aA .i64 x.aA.aA,.aA .i64 x.aA.aB,e,o,n,l,s]] false)]++[some (fh.aA 3 [[.aB,.aB,.aB]] false)])[h.length]?=_:=iE _ _ _;have B1:(h++[some (fh.aA 10 [[.aA .i64 x.aD,.aA .i64 x.aB,.aA .i64 x.aE,.aA .i64 x.aA.aA,.aA .i64 x.aA.aB,e,o,n,l,s]] false)]++[some (fh.aA 3 [[.aB,.aB,.aB]] false)])[h.length+1]?=_:=iq _ _ _;have L0:(h++[some (fh.aA 10 [[.aA .i64 x.aD,.aA .i64 x.aB,.aA .i64 x.aE,.aA .i64 x.aA.aA,.aA .i64 x.aA.aB,e,o,n,l,s]] false)]++[some (fh.aA 3 [[.aB,.aB,.aB]] false)]).length=h.length+2:=by simp
 obtain⟨n0,C⟩:∃n,n=h.length:=⟨_,rfl⟩;rw[<-C]at B0 B1 L0 ⊢;generalize h++[some (fh.aA 10 [[.aA .i64 x.aD,.aA .i64 x.aB,.aA .i64 x.aE,.aA .i64 x.aA.aA,.aA .i64 x.aA.aB,e,o,n,l,s]] false)]++[some (fh.aA 3 [[.aB,.aB,.aB]] false)]=H at *;have hb:=hR.aA;have hlen:=hR.aD;have C0:=(eY.b1 (h:=H) (some (fh.aA 3 [[fA x.aC.aA,fA x.aC.aB,fA x.aC.aC]] false))).aA B0;have C1:=(eY.b1 (h:=H) (some (fh.aA 3 [[fA x.aC.aA,fA x.aC.aB,fA x.aC.aC]] false))).aA B1;have C2:=gh H (some (fh.aA 3 [[fA x.aC.aA,fA x.aC.aB,fA x.aC.aC]] false));have X1:=X0.tr (eY.b1 (h:=H) (some (fh.aA 3 [[fA x.aC.aA,fA x.aC.aB,fA x.aC.aC]] false)));rw[L0]at C2;simp only[go_sem,iB,C0];simp only[L0];generalize H++[some (fh.aA 3 [[fA x.aC.aA,fA x.aC.aB,fA x.aC.aC]] false)]=H1 at *;obtain⟨I,hI⟩:∃I:Nat->fY->eZ->Prop,∀m L h',I m L h'↔∃(i:Nat),lk 1 L=.aC n0 10 0 0/\lk 2 L=.aC (n0+1) 3 0 0/\lk 4 L=.aC (n0+2) 3 0 0/\lk 5 L=.aA .i64 (x.aI i).2/\lk 6 L=.aA .i64 i/\eY fj h h' /\
  h'[n0]?=some (some (.aA 10 [[.aA .i64 x.aD,.aA .i64 x.aB,.aA .i64 x.aE,.aA .i64 x.aA.aA,.aA .i64 x.aA.aB,e,o,n,l,s]] false))/\h'[n0+1]?=some (some (.aA 3 [[.aB,.aB,.aB]] false)) /\
  h'[n0+2]?=some (some (.aA 3 [[fA (x.aI i).1.aA,fA (x.aI i).1.aB,fA (x.aI i).1.aC]] false))/\i<=x.aA.es.length/\m=x.aA.es.length-i:=⟨_,λ_ _ _=>Wu⟩
 refine gJ I x.aA.es.length ((hI _ _ _).2 ⟨0,by simp[fi],by simp[fi],by simp[fi],by simp[fi,fV.aI,nU],by simp[fi],X1,C0,C1,C2,by omega,by omega⟩) ?_;clear C0 C1 C2 B0 B1 X0 X1 L0;intro m L h' hh;obtain⟨i,k1,k2,k4,k5,k6,hx,C0,C1,C2,hi,rfl⟩:=(hI _ _ _).1 hh;have ac:=he.up hx;have le:g_ e=some (.aA .i64 x.aA.es.length):=by have:=he.aB;simpa [f_] using this
 simp only[FW,go_sem,k1,k6,C0,le];refine gx (λci=>?_) (λci=>?_)
 ·simp at ci;have hk:i<x.aA.es.length:=by omega
  have step:=fV.aT (x:=x) hk;have t:=hR.aC _ (VU hk);have ew:IntKind.i64.wrap ((i:Int)+1)=((i+1:Nat):Int):=by rw[fQ (by omega)];omega
  have w1:IntKind.i64.wrap (x.aA.aA+1)=x.aA.aA+1:=fQ (by omega);have w2:IntKind.i64.wrap (x.aA.aA+1+(i:Int))=x.aA.aA+1+i:=fQ (by omega);obtain⟨p,cs,i1,i2,i3⟩:=Rd.aD ac .i64 (i:=(i:Int)) (d:=x.aA.es[i].c) (by omega) (by rw[show ((i:Int)).toNat=i by omega,VE,Vi hk];rfl);obtain⟨d,rfl,hd⟩:=Ia i3;generalize x.aA.es[i]=y at *;have fd:∀k,pC k p=some (lW k p):=λk=>ko i2 k;have u:gX h' false 1 (lW 1 p)=some (.aA .i64 y.aC):=by rw[jJ i2];rfl
  have W:gX h' false 1 (lW 2 p)=some d:=by rw[jJ i2];simp[nD]
  have b:∀h2 L2,lk 1 L2=.aC n0 10 0 0->lk 2 L2=.aC (n0+1) 3 0 0->lk 4 L2=.aC (n0+2) 3 0 0->lk 5 L2=.aA .i64 (x.aI (i+1)).2->lk 6 L2=.aA .i64 ((i+1:Nat):Int)->eY fj h h2->
    h2[n0]?=some (some (.aA 10 [[.aA .i64 x.aD,.aA .i64 x.aB,.aA .i64 x.aE,.aA .i64 x.aA.aA,.aA .i64 x.aA.aB,e,o,n,l,s]] false))->h2[n0+1]?=some (some (.aA 3 [[.aB,.aB,.aB]] false))->
    h2[n0+2]?=some (some (.aA 3 [[fA (x.aI (i+1)).1.aA,fA (x.aI (i+1)).1.aB,fA (x.aI (i+1)).1.aC]] false))->∃m',m'<x.aA.es.length-i/\I m' L2 h2:=
   λh2 L2 a1 a2 a3 a4 a5 a6 a7 a8 a9=>⟨x.aA.es.length-(i+1),by omega,(hI _ _ _).2 ⟨i+1,a1,a2,a3,a4,a5,a6,a7,a8,a9,hk,rfl⟩⟩
  by_cases c1:y.aC=2
  ·simp only[go_sem,k1,k6,C0,i1,fd,u,W,Vc c1,Vq];refine fR h2.1 (h2.2 G h' y.aA d hd t.1 t.2) ?_;have E0:=(eY.b1 (h:=h') (some (fh.aA 3 [[fA (gZ y.aA).1.aA,fA (gZ y.aA).1.aB,fA (gZ y.aA).1.aC]] false))).aA C0;have E1:=(eY.b1 (h:=h') (some (fh.aA 3 [[fA (gZ y.aA).1.aA,fA (gZ y.aA).1.aB,fA (gZ y.aA).1.aC]] false))).aA C1;have E2:=(eY.b1 (h:=h') (some (fh.aA 3 [[fA (gZ y.aA).1.aA,fA (gZ y.aA).1.aB,fA (gZ y.aA).1.aC]] false))).aA C2;have Ex:=hx.tr (eY.b1 (h:=h') (some (fh.aA 3 [[fA (gZ y.aA).1.aA,fA (gZ y.aA).1.aB,fA (gZ y.aA).1.aC]] false)));have O:n0+2<h'.length+1:=by have:=(U_.1 C2).1;omega
   simp only[fG.aD];by_cases c2:(gZ y.aA).2=0
   ·rw[Vf ⟨c1,c2⟩]at step;simp only[go_sem,iB,Vc c2,k1,k4,k6,E0,E2,O,w1,w2,ew];have M:n0+2≠n0:=by omega
    have E:n0+2≠n0+1:=by omega
    have ln0:n0=h.length:=C;refine b _ _ (by simp[fi,k1]) (by simp[fi,k2]) (by simp[fi,k4]) (by simp[fi,step]) (by simp[fi]) (Ex.aD (by omega) _) ((Vb M).trans E0) ((Vb E).trans E1) ?_;rw[Vd (by simp;omega),step]
   ·rw[Ve (λz=>c2 z.2)]at step;simp only[go_sem,iB,Va c2,k6,ew];rw[<-step]at E2;exact b _ _ (by simp[fi,k1]) (by simp[fi,k2]) (by simp[fi,k4]) (by simp[fi,k5,step]) (by simp[fi]) Ex E0 E1 E2
  ·rw[Ve (λz=>c1 z.1)]at step;simp only[go_sem,k1,k4,k6,C0,i1,fd,u,Va c1,Vt,ew];rw[<-step]at C2;exact b _ _ (by simp[fi,k1]) (by simp[fi,k2]) (by simp[fi,k4]) (by simp[fi,k5,step]) (by simp[fi]) hx C0 C1 C2
 ·simp at ci;have ei:i=x.aA.es.length:=by omega
  have U:=(U_.1 C1).1;rw[ei]at C2 k5;simp only[go_sem,k2,k4,k5,C1,C2,iB,U];refine⟨?_,?_⟩;·rw[fG.aD];rfl
  ·exact hx.aD (by omega) _
end Glb
