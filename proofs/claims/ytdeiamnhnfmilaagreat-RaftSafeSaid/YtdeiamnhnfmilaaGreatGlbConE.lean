/-
  A library of its own.
-/
import Derived.Test.YtdeiamnhnfmilaaGreatGlbConD
import Derived.Test.YtdeiamnhnfmilaaGreatGlbGetA
set_option linter.unusedSimpArgs false
set_option linter.unusedVariables false
set_option maxRecDepth 10000
set_option maxHeartbeats 8000000
namespace Glb
open Go
theorem Mq (Kn:eX->Prop)(Ks:AX->eX->Prop)(st:St):qZ Kn Ks .aA ⟨none,false,st⟩=Kn st.h:=by simp[qZ]
theorem Mr (Kn:eX->Prop)(Ks:AX->eX->Prop)(x:AX)(st:St):qZ Kn Ks .aC ⟨some x,false,st⟩=Ks x st.h:=by simp[qZ]
def DI (P:Program)(f:FuncId):Prop:=fK P f=true/\∀(Y:Yl)(J:Nat->eX->Prop)(Ks:AX->eX->Prop)(G:Nat->Prop)(h:eX)(nb:Nat)(a:AV)(l:List fU),
 (∀avs h (R R':Option AX->eX->Prop),(∀j h,R j h->R' j h)->Y avs h R->Y avs h R')->l.length<=2^40->J l.length h->
 (∀k h',J k h'->h'[nb]?=some (some (.aA 1 [[a]] false))/\Rd G h' (gK l) a)->
 (∀k h' d (R:Option AX->eX->Prop) (hk:k<l.length),J (k+1) h'->Rd G h' (gq l[k].aC) d->(∀h2,J k h2->R none h2)->(∀x h2,Ks x h2->R (some x) h2)->Y [.aA .i64 k,.aF [.aA .i64 l[k].aA,.aA .i64 l[k].aD,d]] h' R)->
 ub P f [.aC nb 1 0 0] h Y (J 0) Ks
theorem KG {P:Program}{f:FuncId}(hf:wc P true f yj):DI P f:=by
 refine⟨hf.1,λY J Ks G h nb a l hY hl C hJ hB=>RI hf.2 rfl (V3 rfl) λy=>?_⟩;show iT P y Y yj.aA ⟨none,false,⟨[(0,.aN (.func (.yield y) #[] #[])),(1,.aC nb 1 0 0)],[],h⟩⟩ (qZ (J 0) Ks);obtain⟨b1,hr⟩:=hJ _ h C;have la:ik a=some (.aA .i64 l.length):=by have:=hr.aC;simpa [gK] using this
 have e0:IntKind.i64.wrap ((l.length:Int)-1)=l.length-1:=gj (by omega);simp only[yj,go_sem,b1,la,e0];obtain⟨I,hI⟩:∃I:Nat->fX->eX->Prop,∀m L h',I m L h'↔lk 0 L=.aN (.func (.yield y) #[] #[])/\lk 1 L=.aC nb 1 0 0/\lk 3 L=.aA .i64 (m-1)/\J m h'/\m<=l.length:=⟨_,λ_ _ _=>WA⟩;refine Sn hY I l.length ((hI _ _ _).2 ⟨by simp[fm,g_],by simp[fm,g_],by simp[fm],C,by omega⟩) ?_;intro m L h' hh;obtain⟨k0,k1,k3,e,hk⟩:=(hI _ _ _).1 hh;obtain⟨b1,hr⟩:=hJ m h' e;simp only[go_sem,k3];refine ij (λck=>?_) (λck=>?_)
 ·simp at ck;obtain⟨k,rfl⟩:∃k,m=k+1:=⟨m-1,by omega⟩;have u:k<l.length:=by omega
  have ek:((k+1:Nat):Int)-1=k:=by omega
  have e1:IntKind.i64.wrap ((k:Int)-1)=k-1:=gj (by omega);rw[ek]at k3;obtain⟨p,cs,i1,i2,i3⟩:=Rd.aD hr .i64 (i:=(k:Int)) (d:=l[k].c) (by omega) (by rw[show ((k:Int)).toNat=k by omega,VE,U0 u];rfl);obtain⟨d,rfl,hd⟩:=HN i3;have ld:ir h' true 3 p=some (.aF [.aA .i64 l[k].aA,.aA .i64 l[k].aD,d]):=by rw[jr i2];rfl
  simp only[go_sem,k0,k1,k3,b1,i1,ld];refine hB k h' d _ u e hd ?_ ?_;·intro h2 M;simp only[go_sem,Option.isNone_none,VF,k3,e1];exact⟨k,by omega,(hI _ _ _).2 ⟨by simp[fm,k0],by simp[fm,k1],by simp[fm],M,by omega⟩⟩
  ·intro x h2 E;simp only[go_sem,WL,VN,Mr];exact E
 ·simp at ck;have:m=0:=by omega
  subst this;simp only[go_sem,Mq];exact e
def jR (l:List fU):Nat->Option (fq×Nat)
 | 0=>none
 | k+1=>match l[k]? with
  | none=>jR l k
  | some e=>if e.aD=2/\(im e.aC).2=0 then some ((im e.aC).1,k) else jR l k
def fF.aK (x:fF)(k:Nat):fq×Int:=match jR x.aA.es k with
 | none=>(x.aD,x.aA.aA)
 | some (c,k)=>(c,x.aA.aA+1+k)
def fF.of (x:fF):fq×Int:=x.aK x.aA.es.length
theorem Ca {l:List fU}:∀{k:Nat}{c:fq}{i:Nat},jR l k=some (c,i)->i<k
 | 0,_,_,h=>by cases h
 | k+1,c,i,h=>by
  unfold jR at h;split at h;·have:=Ca h;omega
  ·split at h;·cases h;omega
   ·have:=Ca h;omega
theorem fF.aT {x:fF}{k:Nat}(hk:k<x.aA.es.length):x.aK (k+1)=if x.aA.es[k].aD=2/\(im x.aA.es[k].aC).2=0 then ((im x.aA.es[k].aC).1,x.aA.aA+1+k) else x.aK k:=by
 have e1:jR x.aA.es (k+1)=if x.aA.es[k].aD=2/\(im x.aA.es[k].aC).2=0 then some ((im x.aA.es[k].aC).1,k) else jR x.aA.es k:=by rw[jR,U0 hk]
 unfold fF.aK;rw[e1];by_cases c:x.aA.es[k].aD=2/\(im x.aA.es[k].aC).2=0;·rw[U4 c,U4 c]
 ·rw[U6 c,U6 c]
structure fF.aN (x:fF):Prop where
 aA:0<=x.aA.aA/\x.aA.aA<=2^41
 aE:x.aA.es.length<=2^40
 aD:∀e∈x.aA.es,gF e.aC/\e.aC.length<=2^37
 aC:x.aD.aG (2^40)
def wo (P:Program)(f:FuncId):Prop:=fK P f=true/\∀(G:Nat->Prop)(h:eX)(x:fF)(ags:List AV),fu G h x.c ags->x.aN->
 fC P f [.aF ags] h λr h'=>∃cs,r=.aI [.aF cs,.aA .i64 x.of.2]/\fI x.of.1.c (λm=>h.length<=m) h' cs/\eW eZ h h'
def DJ (P:Program)(f sf:FuncId):Prop:=fK P f=true/\∀(h:eX)(a:AV),a.aH=true->fC P f [a] h λr h'=>r=.aK sf [] [.aC h.length 1 0 0]/\h'[h.length]?=some (some (.aA 1 [[a]] false))/\eW eZ h h'
theorem KF {P:Program}{f sf:FuncId}(hf:Is P f (BP sf)):DJ P f sf:=by refine⟨hf.2,λh a sa=>fS hf ?_⟩;simp only[BP,go_sem,sa,gz sa];exact eW.b1 _
theorem Hu {x:fq}{F:Nat->Prop}{h:eX}{a:List AV}(hh:fI x.c F h a):∃o n e,a=[o,n,e]/\eY (fN x.aA) F h o/\eY (fN x.aC) F h n/\eY (fN x.aD) F h e:=by simp only[fq.c,fI]at hh;obtain⟨o,_,rfl,ho,n,_,rfl,hn,e,_,rfl,he,rfl⟩:=hh;exact⟨o,n,e,rfl,ho,hn,he⟩
theorem PE {P:Program}{f g1 g2 g3 sf:FuncId}(hf:wc P false f (vD g1 g2 g3))(h1:DJ P g1 sf)(hs:DI P sf)(h2:uv P g2)(h3:o8 P g3):wo P f:=by
 refine⟨hf.1,λG h x ags ha hR=>RA hf.2 (V3 rfl) ?_⟩;obtain⟨e,o,n,l,s,rfl,he,ho,hn,hl,hsn⟩:=lO ha;show iT P 0 (λ_ _ _=>False) (vD g1 g2 g3).aA ⟨none,false,⟨[(0,.aF (x.aH e o n l s))],[],h⟩⟩ (zu (vD g1 g2 g3).aC _);simp only[vD,fF.aH,go_sem,he.aA,ho.aA,hn.aA,hl.aA,hsn.aA];obtain⟨H,hH⟩:∃H,H=h++[some (e_.aA 10 [[.aA .i64 x.aE,.aA .i64 x.aC,.aA .i64 x.aF,.aA .i64 x.aA.aA,.aA .i64 x.aA.aD,e,o,n,l,s]] false)]++[some (.aA 3 [[.aD,.aD,.aD]] false)]++[some (.aA 1 [[.aA .i64 0]] false)]:=⟨_,rfl⟩;have B0:H[h.length]?=some (some (.aA 10 [[.aA .i64 x.aE,.aA .i64 x.aC,.aA .i64 x.aF,.aA .i64 x.aA.aA,.aA .i64 x.aA.aD,e,o,n,l,s]] false)):=by rw[hH];exact pC _ _ _ _
 have B1:H[h.length+1]?=some (some (.aA 3 [[.aD,.aD,.aD]] false)):=by rw[hH];exact p_ _ _ _ _
 have B2:H[h.length+1+1]?=some (some (.aA 1 [[.aA .i64 0]] false)):=by rw[hH];exact sS _ _ _ _
 have X0:eW eZ h H:=by rw[hH];exact eW.b3 _ _ _
 have L0:H.length=h.length+3:=by rw[hH];simp
 rw[<-hH];clear hH;have hb:=hR.aA;have hlen:=hR.aE;have hcf:=hR.aC;obtain⟨n0,hn0⟩:∃n,n=h.length:=⟨_,rfl⟩;rw[<-hn0]at B0 B1 B2 L0 ⊢;refine fy ⟨h1.1,h1.2 H e he.aA⟩ ?_;rintro _ H3 ⟨rfl,D0,X3⟩;simp only[go_sem];have he3:=(he.up X0).up X3;have C0:=X3.aA B0;have C1:=X3.aA B1;have C2:=X3.aA B2;have l3:n0+3<=H3.length:=by have:=X3.1;omega
 obtain⟨J,hJ⟩:∃J:Nat->eX->Prop,∀k h',J k h'↔eW eZ H3 h'/\x.of=x.aK k/\k<=x.aA.es.length:=⟨_,λ_ _=>WA⟩;obtain⟨Ks,hKs⟩:∃Ks:AX->eX->Prop,∀y h',Ks y h'↔y=.aC/\∃h1 a b c,eW eZ H3 h1/\fI x.of.1.c (λm=>H3.length<=m) h1 [a,b,c]/\h'=(h1.set (n0+1) (some (.aA 3 [[a,b,c]] false))).set (n0+1+1) (some (.aA 1 [[.aA .i64 x.of.2]] false)):=⟨_,λ_ _=>WA⟩;refine Sq (gf:=sf) (cs:=[.aC H.length 1 0 0]) (Kn:=J 0) (Ks:=Ks) (by simp[St.aA,fm]) hs.1 (hs.2 _ J Ks G H3 _ e x.aA.es (KU _ _ _ _) hlen ((hJ _ _).2 ⟨eW.aC _ _,rfl,U8 _⟩) ?_ ?_) ?_ ?_;·intro k h' hk;obtain⟨hx,-,-⟩:=(hJ _ _).1 hk;exact⟨hx.aA D0,he3.up hx⟩
 ·intro k h' d R hk hjk hd hn' hs';obtain⟨hx,hof,-⟩:=(hJ _ _).1 hjk;rw[KT _ _ _ _ _ _ _ rfl];have sd:=hd.aA;have mem:=hR.aD _ (Vx hk);have step:x.aK (k+1)=if x.aA.es[k].aD=2/\(im x.aA.es[k].aC).2=0 then ((im x.aA.es[k].aC).1,x.aA.aA+1+k) else x.aK k:=by
   have e1:jR x.aA.es (k+1)=if x.aA.es[k].aD=2/\(im x.aA.es[k].aC).2=0 then some ((im x.aA.es[k].aC).1,k) else jR x.aA.es k:=by rw[jR,U0 hk]
   unfold fF.aK;rw[e1];by_cases c:x.aA.es[k].aD=2/\(im x.aA.es[k].aC).2=0;·rw[U4 c,U4 c]
   ·rw[U6 c,U6 c]
  rw[step]at hof;generalize x.aA.es[k]=y at *;simp only[rG,List.zip_cons_cons,List.zip_nil_right,go_sem,sd];have ek:k<=x.aA.es.length:=by omega
  have w1:IntKind.i64.wrap (x.aA.aA+1)=x.aA.aA+1:=gj (by omega);have w2:IntKind.i64.wrap (x.aA.aA+1+(k:Int))=x.aA.aA+1+k:=gj (by omega);by_cases c1:y.aD=2
  ·simp only[go_sem,U3 c1,VF];have Xa:eW eZ h' (h'++[some (.aA 3 [[.aA .i64 y.aA,.aA .i64 y.aD,d]] false)]):=eW.b1 _;generalize h'++[some (e_.aA 3 [[.aA .i64 y.aA,.aA .i64 y.aD,d]] false)]=H4 at *;refine fy ⟨h2.1,h2.2 G H4 y.aC d (hd.up Xa) mem.1 mem.2⟩ ?_;rintro _ H5 ⟨ags,rfl,hown,hx5⟩;obtain⟨a,b,c,rfl,oa,ob,oc⟩:=Hu hown;have X5:=(hx.tr Xa).tr hx5;have E0:=X5.aA C0;have E1:=X5.aA C1;have E2:=X5.aA C2;have l5:=X5.1;have X6:eW eZ H5 (H5++[some (.aA 3 [[a,b,c]] false)]):=eW.b1 _;have F0:=X6.aA E0;have F1:=X6.aA E1;have F2:=X6.aA E2;have F3:(H5++[some (e_.aA 3 [[a,b,c]] false)])[H5.length]?=_:=gJ _ _;have lH4:H3.length<=H4.length:=(hx.tr Xa).1;have ow:fI (im y.aC).1.c (λm=>H3.length<=m) (H5++[some (e_.aA 3 [[a,b,c]] false)]) [a,b,c]:=fI.aA _ (λm hm=>by omega) (X6.aE _) _ hown;by_cases c2:(im y.aC).2=0
   ·rw[U4 ⟨c1,c2⟩]at hof;have k1:n0+1<H5.length+1:=by omega
    have k2:n0+1+1<H5.length+1:=by omega
    simp only[go_sem,oa.aA,ob.aA,oc.aA,U3 c2,F0,F1,F2,w1,w2,k1,k2,U9];exact hs' _ _ ((hKs _ _).2 ⟨rfl,_,a,b,c,X5.tr X6,by rw[hof];exact ow,by rw[hof]⟩)
   ·rw[U6 (λz=>c2 z.2)]at hof;simp only[go_sem,oa.aA,ob.aA,oc.aA,U2 c2];exact hn' _ ((hJ _ _).2 ⟨X5.tr X6,hof,ek⟩)
  ·rw[U6 (λz=>c1 z.1)]at hof;simp only[go_sem,U2 c1,VN];exact hn' _ ((hJ _ _).2 ⟨hx.tr (eW.b1 _),hof,ek⟩)
 ·intro h' hk;obtain⟨hx,hof,-⟩:=(hJ _ _).1 hk;have hof:x.of=(x.aD,x.aA.aA):=hof;have E0:=hx.aA C0;have E1:=hx.aA C1;have E2:=hx.aA C2;have xx:=(X0.tr X3).tr hx;have lx:=hx.1;obtain⟨f1,f2,f3⟩:=id hcf;simp only[go_sem,E0,ho.aA,hn.aA,hl.aA];have G0:(h'++[some (e_.aA 3 [[o,n,l]] false)])[n0]?=_:=(eW.b1 _).aA E0;have G1:(h'++[some (e_.aA 3 [[o,n,l]] false)])[n0+1]?=_:=(eW.b1 _).aA E1;have G2:(h'++[some (e_.aA 3 [[o,n,l]] false)])[n0+1+1]?=_:=(eW.b1 _).aA E2;have G3:(h'++[some (e_.aA 3 [[o,n,l]] false)])[h'.length]?=some (some (.aA 3 [[o,n,l]] false)):=gJ _ _;have xy:eW eZ h (h'++[some (e_.aA 3 [[o,n,l]] false)]):=xx.tr (eW.b1 _);have ho6:=ho.up xy;have hn6:=hn.up xy;have hl6:=hl.up xy;have l6:n0+3<=(h'++[some (e_.aA 3 [[o,n,l]] false)]).length:=by simp;omega
  generalize h'++[some (e_.aA 3 [[o,n,l]] false)]=H6 at *;simp only[go_sem,G0];refine fy ⟨h3.1,h3.2 G H6 x.aD.aA o ho6 (by omega)⟩ ?_;rintro r1 H7 ⟨ro,-,rx⟩;have M0:=rx.aA G0;have M1:=rx.aA G1;have M2:=rx.aA G2;have M3:=rx.aA G3;simp only[go_sem,M0,M3];refine fy ⟨h3.1,h3.2 G H7 x.aD.aC n (hn6.up rx) (by omega)⟩ ?_;rintro r2 H8 ⟨uo,-,ux⟩;have N0:=ux.aA M0;have N1:=ux.aA M1;have N2:=ux.aA M2;have N3:=ux.aA M3;simp only[go_sem,N0,N3];refine fy ⟨h3.1,h3.2 G H8 x.aD.aD l ((hl6.up rx).up ux) (by omega)⟩ ?_;rintro r3 H9 ⟨vo,-,vx⟩;have P0:=vx.aA N0;have P1:=vx.aA N1;have P2:=vx.aA N2;have P3:=vx.aA N3;have g1:=rx.1;have g2:=ux.1;have g3:=vx.1;have k1:n0+1<H9.length:=by omega
  have k2:n0+1+1<H9.length:=by omega
  have X:=(rx.tr ux).tr vx;simp only[go_sem,P0,P1,P2,P3,ro.aA,gz ro.aA,uo.aA,gz uo.aA,vo.aA,gz vo.aA,k1,k2,U9];rw[hof];refine⟨_,rfl,n_ ?_ ?_ ?_,((xy.tr X).aG (by omega) _).aG (by omega) _⟩;·exact jH (jH (k:=n0+3) (eY.aC (F':=λm=>n0+3<=m) _ (λm hm=>by omega) ((ux.tr vx).aE _) _ ro) (by omega) _ (by omega)) (by omega) _ (by omega)
  ·exact jH (jH (k:=n0+3) (eY.aC (F':=λm=>n0+3<=m) _ (λm hm=>by omega) (vx.aE _) _ uo) (by omega) _ (by omega)) (by omega) _ (by omega)
  ·exact jH (jH (k:=n0+3) (eY.aC (F':=λm=>n0+3<=m) _ (λm hm=>by omega) (gY.lt _ _) _ vo) (by omega) _ (by omega)) (by omega) _ (by omega)
 ·intro y h' hk;obtain⟨rfl,h1',a,b,c,hx,ow,rfl⟩:=(hKs _ _).1 hk;have E1:=hx.aA C1;have E2:=hx.aA C2;have lx:=hx.1;have k1:n0+1<h1'.length:=by omega
  have k2:n0+1+1<h1'.length:=by omega
  refine⟨by simp,?_⟩;simp only[go_sem,k1,k2,U9];obtain⟨oa,ob,oc⟩:eY (fN x.of.1.aA) (λm=>H3.length<=m) h1' a/\eY (fN x.of.1.aC) (λm=>H3.length<=m) h1' b/\eY (fN x.of.1.aD) (λm=>H3.length<=m) h1' c:=by obtain⟨o',n',e',q,z⟩:=Hu ow;cases q;exact z
  refine⟨_,rfl,n_ ?_ ?_ ?_,((((X0.tr X3).tr hx)).aG (by omega) _).aG (by omega) _⟩;·exact jH (jH (k:=n0+3) oa (by omega) _ (by omega)) (by omega) _ (by omega)
  ·exact jH (jH (k:=n0+3) ob (by omega) _ (by omega)) (by omega) _ (by omega)
  ·exact jH (jH (k:=n0+3) oc (by omega) _ (by omega)) (by omega) _ (by omega)
def qM (P:Program)(f:FuncId):Prop:=fK P f=true/\∀(G:Nat->Prop)(h:eX)(x:fF)(ags:List AV),fu G h x.c ags->x.aN->
 fC P f [.aF ags] h λr h'=>r=.aI [.aF x.of.1.v,.aA .i64 x.of.2]/\h'=h
end Glb
