/-
  A library of its own.
-/
import Derived.Test.YtdeiamnhnfmilaaGreatGlbConD
import Derived.Test.YtdeiamnhnfmilaaGreatGlbGetA
set_option linter.unusedSimpArgs false
set_option linter.unusedVariables false
set_option maxRecDepth 10000
set_option maxHeartbeats 8000000
namespace Glb
open Go
variable {P:Program}{f:FuncId}
theorem Oe (Kn:fu->Prop)(Ks:AX->fu->Prop)(st:St):sQ Kn Ks .aA ⟨none,false,st⟩=Kn st.h:=by simp[sQ]
theorem Of (Kn:fu->Prop)(Ks:AX->fu->Prop)(x:AX)(st:St):sQ Kn Ks .aC ⟨some x,false,st⟩=Ks x st.h:=by simp[sQ]
def Fc (P:Program)(f:FuncId):Prop:=fZ P f=true/\∀(Y:Yl)(J:Nat->fu->Prop)(Ks:AX->fu->Prop)(G:Nat->Prop)(h:fu)(nb:Nat)(a:AV)(l:List gw),
 (∀avs h (R R':Option AX->fu->Prop),(∀j h,R j h->R' j h)->Y avs h R->Y avs h R')->l.length<=2^40->J l.length h->
 (∀k h',J k h'->h'[nb]?=some (some (.aA 1 [[a]] false))/\Rd G h' (gZ l) a)->
 (∀k h' d (R:Option AX->fu->Prop) (hk:k<l.length),J (k+1) h'->Rd G h' (gG l[k].aD) d->(∀h2,J k h2->R none h2)->(∀x h2,Ks x h2->R (some x) h2)->Y [.aD .i64 k,.aF [.aD .i64 l[k].aA,.aD .i64 l[k].aC,d]] h' R)->
 vC P f [.aA nb 1 0 0] h Y (J 0) Ks
theorem Mg (hf:xJ P true f zW):Fc P f:=by
 refine⟨hf.1,λY J Ks G h nb a l hY hl E hJ hB=>TO hf.2 rfl (Yq rfl) λy=>?_⟩;show ju P y Y zW.aA ⟨none,false,⟨[(0,.aN (.func (.yield y) #[] #[])),(1,.aA nb 1 0 0)],[],h⟩⟩ (sQ (J 0) Ks);obtain⟨b1,hr⟩:=hJ _ h E;have la:iJ a=some (ι l.length):=by have:=hr.aC;simpa [gZ] using this
 have e0:IntKind.i64.wrap ((l.length:Int)-1)=l.length-1:=gF ω;simp only[zW,go_sem,b1,la,e0];obtain⟨I,hI⟩:∃I:Nat->gx->fu->Prop,∀m L h',I m L h'↔lk 0 L=.aN (.func (.yield y) #[] #[])/\lk 1 L=.aA nb 1 0 0/\lk 3 L=ι (m-1)/\J m h'/\m<=l.length:=⟨_,λ_ _ _=>YD⟩;refine Ut hY I l.length ((hI _ _ _).2 ⟨by simp[fE,iw],by simp[fE,iw],by simp[fE],E,ω⟩) ?_;intro m L h' hh;obtain⟨k0,k1,k3,e,hk⟩:=(hI _ _ _).1 hh;obtain⟨b1,hr⟩:=hJ m h' e;simp only[go_sem,k3];refine iQ (λck=>?_) (λck=>?_)
 ·simp at ck;obtain⟨k,rfl⟩:∃k,m=k+1:=⟨m-1,ω⟩;have u:k<l.length:=ω;have ek:((k+1:Nat):Int)-1=k:=ω;have e1:IntKind.i64.wrap ((k:Int)-1)=k-1:=gF ω;rw[ek]at k3;obtain⟨p,cs,i1,i2,i3⟩:=Rd.aD hr .i64 (i:=(k:Int)) (d:=l[k].c) ω (by rw[show ((k:Int)).toNat=k by omega,XR,WU u];rfl);obtain⟨d,rfl,hd⟩:=Jm i3;have ld:iK h' true 3 p=some (.aF [ι l[k].aA,ι l[k].aC,d]):=by rw[jN i2];rfl
  simp only[go_sem,k0,k1,k3,b1,i1,ld];refine hB k h' d _ u e hd ?_ ?_;·intro h2 U;simp only[go_sem,Option.isNone_none,XL,k3,e1];exact⟨k,ω,(hI _ _ _).2 ⟨by simp[fE,k0],by simp[fE,k1],by simp[fE],U,ω⟩⟩
  ·intro x h2 O;simp only[go_sem,Za,X_,Of];exact O
 ·simp at ck;have:m=0:=ω;subst this;simp only[go_sem,Oe];exact e
def kF (l:List gw):Nat->Option (fI×Nat)
 | 0=>none
 | k+1=>match l[k]? with
  | none=>kF l k
  | some e=>if e.aC=2/\(iG e.aD).2=0 then some ((iG e.aD).1,k) else kF l k
def fP.aK (x:fP)(k:Nat):fI×Int:=match kF x.aA.es k with
 | none=>(x.aD,x.aA.aA)
 | some (c,k)=>(c,x.aA.aA+1+k)
def fP.of (x:fP):fI×Int:=x.aK x.aA.es.length
theorem Dt {l:List gw}:∀{k:Nat}{c:fI}{i:Nat},kF l k=some (c,i)->i<k
 | 0,_,_,h=>by cases h
 | k+1,c,i,h=>by
  unfold kF at h;split at h;·have:=Dt h;omega
  ·split at h;·cases h;omega
   ·have:=Dt h;omega
theorem fP.aS {x:fP}{k:Nat}(hk:k<x.aA.es.length):x.aK (k+1)=if x.aA.es[k].aC=2/\(iG x.aA.es[k].aD).2=0 then ((iG x.aA.es[k].aD).1,x.aA.aA+1+k) else x.aK k:=by
 have e1:kF x.aA.es (k+1)=if x.aA.es[k].aC=2/\(iG x.aA.es[k].aD).2=0 then some ((iG x.aA.es[k].aD).1,k) else kF x.aA.es k:=by rw[kF,WU hk]
 unfold fP.aK;rw[e1];by_cases c:x.aA.es[k].aC=2/\(iG x.aA.es[k].aD).2=0;·rw[WW c,WW c]
 ·rw[WY c,WY c]
structure fP.aO (x:fP):Prop where
 aA:0<=x.aA.aA/\x.aA.aA<=2^41
 aE:x.aA.es.length<=2^40
 aD:∀e∈x.aA.es,gT e.aD/\e.aD.length<=2^37
 aC:x.aD.aH (2^40)
def xP (P:Program)(f:FuncId):Prop:=fZ P f=true/\∀(G:Nat->Prop)(h:fu)(x:fP)(ags:List AV),fH G h x.c ags->x.aO->
 fO P f [.aF ags] h λr h'=>∃cs,r=.aI [.aF cs,.aD .i64 x.of.2]/\fU x.of.1.c (λm=>h.length<=m) h' cs/\fq fB h h'
def Fe (P:Program)(f sf:FuncId):Prop:=fZ P f=true/\∀(h:fu)(a:AV),a.aH=true->fO P f [a] h λr h'=>r=.aL sf [] [.aA h.length 1 0 0]/\h'[h.length]?=some (some (.aA 1 [[a]] false))/\fq fB h h'
theorem Mf {sf:FuncId}(hf:Is P f (Db sf)):Fe P f sf:=by refine⟨hf.2,λh a sa=>gy hf ?_⟩;simp only[Db,go_sem,sa,gV sa];exact fq.b1 _
theorem I5 {x:fI}{F:Nat->Prop}{h:fu}{a:List AV}(hh:fU x.c F h a):∃o n e,a=[o,n,e]/\fA (f_ x.aA) F h o/\fA (f_ x.aC) F h n/\fA (f_ x.aD) F h e:=by simp only[fI.c,fU]at hh;obtain⟨o,_,rfl,ho,n,_,rfl,hn,e,_,rfl,he,rfl⟩:=hh;exact⟨o,n,e,rfl,ho,hn,he⟩
theorem Rn {g1 g2 g3 sf:FuncId}(hf:xJ P false f (wY g1 g2 g3))(h1:Fe P g1 sf)(hs:Fc P sf)(h2:vL P g2)(h3:xz P g3):xP P f:=by
 refine⟨hf.1,λG h x ags ha hR=>TH hf.2 (Yq rfl) ?_⟩;obtain⟨e,o,n,l,s,rfl,he,ho,hn,hl,hsn⟩:=m7 ha;show ju P 0 (λ_ _ _=>False) (wY g1 g2 g3).aA ⟨none,false,⟨[(0,.aF (x.aH e o n l s))],[],h⟩⟩ (AU (wY g1 g2 g3).aC _);simp only[wY,fP.aH,go_sem,he.aA,ho.aA,hn.aA,hl.aA,hsn.aA];obtain⟨H,hH⟩:∃H,H=h++[some (fC.aA 10 [[ι x.aE,ι x.aC,ι x.aF,ι x.aA.aA,ι x.aA.aD,e,o,n,l,s]] false)]++[some (.aA 3 [[.aC,.aC,.aC]] false)]++[some (.aA 1 [[ι 0]] false)]:=⟨_,rfl⟩;have B0:H[h.length]?=ar 10 [[ι x.aE,ι x.aC,ι x.aF,ι x.aA.aA,ι x.aA.aD,e,o,n,l,s]]:=by rw[hH];exact qB _ _ _ _
 have B1:H[h.length+1]?=ar 3 [[.aC,.aC,.aC]]:=by rw[hH];exact rB _ _ _ _
 have B2:H[h.length+1+1]?=ar 1 [[ι 0]]:=by rw[hH];exact uD _ _ _ _
 have X0:fq fB h H:=by rw[hH];exact fq.b3 _ _ _
 have L0:H.length=h.length+3:=by rw[hH];simp
 rw[<-hH];clear hH;have hb:=hR.aA;have hlen:=hR.aE;have hcf:=hR.aC;obtain⟨n0,hn0⟩:∃n,n=h.length:=⟨_,rfl⟩;rw[<-hn0]at B0 B1 B2 L0 ⊢;refine fK ⟨h1.1,h1.2 H e he.aA⟩ ?_;rintro _ H3 ⟨rfl,D0,X3⟩;simp only[go_sem];have he3:=(he.up X0).up X3;have C0:=X3.aA B0;have C1:=X3.aA B1;have C2:=X3.aA B2;have l3:n0+3<=H3.length:=by have:=X3.1;omega
 obtain⟨J,hJ⟩:∃J:Nat->fu->Prop,∀k h',J k h'↔fq fB H3 h'/\x.of=x.aK k/\k<=x.aA.es.length:=⟨_,λ_ _=>YD⟩;obtain⟨Ks,hKs⟩:∃Ks:AX->fu->Prop,∀y h',Ks y h'↔y=.aC/\∃h1 a b c,fq fB H3 h1/\fU x.of.1.c (λm=>H3.length<=m) h1 [a,b,c]/\h'=(h1.set (n0+1) (some (.aA 3 [[a,b,c]] false))).set (n0+1+1) (some (.aA 1 [[ι x.of.2]] false)):=⟨_,λ_ _=>YD⟩;refine Uw (gf:=sf) (cs:=[.aA H.length 1 0 0]) (Kn:=J 0) (Ks:=Ks) (by simp[St.aA,fE]) hs.1 (hs.2 _ J Ks G H3 _ e x.aA.es (Mv _ _ _ _) hlen ((hJ _ _).2 ⟨fq.aC _ _,rfl,WX _⟩) ?_ ?_) ?_ ?_;·intro k h' hk;obtain⟨hx,-,-⟩:=(hJ _ _).1 hk;exact⟨hx.aA D0,he3.up hx⟩
 ·intro k h' d R hk hjk hd hn' hs';obtain⟨hx,hof,-⟩:=(hJ _ _).1 hjk;rw[Mu _ _ _ _ _ _ _ rfl];have sd:=hd.aA;have mem:=hR.aD _ (Xq hk);have step:x.aK (k+1)=if x.aA.es[k].aC=2/\(iG x.aA.es[k].aD).2=0 then ((iG x.aA.es[k].aD).1,x.aA.aA+1+k) else x.aK k:=by
   have e1:kF x.aA.es (k+1)=if x.aA.es[k].aC=2/\(iG x.aA.es[k].aD).2=0 then some ((iG x.aA.es[k].aD).1,k) else kF x.aA.es k:=by rw[kF,WU hk]
   unfold fP.aK;rw[e1];by_cases c:x.aA.es[k].aC=2/\(iG x.aA.es[k].aD).2=0;·rw[WW c,WW c]
   ·rw[WY c,WY c]
  rw[step]at hof;generalize x.aA.es[k]=y at *;simp only[tq,List.zip_cons_cons,List.zip_nil_right,go_sem,sd];have ek:k<=x.aA.es.length:=ω;have w1:IntKind.i64.wrap (x.aA.aA+1)=x.aA.aA+1:=gF ω;have w2:IntKind.i64.wrap (x.aA.aA+1+(k:Int))=x.aA.aA+1+k:=gF ω;by_cases c1:y.aC=2
  ·simp only[go_sem,WZ c1,XL];have Xa:fq fB h' (h'++[some (.aA 3 [[ι y.aA,ι y.aC,d]] false)]):=fq.b1 _;generalize h'++[some (fC.aA 3 [[ι y.aA,ι y.aC,d]] false)]=H4 at *;refine fK ⟨h2.1,h2.2 G H4 y.aD d (hd.up Xa) mem.1 mem.2⟩ ?_;rintro _ H5 ⟨ags,rfl,hown,hx5⟩;obtain⟨a,b,c,rfl,oa,ob,oc⟩:=I5 hown;have X5:=(hx.tr Xa).tr hx5;have E0:=X5.aA C0;have E1:=X5.aA C1;have E2:=X5.aA C2;have l5:=X5.1;have X6:fq fB H5 (H5++[some (.aA 3 [[a,b,c]] false)]):=fq.b1 _;have F0:=X6.aA E0;have F1:=X6.aA E1;have F2:=X6.aA E2;have F3:(H5++[some (fC.aA 3 [[a,b,c]] false)])[H5.length]?=_:=h_ _ _;have lH4:H3.length<=H4.length:=(hx.tr Xa).1;have ow:fU (iG y.aD).1.c (λm=>H3.length<=m) (H5++[some (fC.aA 3 [[a,b,c]] false)]) [a,b,c]:=fU.aA _ (λm hm=>ω) (X6.aE _) _ hown;by_cases c2:(iG y.aD).2=0;·rw[WW ⟨c1,c2⟩]at hof;have k1:n0+1<H5.length+1:=ω;have k2:n0+1+1<H5.length+1:=ω;simp only[go_sem,oa.aA,ob.aA,oc.aA,WZ c2,F0,F1,F2,w1,w2,k1,k2,W4];exact hs' _ _ ((hKs _ _).2 ⟨rfl,_,a,b,c,X5.tr X6,by rw[hof];exact ow,by rw[hof]⟩)
   ·rw[WY (λz=>c2 z.2)]at hof;simp only[go_sem,oa.aA,ob.aA,oc.aA,WV c2];exact hn' _ ((hJ _ _).2 ⟨X5.tr X6,hof,ek⟩)
  ·rw[WY (λz=>c1 z.1)]at hof;simp only[go_sem,WV c1,X_];exact hn' _ ((hJ _ _).2 ⟨hx.tr (fq.b1 _),hof,ek⟩)
 ·intro h' hk;obtain⟨hx,hof,-⟩:=(hJ _ _).1 hk;have hof:x.of=(x.aD,x.aA.aA):=hof;have E0:=hx.aA C0;have E1:=hx.aA C1;have E2:=hx.aA C2;have xx:=(X0.tr X3).tr hx;have lx:=hx.1;obtain⟨f1,f2,f3⟩:=id hcf;simp only[go_sem,E0,ho.aA,hn.aA,hl.aA];have G0:(h'++[some (fC.aA 3 [[o,n,l]] false)])[n0]?=_:=(fq.b1 _).aA E0;have G1:(h'++[some (fC.aA 3 [[o,n,l]] false)])[n0+1]?=_:=(fq.b1 _).aA E1;have G2:(h'++[some (fC.aA 3 [[o,n,l]] false)])[n0+1+1]?=_:=(fq.b1 _).aA E2;have G3:(h'++[some (fC.aA 3 [[o,n,l]] false)])[h'.length]?=ar 3 [[o,n,l]]:=h_ _ _;have xy:fq fB h (h'++[some (fC.aA 3 [[o,n,l]] false)]):=xx.tr (fq.b1 _);have ho6:=ho.up xy;have hn6:=hn.up xy;have hl6:=hl.up xy;have l6:n0+3<=(h'++[some (fC.aA 3 [[o,n,l]] false)]).length:=by simp;omega
  generalize h'++[some (fC.aA 3 [[o,n,l]] false)]=H6 at *;simp only[go_sem,G0];refine fK ⟨h3.1,h3.2 G H6 x.aD.aA o ho6 ω⟩ ?_;rintro r1 H7 ⟨ro,-,rx⟩;have M0:=rx.aA G0;have M1:=rx.aA G1;have M2:=rx.aA G2;have M3:=rx.aA G3;simp only[go_sem,M0,M3];refine fK ⟨h3.1,h3.2 G H7 x.aD.aC n (hn6.up rx) ω⟩ ?_;rintro r2 H8 ⟨uo,-,ux⟩;have N0:=ux.aA M0;have N1:=ux.aA M1;have N2:=ux.aA M2;have N3:=ux.aA M3;simp only[go_sem,N0,N3];refine fK ⟨h3.1,h3.2 G H8 x.aD.aD l ((hl6.up rx).up ux) ω⟩ ?_;rintro r3 H9 ⟨vo,-,vx⟩;have P0:=vx.aA N0;have P1:=vx.aA N1;have P2:=vx.aA N2;have P3:=vx.aA N3;have g1:=rx.1;have g2:=ux.1;have g3:=vx.1;have k1:n0+1<H9.length:=ω;have k2:n0+1+1<H9.length:=ω;have X:=(rx.tr ux).tr vx;simp only[go_sem,P0,P1,P2,P3,ro.aA,gV ro.aA,uo.aA,gV uo.aA,vo.aA,gV vo.aA,k1,k2,W4];rw[hof];refine⟨_,rfl,En ?_ ?_ ?_,((xy.tr X).aI ω _).aI ω _⟩;·exact oG (oG (k:=n0+3) (fA.aC (F':=λm=>n0+3<=m) _ (λm hm=>ω) ((ux.tr vx).aE _) _ ro) ω _ ω) ω _ ω
  ·exact oG (oG (k:=n0+3) (fA.aC (F':=λm=>n0+3<=m) _ (λm hm=>ω) (vx.aE _) _ uo) ω _ ω) ω _ ω
  ·exact oG (oG (k:=n0+3) (fA.aC (F':=λm=>n0+3<=m) _ (λm hm=>ω) (ik.lt _ _) _ vo) ω _ ω) ω _ ω
 ·intro y h' hk;obtain⟨rfl,h1',a,b,c,hx,ow,rfl⟩:=(hKs _ _).1 hk;have E1:=hx.aA C1;have E2:=hx.aA C2;have lx:=hx.1;have k1:n0+1<h1'.length:=ω;have k2:n0+1+1<h1'.length:=ω;refine⟨ς,?_⟩;simp only[go_sem,k1,k2,W4];obtain⟨oa,ob,oc⟩:fA (f_ x.of.1.aA) (λm=>H3.length<=m) h1' a/\fA (f_ x.of.1.aC) (λm=>H3.length<=m) h1' b/\fA (f_ x.of.1.aD) (λm=>H3.length<=m) h1' c:=by obtain⟨o',n',e',q,z⟩:=I5 ow;cases q;exact z
  refine⟨_,rfl,En ?_ ?_ ?_,((((X0.tr X3).tr hx)).aI ω _).aI ω _⟩;·exact oG (oG (k:=n0+3) oa ω _ ω) ω _ ω
  ·exact oG (oG (k:=n0+3) ob ω _ ω) ω _ ω
  ·exact oG (oG (k:=n0+3) oc ω _ ω) ω _ ω
variable {P:Program}{f:FuncId}
def vM (P:Program)(f:FuncId):Prop:=fZ P f=true/\∀(G:Nat->Prop)(h:fu)(x:fP)(ags:List AV),fH G h x.c ags->x.aO->
 fO P f [.aF ags] h λr h'=>r=.aI [.aF x.of.1.v,.aD .i64 x.of.2]/\h'=h
end Glb
