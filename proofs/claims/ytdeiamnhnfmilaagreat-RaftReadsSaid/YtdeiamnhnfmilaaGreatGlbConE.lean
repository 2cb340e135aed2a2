/-
  A library of its own.
-/
import Derived.Test.YtdeiamnhnfmilaaGreatGlbConD
import Derived.Test.YtdeiamnhnfmilaaGreatGlbGetA
set_option linter.unusedSimpArgs false
set_option linter.unusedVariables false
set_option maxRecDepth 10000
set_option maxHeartbeats 8000000
namespace Glb
open Go
theorem LJ (Kn:eW->Prop)(Ks:AX->eW->Prop)(st:St):rb Kn Ks .aA ⟨none,false,st⟩=Kn st.h:=by simp[rb]
theorem LK (Kn:eW->Prop)(Ks:AX->eW->Prop)(x:AX)(st:St):rb Kn Ks .aC ⟨some x,false,st⟩=Ks x st.h:=by simp[rb]
def C7 (P:Program)(f:FuncId):Prop:=fP P f=true/\∀(Y:Yl)(J:Nat->eW->Prop)(Ks:AX->eW->Prop)(G:Nat->Prop)(h:eW)(nb:Nat)(a:AV)(l:List fT),
 (∀avs h (R R':Option AX->eW->Prop),(∀j h,R j h->R' j h)->Y avs h R->Y avs h R')->l.length<=2^40->J l.length h->
 (∀k h',J k h'->h'[nb]?=some (some (.aA 1 [[a]] false))/\Rd G h' (gN l) a)->
 (∀k h' d (R:Option AX->eW->Prop) (hk:k<l.length),J (k+1) h'->Rd G h' (gj l[k].aC) d->(∀h2,J k h2->R none h2)->(∀x h2,Ks x h2->R (some x) h2)->Y [.aA .i64 k,.aF [.aA .i64 l[k].aA,.aA .i64 l[k].aD,d]] h' R)->
 tZ P f [.aC nb 1 0 0] h Y (J 0) Ks
theorem JQ {P:Program}{f:FuncId}(hf:vX P true f xW):C7 P f:=by
 refine⟨hf.1,λY J Ks G h nb a l hY hl E hJ hB=>Q4 hf.2 rfl (Vx rfl) λy=>?_⟩;show iQ P y Y xW.aA ⟨none,false,⟨[(0,.aN (.func (.yield y) #[] #[])),(1,.aC nb 1 0 0)],[],h⟩⟩ (rb (J 0) Ks);obtain⟨b1,hr⟩:=hJ _ h E;have la:ik a=some (.aA .i64 l.length):=by have:=hr.aC;simpa [gN] using this
 have e0:IntKind.i64.wrap ((l.length:Int)-1)=l.length-1:=gi (by omega);simp only[xW,go_sem,b1,la,e0];obtain⟨I,hI⟩:∃I:Nat->fV->eW->Prop,∀m L h',I m L h'↔lk 0 L=.aN (.func (.yield y) #[] #[])/\lk 1 L=.aC nb 1 0 0/\lk 3 L=.aA .i64 (m-1)/\J m h'/\m<=l.length:=⟨_,λ_ _ _=>VW⟩;refine RD hY I l.length ((hI _ _ _).2 ⟨by simp[fj,h_],by simp[fj,h_],by simp[fj],E,by omega⟩) ?_;intro m L h' hh;obtain⟨k0,k1,k3,e,hk⟩:=(hI _ _ _).1 hh;obtain⟨b1,hr⟩:=hJ m h' e;simp only[go_sem,k3];refine iw (λck=>?_) (λck=>?_)
 ·simp at ck;obtain⟨k,rfl⟩:∃k,m=k+1:=⟨m-1,by omega⟩;have u:k<l.length:=by omega
  have ek:((k+1:Nat):Int)-1=k:=by omega
  have e1:IntKind.i64.wrap ((k:Int)-1)=k-1:=gi (by omega);rw[ek]at k3;obtain⟨p,cs,i1,i2,i3⟩:=Rd.aE hr .i64 (i:=(k:Int)) (d:=l[k].c) (by omega) (by rw[show ((k:Int)).toNat=k by omega,U_,Ur u];rfl);obtain⟨d,rfl,hd⟩:=G7 i3;have ld:ir h' true 3 p=some (.aF [.aA .i64 l[k].aA,.aA .i64 l[k].aD,d]):=by rw[ju i2];rfl
  simp only[go_sem,k0,k1,k3,b1,i1,ld];refine hB k h' d _ u e hd ?_ ?_;·intro h2 O;simp only[go_sem,Option.isNone_none,U2,k3,e1];exact⟨k,by omega,(hI _ _ _).2 ⟨by simp[fj,k0],by simp[fj,k1],by simp[fj],O,by omega⟩⟩
  ·intro x h2 M;simp only[go_sem,Wd,Vc,LK];exact M
 ·simp at ck;have:m=0:=by omega
  subst this;simp only[go_sem,LJ];exact e
def jQ (l:List fT):Nat->Option (fq×Nat)
 | 0=>none
 | k+1=>match l[k]? with
  | none=>jQ l k
  | some e=>if e.aD=2/\(ie e.aC).2=0 then some ((ie e.aC).1,k) else jQ l k
def fF.aK (x:fF)(k:Nat):fq×Int:=match jQ x.aA.es k with
 | none=>(x.aD,x.aA.aA)
 | some (c,k)=>(c,x.aA.aA+1+k)
def fF.of (x:fF):fq×Int:=x.aK x.aA.es.length
theorem BG {l:List fT}:∀{k:Nat}{c:fq}{i:Nat},jQ l k=some (c,i)->i<k
 | 0,_,_,h=>by cases h
 | k+1,c,i,h=>by
  unfold jQ at h;split at h;·have:=BG h;omega
  ·split at h;·cases h;omega
   ·have:=BG h;omega
theorem fF.aS {x:fF}{k:Nat}(hk:k<x.aA.es.length):x.aK (k+1)=if x.aA.es[k].aD=2/\(ie x.aA.es[k].aC).2=0 then ((ie x.aA.es[k].aC).1,x.aA.aA+1+k) else x.aK k:=by
 have e1:jQ x.aA.es (k+1)=if x.aA.es[k].aD=2/\(ie x.aA.es[k].aC).2=0 then some ((ie x.aA.es[k].aC).1,k) else jQ x.aA.es k:=by rw[jQ,Ur hk]
 unfold fF.aK;rw[e1];by_cases c:x.aA.es[k].aD=2/\(ie x.aA.es[k].aC).2=0;·rw[Uv c,Uv c]
 ·rw[Uw c,Uw c]
structure fF.aO (x:fF):Prop where
 aA:0<=x.aA.aA/\x.aA.aA<=2^41
 aE:x.aA.es.length<=2^40
 aD:∀e∈x.aA.es,gI e.aC/\e.aC.length<=2^37
 aC:x.aD.aH (2^40)
def wc (P:Program)(f:FuncId):Prop:=fP P f=true/\∀(G:Nat->Prop)(h:eW)(x:fF)(ags:List AV),fm G h x.c ags->x.aO->
 fC P f [.aF ags] h λr h'=>∃cs,r=.aI [.aF cs,.aA .i64 x.of.2]/\fI x.of.1.c (λm=>h.length<=m) h' cs/\eV eY h h'
def C8 (P:Program)(f sf:FuncId):Prop:=fP P f=true/\∀(h:eW)(a:AV),a.aH=true->fC P f [a] h λr h'=>r=.aL sf [] [.aC h.length 1 0 0]/\h'[h.length]?=some (some (.aA 1 [[a]] false))/\eV eY h h'
theorem JP {P:Program}{f sf:FuncId}(hf:Is P f (Bs sf)):C8 P f sf:=by refine⟨hf.2,λh a sa=>fU hf ?_⟩;simp only[Bs,go_sem,sa,gC sa];exact eV.b1 _
theorem GL {x:fq}{F:Nat->Prop}{h:eW}{a:List AV}(hh:fI x.c F h a):∃o n e,a=[o,n,e]/\eX (fM x.aA) F h o/\eX (fM x.aC) F h n/\eX (fM x.aD) F h e:=by simp only[fq.c,fI]at hh;obtain⟨o,_,rfl,ho,n,_,rfl,hn,e,_,rfl,he,rfl⟩:=hh;exact⟨o,n,e,rfl,ho,hn,he⟩
theorem OQ {P:Program}{f g1 g2 g3 sf:FuncId}(hf:vX P false f (vu g1 g2 g3))(h1:C8 P g1 sf)(hs:C7 P sf)(h2:uf P g2)(h3:vO P g3):wc P f:=by
 refine⟨hf.1,λG h x ags ha hR=>QX hf.2 (Vx rfl) ?_⟩;obtain⟨e,o,n,l,s,rfl,he,ho,hn,hl,hsn⟩:=m9 ha;show iQ P 0 (λ_ _ _=>False) (vu g1 g2 g3).aA ⟨none,false,⟨[(0,.aF (x.aH e o n l s))],[],h⟩⟩ (za (vu g1 g2 g3).aC _);simp only[vu,fF.aH,go_sem,he.aA,ho.aA,hn.aA,hl.aA,hsn.aA];obtain⟨H,hH⟩:∃H,H=h++[some (e_.aA 10 [[.aA .i64 x.aE,.aA .i64 x.aC,.aA .i64 x.aF,.aA .i64 x.aA.aA,.aA .i64 x.aA.aD,e,o,n,l,s]] false)]++[some (.aA 3 [[.aD,.aD,.aD]] false)]++[some (.aA 1 [[.aA .i64 0]] false)]:=⟨_,rfl⟩;have B0:H[h.length]?=some (some (.aA 10 [[.aA .i64 x.aE,.aA .i64 x.aC,.aA .i64 x.aF,.aA .i64 x.aA.aA,.aA .i64 x.aA.aD,e,o,n,l,s]] false)):=by rw[hH];exact oJ _ _ _ _
 have B1:H[h.length+1]?=some (some (.aA 3 [[.aD,.aD,.aD]] false)):=by rw[hH];exact pF _ _ _ _
 have B2:H[h.length+1+1]?=some (some (.aA 1 [[.aA .i64 0]] false)):=by rw[hH];exact rk _ _ _ _
 have X0:eV eY h H:=by rw[hH];exact eV.b3 _ _ _
 have L0:H.length=h.length+3:=by rw[hH];simp
 rw[<-hH];clear hH;have hb:=hR.aA;have hlen:=hR.aE;have hcf:=hR.aC;obtain⟨n0,hn0⟩:∃n,n=h.length:=⟨_,rfl⟩;rw[<-hn0]at B0 B1 B2 L0 ⊢;refine fA ⟨h1.1,h1.2 H e he.aA⟩ ?_;rintro _ H3 ⟨rfl,D0,X3⟩;simp only[go_sem];have he3:=(he.up X0).up X3;have C0:=X3.aA B0;have C1:=X3.aA B1;have C2:=X3.aA B2;have l3:n0+3<=H3.length:=by have:=X3.1;omega
 obtain⟨J,hJ⟩:∃J:Nat->eW->Prop,∀k h',J k h'↔eV eY H3 h'/\x.of=x.aK k/\k<=x.aA.es.length:=⟨_,λ_ _=>VW⟩;obtain⟨Ks,hKs⟩:∃Ks:AX->eW->Prop,∀y h',Ks y h'↔y=.aC/\∃h1 a b c,eV eY H3 h1/\fI x.of.1.c (λm=>H3.length<=m) h1 [a,b,c]/\h'=(h1.set (n0+1) (some (.aA 3 [[a,b,c]] false))).set (n0+1+1) (some (.aA 1 [[.aA .i64 x.of.2]] false)):=⟨_,λ_ _=>VW⟩;refine RG (gf:=sf) (cs:=[.aC H.length 1 0 0]) (Kn:=J 0) (Ks:=Ks) (by simp[St.aA,fj]) hs.1 (hs.2 _ J Ks G H3 _ e x.aA.es (J7 _ _ _ _) hlen ((hJ _ _).2 ⟨eV.aC _ _,rfl,Uy _⟩) ?_ ?_) ?_ ?_;·intro k h' hk;obtain⟨hx,-,-⟩:=(hJ _ _).1 hk;exact⟨hx.aA D0,he3.up hx⟩
 ·intro k h' d R hk hjk hd hn' hs';obtain⟨hx,hof,-⟩:=(hJ _ _).1 hjk;rw[J6 _ _ _ _ _ _ _ rfl];have sd:=hd.aA;have mem:=hR.aD _ (UT hk);have step:x.aK (k+1)=if x.aA.es[k].aD=2/\(ie x.aA.es[k].aC).2=0 then ((ie x.aA.es[k].aC).1,x.aA.aA+1+k) else x.aK k:=by
   have e1:jQ x.aA.es (k+1)=if x.aA.es[k].aD=2/\(ie x.aA.es[k].aC).2=0 then some ((ie x.aA.es[k].aC).1,k) else jQ x.aA.es k:=by rw[jQ,Ur hk]
   unfold fF.aK;rw[e1];by_cases c:x.aA.es[k].aD=2/\(ie x.aA.es[k].aC).2=0;·rw[Uv c,Uv c]
   ·rw[Uw c,Uw c]
  rw[step]at hof;generalize x.aA.es[k]=y at *;simp only[rG,List.zip_cons_cons,List.zip_nil_right,go_sem,sd];have ek:k<=x.aA.es.length:=by omega
  have w1:IntKind.i64.wrap (x.aA.aA+1)=x.aA.aA+1:=gi (by omega);have w2:IntKind.i64.wrap (x.aA.aA+1+(k:Int))=x.aA.aA+1+k:=gi (by omega);by_cases c1:y.aD=2
  ·simp only[go_sem,Uu c1,U2];have Xa:eV eY h' (h'++[some (.aA 3 [[.aA .i64 y.aA,.aA .i64 y.aD,d]] false)]):=eV.b1 _;generalize h'++[some (e_.aA 3 [[.aA .i64 y.aA,.aA .i64 y.aD,d]] false)]=H4 at *;refine fA ⟨h2.1,h2.2 G H4 y.aC d (hd.up Xa) mem.1 mem.2⟩ ?_;rintro _ H5 ⟨ags,rfl,hown,hx5⟩;obtain⟨a,b,c,rfl,oa,ob,oc⟩:=GL hown;have X5:=(hx.tr Xa).tr hx5;have E0:=X5.aA C0;have E1:=X5.aA C1;have E2:=X5.aA C2;have l5:=X5.1;have X6:eV eY H5 (H5++[some (.aA 3 [[a,b,c]] false)]):=eV.b1 _;have F0:=X6.aA E0;have F1:=X6.aA E1;have F2:=X6.aA E2;have F3:(H5++[some (e_.aA 3 [[a,b,c]] false)])[H5.length]?=_:=gH _ _;have lH4:H3.length<=H4.length:=(hx.tr Xa).1;have ow:fI (ie y.aC).1.c (λm=>H3.length<=m) (H5++[some (e_.aA 3 [[a,b,c]] false)]) [a,b,c]:=fI.aA _ (λm hm=>by omega) (X6.aE _) _ hown;by_cases c2:(ie y.aC).2=0
   ·rw[Uv ⟨c1,c2⟩]at hof;have k1:n0+1<H5.length+1:=by omega
    have k2:n0+1+1<H5.length+1:=by omega
    simp only[go_sem,oa.aA,ob.aA,oc.aA,Uu c2,F0,F1,F2,w1,w2,k1,k2,UA];exact hs' _ _ ((hKs _ _).2 ⟨rfl,_,a,b,c,X5.tr X6,by rw[hof];exact ow,by rw[hof]⟩)
   ·rw[Uw (λz=>c2 z.2)]at hof;simp only[go_sem,oa.aA,ob.aA,oc.aA,Us c2];exact hn' _ ((hJ _ _).2 ⟨X5.tr X6,hof,ek⟩)
  ·rw[Uw (λz=>c1 z.1)]at hof;simp only[go_sem,Us c1,Vc];exact hn' _ ((hJ _ _).2 ⟨hx.tr (eV.b1 _),hof,ek⟩)
 ·intro h' hk;obtain⟨hx,hof,-⟩:=(hJ _ _).1 hk;have hof:x.of=(x.aD,x.aA.aA):=hof;have E0:=hx.aA C0;have E1:=hx.aA C1;have E2:=hx.aA C2;have xx:=(X0.tr X3).tr hx;have lx:=hx.1;obtain⟨f1,f2,f3⟩:=id hcf;simp only[go_sem,E0,ho.aA,hn.aA,hl.aA];have G0:(h'++[some (e_.aA 3 [[o,n,l]] false)])[n0]?=_:=(eV.b1 _).aA E0;have G1:(h'++[some (e_.aA 3 [[o,n,l]] false)])[n0+1]?=_:=(eV.b1 _).aA E1;have G2:(h'++[some (e_.aA 3 [[o,n,l]] false)])[n0+1+1]?=_:=(eV.b1 _).aA E2;have G3:(h'++[some (e_.aA 3 [[o,n,l]] false)])[h'.length]?=some (some (.aA 3 [[o,n,l]] false)):=gH _ _;have xy:eV eY h (h'++[some (e_.aA 3 [[o,n,l]] false)]):=xx.tr (eV.b1 _);have ho6:=ho.up xy;have hn6:=hn.up xy;have hl6:=hl.up xy;have l6:n0+3<=(h'++[some (e_.aA 3 [[o,n,l]] false)]).length:=by simp;omega
  generalize h'++[some (e_.aA 3 [[o,n,l]] false)]=H6 at *;simp only[go_sem,G0];refine fA ⟨h3.1,h3.2 G H6 x.aD.aA o ho6 (by omega)⟩ ?_;rintro r1 H7 ⟨ro,-,rx⟩;have M0:=rx.aA G0;have M1:=rx.aA G1;have M2:=rx.aA G2;have M3:=rx.aA G3;simp only[go_sem,M0,M3];refine fA ⟨h3.1,h3.2 G H7 x.aD.aC n (hn6.up rx) (by omega)⟩ ?_;rintro r2 H8 ⟨uo,-,ux⟩;have N0:=ux.aA M0;have N1:=ux.aA M1;have N2:=ux.aA M2;have N3:=ux.aA M3;simp only[go_sem,N0,N3];refine fA ⟨h3.1,h3.2 G H8 x.aD.aD l ((hl6.up rx).up ux) (by omega)⟩ ?_;rintro r3 H9 ⟨vo,-,vx⟩;have P0:=vx.aA N0;have P1:=vx.aA N1;have P2:=vx.aA N2;have P3:=vx.aA N3;have g1:=rx.1;have g2:=ux.1;have g3:=vx.1;have k1:n0+1<H9.length:=by omega
  have k2:n0+1+1<H9.length:=by omega
  have X:=(rx.tr ux).tr vx;simp only[go_sem,P0,P1,P2,P3,ro.aA,gC ro.aA,uo.aA,gC uo.aA,vo.aA,gC vo.aA,k1,k2,UA];rw[hof];refine⟨_,rfl,Cp ?_ ?_ ?_,((xy.tr X).aH (by omega) _).aH (by omega) _⟩;·exact nK (nK (k:=n0+3) (eX.aC (F':=λm=>n0+3<=m) _ (λm hm=>by omega) ((ux.tr vx).aE _) _ ro) (by omega) _ (by omega)) (by omega) _ (by omega)
  ·exact nK (nK (k:=n0+3) (eX.aC (F':=λm=>n0+3<=m) _ (λm hm=>by omega) (vx.aE _) _ uo) (by omega) _ (by omega)) (by omega) _ (by omega)
  ·exact nK (nK (k:=n0+3) (eX.aC (F':=λm=>n0+3<=m) _ (λm hm=>by omega) (gS.lt _ _) _ vo) (by omega) _ (by omega)) (by omega) _ (by omega)
 ·intro y h' hk;obtain⟨rfl,h1',a,b,c,hx,ow,rfl⟩:=(hKs _ _).1 hk;have E1:=hx.aA C1;have E2:=hx.aA C2;have lx:=hx.1;have k1:n0+1<h1'.length:=by omega
  have k2:n0+1+1<h1'.length:=by omega
  refine⟨by simp,?_⟩;simp only[go_sem,k1,k2,UA];obtain⟨oa,ob,oc⟩:eX (fM x.of.1.aA) (λm=>H3.length<=m) h1' a/\eX (fM x.of.1.aC) (λm=>H3.length<=m) h1' b/\eX (fM x.of.1.aD) (λm=>H3.length<=m) h1' c:=by obtain⟨o',n',e',q,z⟩:=GL ow;cases q;exact z
  refine⟨_,rfl,Cp ?_ ?_ ?_,((((X0.tr X3).tr hx)).aH (by omega) _).aH (by omega) _⟩;·exact nK (nK (k:=n0+3) oa (by omega) _ (by omega)) (by omega) _ (by omega)
  ·exact nK (nK (k:=n0+3) ob (by omega) _ (by omega)) (by omega) _ (by omega)
  ·exact nK (nK (k:=n0+3) oc (by omega) _ (by omega)) (by omega) _ (by omega)
def ui (P:Program)(f:FuncId):Prop:=fP P f=true/\∀(G:Nat->Prop)(h:eW)(x:fF)(ags:List AV),fm G h x.c ags->x.aO->
 fC P f [.aF ags] h λr h'=>r=.aI [.aF x.of.1.v,.aA .i64 x.of.2]/\h'=h
end Glb
