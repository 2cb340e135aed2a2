/-
  A library of its own.
-/
import Derived.Test.YtdeiamnhnfmilaaGreatGlbImgC
set_option linter.unusedSimpArgs false
set_option linter.unusedVariables false
set_option maxRecDepth 10000
set_option maxHeartbeats 8000000
namespace Glb
open Go
theorem LL {P:Program}{f g:FuncId}(hf:Is P f (wP g))(hg:Is P g qk){F:Nat->Prop}{h:eW}{s q:Nat}{st:fH}(hs:lG F h s q st):
  fC P f [.aC s 2 0 0] h λr h'=>r=.aA .i64 st.aD/\h'=h:=by
 refine fU hf ?_;obtain⟨b,st',hs,rfl⟩:=hs;have B:=hs.1;simp only[wP,go_sem,B];cases b with
 | true=>simp only[go_sem];exact rfl
 | false=>simp only[go_sem,B];refine gh hg.2 (GS hg hs.2.1) ?_;simp only[go_sem];exact rfl
def gX.aG (a b:gX):Bool:=decide (a.aA<b.aA) || (decide (a.aA=b.aA) && decide (a.aC<b.aC))
def xY (P:Program)(f:FuncId):Prop:=fP P f=true/\∀(h:eW)(a b:gX)(az bs:List AV),az=[.aA .i64 a.aA,.aA .i64 a.aC,.aA .i64 a.aE,.aA .i64 a.aD,.aA .i64 a.aF]->bs=[.aA .i64 b.aA,.aA .i64 b.aC,.aA .i64 b.aE,.aA .i64 b.aD,.aA .i64 b.aF]->
 fC P f [.aF az,.aF bs] h λr h'=>r=.aE (a.aG b)/\h'=h
theorem MW {P:Program}{f:FuncId}(hf:Is P f z_):xY P f:=by
 refine⟨hf.2,λh a b az bs e1 e2=>jN rfl (fU hf ?_)⟩;subst e1;subst e2;simp only[z_,go_sem];by_cases c1:a.aA<b.aA;·simp only[go_sem,Uu c1];exact⟨by simp[gX.aG,c1],eV.b2 _ _⟩
 ·simp only[go_sem,Us c1];by_cases c2:a.aA=b.aA;·simp only[go_sem,Uu c2];exact⟨by simp[gX.aG,c2],eV.b2 _ _⟩
  ·simp only[go_sem,Us c2];exact⟨by simp[gX.aG,c1,c2],eV.b2 _ _⟩
def ie (l:List Int):fq×Int:=
 if (iS.aA (some l)).2.aD≠0 then (⟨[],[],[]⟩,(iS.aA (some l)).2.aD) else if (iS.aA (some l)).1.aE=true then ((iS.aA (some l)).1,0) else (⟨[],[],[]⟩,29)
theorem lG.up {F:Nat->Prop}{h h':eW}{s q:Nat}{st:fH}(hs:lG F h s q st)(e:eV eY h h'):lG F h' s q st:=by obtain⟨b',s',S',e'⟩:=hs;exact⟨b',s',S'.up e,e'⟩
theorem lG.aC {F:Nat->Prop}{h:eW}{s q:Nat}{st:fH}(hs:lG F h s q st){n:Nat}(hn:s<n)(x:Option e_):lG F (h.set n x) s q st:=by obtain⟨b',s',S',e'⟩:=hs;exact⟨b',s',S'.aC hn x,e'⟩
theorem CK {F:Nat->Prop}{h:eW}{q:Nat}{st:fH}(hr:iI F h q st)(hF:∀m,F m->m<q):jq F (h++[some (.aA 2 [[.aC q 2 0 0,.aE false]] false)]) h.length q false st:=
 ⟨gH _ _,hr.up (eV.b1 _),hF,hr.lt⟩
theorem fH.aE {st:fH}(h:st.aD=0):st=some []:=by
 cases st with
 | none=>cases h
 | some l=>cases l with
  | nil=>rfl
  | cons a l=>simp[fH.aD]at h
def Dn (P:Program)(f:FuncId):Prop:=fP P f=true/\∀(G:Nat->Prop)(h:eW)(x:jo)(az:List AV),fm G h x.c az->kV.ok x->(kV.aC x).length<=2^33->
 fC P f [.aF az] h λr h'=>∃(d v:AV)(k:Nat),r=.aF [d,v]/\eX (rA x.aA) (λm=>h.length<=m/\m<k) h' d/\eX (lT x.aD) (λm=>k<=m) h' v/\h.length<=k/\eV eY h h'
def Dm (P:Program)(f:FuncId):Prop:=fP P f=true/\∀(G:Nat->Prop)(h:eW)(x:fZ)(az:List AV),fm G h x.c az->kP.ok x->(kP.aC x).length<=2^33->
 fC P f [.aF az] h λr h'=>∃bs,r=.aF bs/\fI x.c (λm=>h.length<=m) h' bs/\eV eY h h'
def uf (P:Program)(f:FuncId):Prop:=fP P f=true/\∀(G:Nat->Prop)(h:eW)(l:List Int)(b:AV),Rd G h (gj l) b->gI l->l.length<=2^37->
 fC P f [b] h λr h'=>∃az,r=.aI [.aF az,.aA .i64 (ie l).2]/\fI (ie l).1.c (λm=>h.length<=m) h' az/\eV eY h h'
theorem qB {F F':Nat->Prop}{h h':eW}:∀{l:List gX} {ys:List (List AV)},fG (l.map gX.c) F h ys->fG (l.map gX.c) F' h' ys
 | [],ys,hh=>hh
 | v :: l,ys,hh=>by obtain⟨a,r,rfl,h1,h2⟩:=hh;obtain rfl:=GP h1;exact⟨_,r,rfl,⟨_,_,rfl,iJ _ _ _,_,_,rfl,iJ _ _ _,_,_,rfl,iJ _ _ _,_,_,rfl,iJ _ _ _,_,_,rfl,iJ _ _ _,rfl⟩,qB h2⟩
theorem O9 {F:Nat->Prop}{h:eW}{l:List gX}{a:AV}{k:Nat}(ho:eX (lT l) F h a)(hn:pX k 5 a):eX (lT l) (λm=>k<=m) h a:=by
 simp only[lT,eX]at ho ⊢;rcases ho with ho | ho | ⟨n,off,cap,row,g,rfl,h1,h2,h3,h4,h5⟩
 ·exact .inl ho
 ·exact .inr (.inl ho)
 ·exact .inr (.inr ⟨n,off,cap,row,g,rfl,hn _ _ _ _ rfl,h2,h3,h4,qB h5⟩)
theorem Mh {P:Program}{f pu rd hd lh vt lv:FuncId}(hf:Is P f (Aa pu rd hd lh vt lv))(hp:yG P pu)(hr:sI P rd)(hh:jt P hd fF.c jW.aA)(W:o_ P lh 10 fF.c jW.aA)(hv:jt P vt gX.c jE.aA)(U:o_ P lv 5 gX.c jE.aA):Dn P f:=by
 refine⟨hf.2,λG h x az hx O u=>fU hf ?_⟩;obtain⟨xd,xv,rfl,a4,a2⟩:=CC hx;simp only[Aa,go_sem,a4.aA,a2.aA];have A0:=iO h (some (.aA 2 [[xd,xv]] false)) (some (.aA 2 [[.aD,.aD]] false));have X0:eV eY h (h++[some (.aA 2 [[xd,xv]] false)]++[some (.aA 2 [[.aD,.aD]] false)]):=eV.b2 _ _;have l0:h.length+2=(h++[some (e_.aA 2 [[xd,xv]] false)]++[some (e_.aA 2 [[.aD,.aD]] false)]).length:=by simp
 have a1:=hx.up X0;generalize h++[some (e_.aA 2 [[xd,xv]] false)]++[some (e_.aA 2 [[.aD,.aD]] false)]=H0 at *;refine gh hp.1 (hp.2 G H0 x _ a1 u) ?_;simp only[go_sem];have a5:gI (kV.aC x):=kV.aF x O;have back:=kV.aE x [] O;rw[Vo]at back;generalize hl:kV.aC x=l at *;have hb:Rd eY H0 (gj l) (i9 l):=kZ _ _ _;refine fA ⟨hr.1,hr.2 eY H0 l _ hb a5 (by omega)⟩ ?_;rintro _ h1 ⟨q,rfl,hq,r1,x1⟩;simp only[go_sem];have S1:=CK r1 (λm hm=>hm.2);have lq:=r1.lt;have X1:eV eY H0 (h1++[some (.aA 2 [[.aC q 2 0 0,.aE false]] false)]):=x1.tr (eV.b1 _);have lb:h1.length<(h1++[some (e_.aA 2 [[.aC q 2 0 0,.aE false]] false)]).length:=by simp
 generalize h1++[some (e_.aA 2 [[.aC q 2 0 0,.aE false]] false)]=H1 at *;refine fA ⟨W.1,W.2 hd hh jW.aD _ H1 h1.length q _ ⟨false,_,S1,rfl⟩⟩ ?_;rintro a H2 ⟨xs,hO,-,S2,X2,M⟩;simp only[go_sem,hO.aA,gC hO.aA];have S3:=S2.up (eV.b1 (some (.aA 2 [[a,.aD]] false)));have A3:=gH H2 (some (.aA 2 [[a,.aD]] false));have X3:eV (iX h1.length q) H1 (H2++[some (.aA 2 [[a,.aD]] false)]):=X2.aD (eV.b1 _) (λ_ _ x=>x) (λ_ _ x=>x.elim);have E:=eX.aC (F':=λm=>(H0.length<=m/\m<q)\/H1.length<=m/\m<H2.length) _ (λm hm=>by rcases hm.1 with e | e;exact .inl e;exact .inr ⟨e,hm.2⟩) ((eV.b1 (h:=H2) (some (.aA 2 [[a,.aD]] false))).aE _) _ (eX.lt _ _ hO);have l2:=X2.1;have l3:H2.length+1=(H2++[some (e_.aA 2 [[a,.aD]] false)]).length:=by simp
 generalize H2++[some (e_.aA 2 [[a,.aD]] false)]=H3 at *;refine fA ⟨U.1,U.2 vt hv jE.aD _ H3 h1.length q _ S3⟩ ?_;rintro v H4 ⟨ys,hV,a6,S4,X4,hy⟩;have lx:=x1.1;have A4:H4[H2.length]?=_:=(X4.2 _ (by omega) (by simp only[iX];omega)).trans A3;have l4:=X4.1;have I:H2.length<H4.length:=by omega
 have A5:H4[h.length+1]?=_:=(((X1.aD X3 (F'':=iX h1.length q) (λ_ _ x=>x.elim) (λ_ _ x=>x)).aD X4 (λ_ _ x=>x) (λ_ _ x=>x)).2 _ (by omega) (by simp only[iX];omega)).trans A0;have XX:eV eY h (H4.set H2.length (some (.aA 2 [[a,v]] false))):=((((X0.aD X1 (λ_ _ x=>x) (λ_ _ x=>x)).aD X3 (F'':=eY) (λ_ _ x=>x) (λm hm e=>by simp only[iX]at e;omega)).aD X4 (F'':=eY) (λ_ _ x=>x) (λm hm e=>by simp only[iX]at e;omega))).aG (by omega) _;have S5:=S4.aC (n:=H2.length) (by omega) (some (.aA 2 [[a,v]] false));have A6:(H4.set H2.length (some (.aA 2 [[a,v]] false)))[H2.length]?=_:=Ux I;have A7:(H4.set H2.length (some (.aA 2 [[a,v]] false)))[h.length+1]?=_:=(Uq (by omega)).trans A5;have oA:eX (rA xs) (λm=>h.length<=m/\m≠h.length+1) (H4.set H2.length (some (.aA 2 [[a,v]] false))) a:=eX.aC _ (λm hm=>by omega) (λm hm y hy=>by rw[Uq (by omega),X4.2 m (by omega) (by simp only[iX];omega)];exact hy) _ E;have oV:eX (lT ys) (λm=>h.length<=m/\m≠h.length+1) (H4.set H2.length (some (.aA 2 [[a,v]] false))) v:=eX.aC _ (λm hm=>by omega) (λm hm y hy=>by rw[Uq (by omega)];exact hy) _ hV;have dl:kV.aA (some l)=(⟨(iG jW.aA (some l)).1,(iG jE.aA (iG jW.aA (some l)).2).1⟩,(iG jE.aA (iG jW.aA (some l)).2).2):=rfl;have Z:(H2.length=h.length+1)=False:=UO (by omega);have h3:h.length+1<H4.length:=by omega
 simp only[go_sem,hV.aA,gC hV.aA,E.aA,A4,I,A5,Z,h3,UA];have ef:fH.aA false (some l)=some l:=rfl;rw[ef]at M hy;rw[dl]at back;have b1:=WQ Prod.fst back;have b2:=WQ Prod.snd back;simp only at b1 b2;have a3:(iG jW.aA (some l)).2≠none:=λhz=>by rw[hz,show (iG jE.aA none).2=none from (pK jE).aD]at b2;cases b2
 have a7:x=⟨xs,ys⟩:=by rw[<-b1,M a3,hy (by rw[b2];simp)]
 subst a7;refine⟨a,v,H3.length,rfl,?_,?_,by omega,XX.aG (by omega) _⟩;·refine eX.aC _ (λm hm=>by omega) (λm hm y hy=>?_) _ E;rw[Uq (by omega),Uq (by omega),X4.2 m (by omega) (by simp only[iX];omega)];exact hy
 ·refine eX.aC _ (λm hm=>hm) (λm hm y hy=>?_) _ (O9 hV a6);rw[Uq (by omega),Uq (by omega)];exact hy
theorem Mf {P:Program}{f pu rd ch:FuncId}(hf:Is P f (Ab pu rd ch))(hp:ky P pu fZ.c kP.aC)(hr:sI P rd)(hc:jt P ch fZ.c kP.aA):Dm P f:=by
 refine⟨hf.2,λG h x az hx u e=>fU hf ?_⟩;have ha:az.length=17:=by rw[uz hx];rfl
 have M:=hx.aC;have tk:az.take 17=az:=UU (by omega);have CH:(AV.aF az).aK=some az:=rfl;simp only[Ab,go_sem,ha,M,tk];generalize hz:(e_.aA 17 [[.aA .i64 0,.aA .i64 0,.aA .i64 0,.aA .i64 0,.aA .i64 0,.aA .i64 0,.aA .i64 0,.aD,.aD,.aD,.aD,.aD,.aA .i64 0,.aA .i64 0,.aA .i64 0,.aA .i64 0,.aA .i64 0]] false)=Z;have A0:=iO h (some (.aA 17 [az] false)) (some Z);have X0:eV eY h (h++[some (.aA 17 [az] false)]++[some Z]):=eV.b2 _ _;have l0:h.length+2=(h++[some (e_.aA 17 [az] false)]++[some Z]).length:=by simp
 have I:=hx.up X0;generalize h++[some (e_.aA 17 [az] false)]++[some Z]=H0 at *;refine gh hp.1 (hp.2 eY G H0 [] .aD x az (Rd.aK 1) I (by simpa using e)) ?_;simp only[go_sem];have W:gI (kP.aC x):=kP.aF x u;have back:=kP.aE x [] u;rw[Vo]at back;generalize hl:kP.aC x=l at *;have hb:Rd eY H0 (gj l) (i9 l):=kZ _ _ _;refine fA ⟨hr.1,hr.2 eY H0 l _ hb W (by omega)⟩ ?_;rintro _ h1 ⟨q,rfl,hq,r1,x1⟩;simp only[go_sem];have S1:=CK r1 (λm hm=>hm.2);have lq:=r1.lt;have X1:eV eY H0 (h1++[some (.aA 2 [[.aC q 2 0 0,.aE false]] false)]):=x1.tr (eV.b1 _);have lb:h1.length<(h1++[some (e_.aA 2 [[.aC q 2 0 0,.aE false]] false)]).length:=by simp
 generalize h1++[some (e_.aA 2 [[.aC q 2 0 0,.aE false]] false)]=H1 at *;refine fA ⟨hc.1,hc.2 _ H1 h1.length q _ ⟨false,_,S1,rfl⟩⟩ ?_;rintro _ H2 ⟨y,bs,rfl,hO,S2,X2,hy⟩;have lx:=x1.1;have l2:=X2.1;have A2:H2[h.length+1]?=_:=((X1.aD X2 (F'':=iX h1.length q) (λ_ _ x=>x.elim) (λ_ _ x=>x)).2 _ (by omega) (by simp only[iX];omega)).trans A0;have a1:bs.length=17:=by rw[we hO];rfl
 have O:=hO.aD;have sm:∀z:List AV,z.length=17->jS z 0 bs=bs:=λz hz=>Hw (by omega);have l3:h.length+1<H2.length:=by omega
 subst hz;have E:bs.take 17=bs:=UU (by omega);simp only[go_sem,A2,l3,a1,O,sm,E];have ef:fH.aA false (some l)=some l:=rfl;rw[ef,back]at hy;rw[hy (by simp)]at hO;exact⟨_,rfl,fI.aA _ (λm hm=>by omega) (λm hm y hy=>by rw[Uq (by omega)];exact hy) _ hO,((((X0.aD X1 (λ_ _ x=>x) (λ_ _ x=>x)).aD X2 (F'':=eY) (λ_ _ x=>x) (λm hm U=>by simp only[iX]at U;omega)))).aG (by omega) _⟩
theorem Li {l r:List Int}{x:fq}(hb:gI l)(h:iS.aA (some l)=(x,some r)):8*x.aA.length<=l.length/\8*x.aC.length<=l.length/\8*x.aD.length<=l.length/\l=iS.aC x++r/\iS.ok x:=by obtain⟨e,ok⟩:=iS.aG l x r hb h;have h1:=lU x.aA;have h2:=lU x.aC;have h3:=lU x.aD;have e2:=WQ List.length e;rw[uO]at e2;simp only[fq.aG,Ut]at e2;exact⟨by omega,by omega,by omega,e,ok⟩
theorem IF {P:Program}{f rd co en e0 ck:FuncId}(hf:Is P f (zX rd co en ck))(hr:sI P rd)(hc:jt P co fq.c iS.aA)(he:Is P en (wP e0))(a1:Is P e0 qk)(hk:yd P ck):uf P f:=by
 refine⟨hf.2,λG h l b hb E hlen=>fU hf ?_⟩;simp only[zX,go_sem];have A0:=gH h (some (.aA 3 [[.aD,.aD,.aD]] false));have X0:eV eY h (h++[some (.aA 3 [[.aD,.aD,.aD]] false)]):=eV.b1 _;have l0:h.length+1=(h++[some (e_.aA 3 [[.aD,.aD,.aD]] false)]).length:=by simp
 have hb:=hb.up X0;generalize h++[some (e_.aA 3 [[.aD,.aD,.aD]] false)]=H0 at *;refine fA ⟨hr.1,hr.2 G H0 l b hb E (by omega)⟩ ?_;rintro _ h1 ⟨q,rfl,hq,r1,x1⟩;simp only[go_sem];have S1:=CK r1 (λm hm=>hm.2);have lq:=r1.lt;have X1:eV eY H0 (h1++[some (.aA 2 [[.aC q 2 0 0,.aE false]] false)]):=x1.tr (eV.b1 _);have lb:h1.length<(h1++[some (e_.aA 2 [[.aC q 2 0 0,.aE false]] false)]).length:=by simp
 generalize h1++[some (e_.aA 2 [[.aC q 2 0 0,.aE false]] false)]=H1 at *;refine fA ⟨hc.1,hc.2 _ H1 h1.length q _ ⟨false,_,S1,rfl⟩⟩ ?_;rintro _ H2 ⟨y,az,rfl,hO,S2,X2,hy⟩;obtain⟨o,n,e,rfl,U,O,M⟩:=Cq hO;have lx:=x1.1;have l2:=X2.1;have A2:H2[h.length]?=_:=((X1.aD X2 (F'':=iX h1.length q) (λ_ _ x=>x.elim) (λ_ _ x=>x)).2 _ (by omega) (by simp only[iX];omega)).trans A0;have XX:eV eY h (H2++[some (.aA 3 [[o,n,e]] false)]):=((((X0.aD X1 (λ_ _ x=>x) (λ_ _ x=>x)).aD X2 (F'':=eY) (λ_ _ x=>x) (λm hm Z=>by simp only[iX]at Z;omega)))).tr (eV.b1 _);simp only[go_sem,U.aA,O.aA,M.aA];have S3:=S2.up (eV.b1 (some (.aA 3 [[o,n,e]] false)));have A3:=gH H2 (some (.aA 3 [[o,n,e]] false));have A4:(H2++[some (.aA 3 [[o,n,e]] false)])[h.length]?=_:=(mZ (by omega) _).trans A2;have l3:H2.length+1=(H2++[some (e_.aA 3 [[o,n,e]] false)]).length:=by simp
 have I:fI y.c (λm=>h.length<=m/\m≠h.length) (H2++[some (.aA 3 [[o,n,e]] false)]) [o,n,e]:=fI.aA _ (λm hm=>by omega) ((eV.b1 _).aE _) _ hO;generalize H2++[some (e_.aA 3 [[o,n,e]] false)]=H3 at *;have ef:fH.aA false (some l)=some l:=rfl;rw[ef]at hy S3;simp only[ie];have few:iS.aA (some l)=((iS.aA (some l)).1,some [])->(iS.aA (some l)).1.aH (2^38):=λhh=>by obtain⟨n1,n2,n3,-⟩:=Li E hh;exact⟨by omega,by omega,by omega⟩
 generalize iS.aA (some l)=R at *;refine gh he.2 (LL he a1 S3) ?_;have l4:h.length<H3.length:=by omega
 have fin:∀(d w z:AV)(x:fq),fI x.c (λm=>h.length<=m/\m≠h.length) H3 [d,w,z]->fI x.c (λm=>h.length<=m) (H3.set h.length (some (.aA 3 [[d,w,z]] false))) [d,w,z]/\eV eY h (H3.set h.length (some (.aA 3 [[d,w,z]] false))):=by intro d w z x o1;exact⟨fI.aA _ (λm hm=>hm.1) (λm hm y hy=>by rw[Uq (by omega)];exact hy) _ o1,XX.aG (by omega) _⟩
 have u:=fin .aD .aD .aD ⟨[],[],[]⟩ ⟨_,_,rfl,eX.aD _,_,_,rfl,eX.aD _,_,_,rfl,eX.aD _,rfl⟩;simp only[go_sem];by_cases c:R.2.aD=0
 ·have es:=fH.aE c;have ey:=hy (by rw[es];simp);subst ey;have fw:=few (by rw[<-es]);have R3:fm (λ_=>True) H3 R.1.c [o,n,e]:=fI.rd _ (λ_ _=>UF) _ I;have c':¬R.2.aD≠0:=by simpa using c
  rw[Uw c'];simp only[go_sem,c,A3];refine gh hk.1 (hk.2 _ H3 R.1 _ R3 fw) ?_;cases cr:R.1.aE with
  | true=>simp only[go_sem,A3,A4,l4,U.aA,O.aA,M.aA];exact⟨_,rfl,fin o n e _ I⟩
  | false=>have W:decide ((29:Int)=0)=false:=rfl;simp only[go_sem,W,A4,l4];exact⟨_,rfl,u⟩
 ·have c':R.2.aD≠0:=c;rw[Uv c'];simp only[go_sem,Us c,A4,l4];exact⟨_,rfl,u⟩
end Glb
