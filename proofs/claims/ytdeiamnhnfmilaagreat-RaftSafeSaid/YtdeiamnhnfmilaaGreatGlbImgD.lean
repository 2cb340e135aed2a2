/-
  A library of its own.
-/
import Derived.Test.YtdeiamnhnfmilaaGreatGlbImgC
set_option linter.unusedSimpArgs false
set_option linter.unusedVariables false
set_option maxRecDepth 10000
set_option maxHeartbeats 8000000
namespace Glb
open Go
theorem Ms {P:Program}{f g:FuncId}(hf:Is P f (xa g))(hg:Is P g qf){F:Nat->Prop}{h:eX}{s q:Nat}{st:fH}(hs:kZ F h s q st):
  fC P f [.aC s 2 0 0] h λr h'=>r=.aA .i64 st.aD/\h'=h:=by
 refine fS hf ?_;obtain⟨b,st',hs,rfl⟩:=hs;have B:=hs.1;simp only[xa,go_sem,B];cases b with
 | true=>simp only[go_sem];exact rfl
 | false=>simp only[go_sem,B];refine fZ hg.2 (HC hg hs.2.1) ?_;simp only[go_sem];exact rfl
def hP.aG (a b:hP):Bool:=decide (a.aA<b.aA) || (decide (a.aA=b.aA) && decide (a.aC<b.aC))
def ym (P:Program)(f:FuncId):Prop:=fK P f=true/\∀(h:eX)(a b:hP)(az bs:List AV),az=[.aA .i64 a.aA,.aA .i64 a.aC,.aA .i64 a.aE,.aA .i64 a.aD,.aA .i64 a.aF]->bs=[.aA .i64 b.aA,.aA .i64 b.aC,.aA .i64 b.aE,.aA .i64 b.aD,.aA .i64 b.aF]->
 fC P f [.aF az,.aF bs] h λr h'=>r=.aE (a.aG b)/\h'=h
theorem NL {P:Program}{f:FuncId}(hf:Is P f Av):ym P f:=by
 refine⟨hf.2,λh a b az bs e1 e2=>jG rfl (fS hf ?_)⟩;subst e1;subst e2;simp only[Av,go_sem];by_cases c1:a.aA<b.aA;·simp only[go_sem,U3 c1];exact⟨by simp[hP.aG,c1],eW.b2 _ _⟩
 ·simp only[go_sem,U2 c1];by_cases c2:a.aA=b.aA;·simp only[go_sem,U3 c2];exact⟨by simp[hP.aG,c2],eW.b2 _ _⟩
  ·simp only[go_sem,U2 c2];exact⟨by simp[hP.aG,c1,c2],eW.b2 _ _⟩
def im (l:List Int):fq×Int:=
 if (iV.aA (some l)).2.aD≠0 then (⟨[],[],[]⟩,(iV.aA (some l)).2.aD) else if (iV.aA (some l)).1.aE=true then ((iV.aA (some l)).1,0) else (⟨[],[],[]⟩,29)
theorem kZ.up {F:Nat->Prop}{h h':eX}{s q:Nat}{st:fH}(hs:kZ F h s q st)(e:eW eZ h h'):kZ F h' s q st:=by obtain⟨b',s',S',e'⟩:=hs;exact⟨b',s',S'.up e,e'⟩
theorem kZ.aC {F:Nat->Prop}{h:eX}{s q:Nat}{st:fH}(hs:kZ F h s q st){n:Nat}(hn:s<n)(x:Option e_):kZ F (h.set n x) s q st:=by obtain⟨b',s',S',e'⟩:=hs;exact⟨b',s',S'.aC hn x,e'⟩
theorem Dm {F:Nat->Prop}{h:eX}{q:Nat}{st:fH}(hr:iN F h q st)(hF:∀m,F m->m<q):jq F (h++[some (.aA 2 [[.aC q 2 0 0,.aE false]] false)]) h.length q false st:=
 ⟨gJ _ _,hr.up (eW.b1 _),hF,hr.lt⟩
theorem fH.aE {st:fH}(h:st.aD=0):st=some []:=by
 cases st with
 | none=>cases h
 | some l=>cases l with
  | nil=>rfl
  | cons a l=>simp[fH.aD]at h
def D7 (P:Program)(f:FuncId):Prop:=fK P f=true/\∀(G:Nat->Prop)(h:eX)(x:jf)(az:List AV),fu G h x.c az->kP.ok x->(kP.aC x).length<=2^33->
 fC P f [.aF az] h λr h'=>∃(d v:AV)(k:Nat),r=.aF [d,v]/\eY (rv x.aA) (λm=>h.length<=m/\m<k) h' d/\eY (lJ x.aD) (λm=>k<=m) h' v/\h.length<=k/\eW eZ h h'
def D6 (P:Program)(f:FuncId):Prop:=fK P f=true/\∀(G:Nat->Prop)(h:eX)(x:gi)(az:List AV),fu G h x.c az->kE.ok x->(kE.aC x).length<=2^33->
 fC P f [.aF az] h λr h'=>∃bs,r=.aF bs/\fI x.c (λm=>h.length<=m) h' bs/\eW eZ h h'
def uv (P:Program)(f:FuncId):Prop:=fK P f=true/\∀(G:Nat->Prop)(h:eX)(l:List Int)(b:AV),Rd G h (gq l) b->gF l->l.length<=2^37->
 fC P f [b] h λr h'=>∃az,r=.aI [.aF az,.aA .i64 (im l).2]/\fI (im l).1.c (λm=>h.length<=m) h' az/\eW eZ h h'
theorem qt {F F':Nat->Prop}{h h':eX}:∀{l:List hP} {ys:List (List AV)},fG (l.map hP.c) F h ys->fG (l.map hP.c) F' h' ys
 | [],ys,hh=>hh
 | v :: l,ys,hh=>by obtain⟨a,r,rfl,h1,h2⟩:=hh;obtain rfl:=Hz h1;exact⟨_,r,rfl,⟨_,_,rfl,iO _ _ _,_,_,rfl,iO _ _ _,_,_,rfl,iO _ _ _,_,_,rfl,iO _ _ _,_,_,rfl,iO _ _ _,rfl⟩,qt h2⟩
theorem PW {F:Nat->Prop}{h:eX}{l:List hP}{a:AV}{k:Nat}(ho:eY (lJ l) F h a)(hn:pU k 5 a):eY (lJ l) (λm=>k<=m) h a:=by
 simp only[lJ,eY]at ho ⊢;rcases ho with ho | ho | ⟨n,off,cap,row,g,rfl,h1,h2,h3,h4,h5⟩
 ·exact .inl ho
 ·exact .inr (.inl ho)
 ·exact .inr (.inr ⟨n,off,cap,row,g,rfl,hn _ _ _ _ rfl,h2,h3,h4,qt h5⟩)
theorem MX {P:Program}{f pu rd hd lh vt lv:FuncId}(hf:Is P f (Aw pu rd hd lh vt lv))(hp:yQ P pu)(hr:sH P rd)(hh:jt P hd fF.c jX.aA)(U:o9 P lh 10 fF.c jX.aA)(hv:jt P vt hP.c jI.aA)(O:o9 P lv 5 hP.c jI.aA):D7 P f:=by
 refine⟨hf.2,λG h x az hx M u=>fS hf ?_⟩;obtain⟨xd,xv,rfl,a3,a1⟩:=Db hx;simp only[Aw,go_sem,a3.aA,a1.aA];have A0:=iF h (some (.aA 2 [[xd,xv]] false)) (some (.aA 2 [[.aD,.aD]] false));have X0:eW eZ h (h++[some (.aA 2 [[xd,xv]] false)]++[some (.aA 2 [[.aD,.aD]] false)]):=eW.b2 _ _;have l0:h.length+2=(h++[some (e_.aA 2 [[xd,xv]] false)]++[some (e_.aA 2 [[.aD,.aD]] false)]).length:=by simp
 have Z:=hx.up X0;generalize h++[some (e_.aA 2 [[xd,xv]] false)]++[some (e_.aA 2 [[.aD,.aD]] false)]=H0 at *;refine fZ hp.1 (hp.2 G H0 x _ Z u) ?_;simp only[go_sem];have a4:gF (kP.aC x):=kP.aF x M;have back:=kP.aE x [] M;rw[VY]at back;generalize hl:kP.aC x=l at *;have hb:Rd eZ H0 (gq l) (iS l):=kS _ _ _;refine fy ⟨hr.1,hr.2 eZ H0 l _ hb a4 (by omega)⟩ ?_;rintro _ h1 ⟨q,rfl,hq,r1,x1⟩;simp only[go_sem];have S1:=Dm r1 (λm hm=>hm.2);have lq:=r1.lt;have X1:eW eZ H0 (h1++[some (.aA 2 [[.aC q 2 0 0,.aE false]] false)]):=x1.tr (eW.b1 _);have lb:h1.length<(h1++[some (e_.aA 2 [[.aC q 2 0 0,.aE false]] false)]).length:=by simp
 generalize h1++[some (e_.aA 2 [[.aC q 2 0 0,.aE false]] false)]=H1 at *;refine fy ⟨U.1,U.2 hd hh jX.aD _ H1 h1.length q _ ⟨false,_,S1,rfl⟩⟩ ?_;rintro a H2 ⟨xs,hO,-,S2,X2,I⟩;simp only[go_sem,hO.aA,gz hO.aA];have S3:=S2.up (eW.b1 (some (.aA 2 [[a,.aD]] false)));have A3:=gJ H2 (some (.aA 2 [[a,.aD]] false));have X3:eW (i_ h1.length q) H1 (H2++[some (.aA 2 [[a,.aD]] false)]):=X2.aD (eW.b1 _) (λ_ _ x=>x) (λ_ _ x=>x.elim);have C:=eY.aC (F':=λm=>(H0.length<=m/\m<q)\/H1.length<=m/\m<H2.length) _ (λm hm=>by rcases hm.1 with e | e;exact .inl e;exact .inr ⟨e,hm.2⟩) ((eW.b1 (h:=H2) (some (.aA 2 [[a,.aD]] false))).aE _) _ (eY.lt _ _ hO);have l2:=X2.1;have l3:H2.length+1=(H2++[some (e_.aA 2 [[a,.aD]] false)]).length:=by simp
 generalize H2++[some (e_.aA 2 [[a,.aD]] false)]=H3 at *;refine fy ⟨O.1,O.2 vt hv jI.aD _ H3 h1.length q _ S3⟩ ?_;rintro v H4 ⟨ys,hV,a5,S4,X4,hy⟩;have lx:=x1.1;have A4:H4[H2.length]?=_:=(X4.2 _ (by omega) (by simp only[i_];omega)).trans A3;have l4:=X4.1;have E:H2.length<H4.length:=by omega
 have A5:H4[h.length+1]?=_:=(((X1.aD X3 (F'':=i_ h1.length q) (λ_ _ x=>x.elim) (λ_ _ x=>x)).aD X4 (λ_ _ x=>x) (λ_ _ x=>x)).2 _ (by omega) (by simp only[i_];omega)).trans A0;have XX:eW eZ h (H4.set H2.length (some (.aA 2 [[a,v]] false))):=((((X0.aD X1 (λ_ _ x=>x) (λ_ _ x=>x)).aD X3 (F'':=eZ) (λ_ _ x=>x) (λm hm e=>by simp only[i_]at e;omega)).aD X4 (F'':=eZ) (λ_ _ x=>x) (λm hm e=>by simp only[i_]at e;omega))).aH (by omega) _;have S5:=S4.aC (n:=H2.length) (by omega) (some (.aA 2 [[a,v]] false));have A6:(H4.set H2.length (some (.aA 2 [[a,v]] false)))[H2.length]?=_:=U5 E;have A7:(H4.set H2.length (some (.aA 2 [[a,v]] false)))[h.length+1]?=_:=(UZ (by omega)).trans A5;have oA:eY (rv xs) (λm=>h.length<=m/\m≠h.length+1) (H4.set H2.length (some (.aA 2 [[a,v]] false))) a:=eY.aC _ (λm hm=>by omega) (λm hm y hy=>by rw[UZ (by omega),X4.2 m (by omega) (by simp only[i_];omega)];exact hy) _ C;have oV:eY (lJ ys) (λm=>h.length<=m/\m≠h.length+1) (H4.set H2.length (some (.aA 2 [[a,v]] false))) v:=eY.aC _ (λm hm=>by omega) (λm hm y hy=>by rw[UZ (by omega)];exact hy) _ hV;have dl:kP.aA (some l)=(⟨(iK jX.aA (some l)).1,(iK jI.aA (iK jX.aA (some l)).2).1⟩,(iK jI.aA (iK jX.aA (some l)).2).2):=rfl;have W:(H2.length=h.length+1)=False:=Vm (by omega);have h3:h.length+1<H4.length:=by omega
 simp only[go_sem,hV.aA,gz hV.aA,C.aA,A4,E,A5,W,h3,U9];have ef:fH.aA false (some l)=some l:=rfl;rw[ef]at I hy;rw[dl]at back;have b1:=W_ Prod.fst back;have b2:=W_ Prod.snd back;simp only at b1 b2;have a2:(iK jX.aA (some l)).2≠none:=λhz=>by rw[hz,show (iK jI.aA none).2=none from (pH jI).aD]at b2;cases b2
 have a6:x=⟨xs,ys⟩:=by rw[<-b1,I a2,hy (by rw[b2];simp)]
 subst a6;refine⟨a,v,H3.length,rfl,?_,?_,by omega,XX.aH (by omega) _⟩;·refine eY.aC _ (λm hm=>by omega) (λm hm y hy=>?_) _ C;rw[UZ (by omega),UZ (by omega),X4.2 m (by omega) (by simp only[i_];omega)];exact hy
 ·refine eY.aC _ (λm hm=>hm) (λm hm y hy=>?_) _ (PW hV a5);rw[UZ (by omega),UZ (by omega)];exact hy
theorem MV {P:Program}{f pu rd ch:FuncId}(hf:Is P f (Ax pu rd ch))(hp:kr P pu gi.c kE.aC)(hr:sH P rd)(hc:jt P ch gi.c kE.aA):D6 P f:=by
 refine⟨hf.2,λG h x az hx u e=>fS hf ?_⟩;have ha:az.length=17:=by rw[uC hx];rfl
 have I:=hx.aC;have tk:az.take 17=az:=Vs (by omega);have CH:(AV.aF az).aL=some az:=rfl;simp only[Ax,go_sem,ha,I,tk];generalize hz:(e_.aA 17 [[.aA .i64 0,.aA .i64 0,.aA .i64 0,.aA .i64 0,.aA .i64 0,.aA .i64 0,.aA .i64 0,.aD,.aD,.aD,.aD,.aD,.aA .i64 0,.aA .i64 0,.aA .i64 0,.aA .i64 0,.aA .i64 0]] false)=Z;have A0:=iF h (some (.aA 17 [az] false)) (some Z);have X0:eW eZ h (h++[some (.aA 17 [az] false)]++[some Z]):=eW.b2 _ _;have l0:h.length+2=(h++[some (e_.aA 17 [az] false)]++[some Z]).length:=by simp
 have E:=hx.up X0;generalize h++[some (e_.aA 17 [az] false)]++[some Z]=H0 at *;refine fZ hp.1 (hp.2 eZ G H0 [] .aD x az (Rd.aK 1) E (by simpa using e)) ?_;simp only[go_sem];have U:gF (kE.aC x):=kE.aF x u;have back:=kE.aE x [] u;rw[VY]at back;generalize hl:kE.aC x=l at *;have hb:Rd eZ H0 (gq l) (iS l):=kS _ _ _;refine fy ⟨hr.1,hr.2 eZ H0 l _ hb U (by omega)⟩ ?_;rintro _ h1 ⟨q,rfl,hq,r1,x1⟩;simp only[go_sem];have S1:=Dm r1 (λm hm=>hm.2);have lq:=r1.lt;have X1:eW eZ H0 (h1++[some (.aA 2 [[.aC q 2 0 0,.aE false]] false)]):=x1.tr (eW.b1 _);have lb:h1.length<(h1++[some (e_.aA 2 [[.aC q 2 0 0,.aE false]] false)]).length:=by simp
 generalize h1++[some (e_.aA 2 [[.aC q 2 0 0,.aE false]] false)]=H1 at *;refine fy ⟨hc.1,hc.2 _ H1 h1.length q _ ⟨false,_,S1,rfl⟩⟩ ?_;rintro _ H2 ⟨y,bs,rfl,hO,S2,X2,hy⟩;have lx:=x1.1;have l2:=X2.1;have A2:H2[h.length+1]?=_:=((X1.aD X2 (F'':=i_ h1.length q) (λ_ _ x=>x.elim) (λ_ _ x=>x)).2 _ (by omega) (by simp only[i_];omega)).trans A0;have W:bs.length=17:=by rw[wq hO];rfl
 have M:=hO.aD;have sm:∀z:List AV,z.length=17->jT z 0 bs=bs:=λz hz=>Io (by omega);have l3:h.length+1<H2.length:=by omega
 subst hz;have C:bs.take 17=bs:=Vs (by omega);simp only[go_sem,A2,l3,W,M,sm,C];have ef:fH.aA false (some l)=some l:=rfl;rw[ef,back]at hy;rw[hy (by simp)]at hO;exact⟨_,rfl,fI.aA _ (λm hm=>by omega) (λm hm y hy=>by rw[UZ (by omega)];exact hy) _ hO,((((X0.aD X1 (λ_ _ x=>x) (λ_ _ x=>x)).aD X2 (F'':=eZ) (λ_ _ x=>x) (λm hm O=>by simp only[i_]at O;omega)))).aH (by omega) _⟩
theorem LY {l r:List Int}{x:fq}(hb:gF l)(h:iV.aA (some l)=(x,some r)):8*x.aA.length<=l.length/\8*x.aC.length<=l.length/\8*x.aD.length<=l.length/\l=iV.aC x++r/\iV.ok x:=by obtain⟨e,ok⟩:=iV.aG l x r hb h;have h1:=lL x.aA;have h2:=lL x.aC;have h3:=lL x.aD;have e2:=W_ List.length e;rw[uT]at e2;simp only[fq.aF,U1]at e2;exact⟨by omega,by omega,by omega,e,ok⟩
theorem Jr {P:Program}{f rd co en e0 ck:FuncId}(hf:Is P f (Aq rd co en ck))(hr:sH P rd)(hc:jt P co fq.c iV.aA)(he:Is P en (xa e0))(Z:Is P e0 qf)(hk:ug P ck):uv P f:=by
 refine⟨hf.2,λG h l b hb C hlen=>fS hf ?_⟩;simp only[Aq,go_sem];have A0:=gJ h (some (.aA 3 [[.aD,.aD,.aD]] false));have X0:eW eZ h (h++[some (.aA 3 [[.aD,.aD,.aD]] false)]):=eW.b1 _;have l0:h.length+1=(h++[some (e_.aA 3 [[.aD,.aD,.aD]] false)]).length:=by simp
 have hb:=hb.up X0;generalize h++[some (e_.aA 3 [[.aD,.aD,.aD]] false)]=H0 at *;refine fy ⟨hr.1,hr.2 G H0 l b hb C (by omega)⟩ ?_;rintro _ h1 ⟨q,rfl,hq,r1,x1⟩;simp only[go_sem];have S1:=Dm r1 (λm hm=>hm.2);have lq:=r1.lt;have X1:eW eZ H0 (h1++[some (.aA 2 [[.aC q 2 0 0,.aE false]] false)]):=x1.tr (eW.b1 _);have lb:h1.length<(h1++[some (e_.aA 2 [[.aC q 2 0 0,.aE false]] false)]).length:=by simp
 generalize h1++[some (e_.aA 2 [[.aC q 2 0 0,.aE false]] false)]=H1 at *;refine fy ⟨hc.1,hc.2 _ H1 h1.length q _ ⟨false,_,S1,rfl⟩⟩ ?_;rintro _ H2 ⟨y,az,rfl,hO,S2,X2,hy⟩;obtain⟨o,n,e,rfl,O,M,I⟩:=vv hO;have lx:=x1.1;have l2:=X2.1;have A2:H2[h.length]?=_:=((X1.aD X2 (F'':=i_ h1.length q) (λ_ _ x=>x.elim) (λ_ _ x=>x)).2 _ (by omega) (by simp only[i_];omega)).trans A0;have XX:eW eZ h (H2++[some (.aA 3 [[o,n,e]] false)]):=((((X0.aD X1 (λ_ _ x=>x) (λ_ _ x=>x)).aD X2 (F'':=eZ) (λ_ _ x=>x) (λm hm W=>by simp only[i_]at W;omega)))).tr (eW.b1 _);simp only[go_sem,O.aA,M.aA,I.aA];have S3:=S2.up (eW.b1 (some (.aA 3 [[o,n,e]] false)));have A3:=gJ H2 (some (.aA 3 [[o,n,e]] false));have A4:(H2++[some (.aA 3 [[o,n,e]] false)])[h.length]?=_:=(mW (by omega) _).trans A2;have l3:H2.length+1=(H2++[some (e_.aA 3 [[o,n,e]] false)]).length:=by simp
 have E:fI y.c (λm=>h.length<=m/\m≠h.length) (H2++[some (.aA 3 [[o,n,e]] false)]) [o,n,e]:=fI.aA _ (λm hm=>by omega) ((eW.b1 _).aE _) _ hO;generalize H2++[some (e_.aA 3 [[o,n,e]] false)]=H3 at *;have ef:fH.aA false (some l)=some l:=rfl;rw[ef]at hy S3;simp only[im];have few:iV.aA (some l)=((iV.aA (some l)).1,some [])->(iV.aA (some l)).1.aG (2^38):=λhh=>by obtain⟨n1,n2,n3,-⟩:=LY C hh;exact⟨by omega,by omega,by omega⟩
 generalize iV.aA (some l)=R at *;refine fZ he.2 (Ms he Z S3) ?_;have l4:h.length<H3.length:=by omega
 have fin:∀(d w z:AV)(x:fq),fI x.c (λm=>h.length<=m/\m≠h.length) H3 [d,w,z]->fI x.c (λm=>h.length<=m) (H3.set h.length (some (.aA 3 [[d,w,z]] false))) [d,w,z]/\eW eZ h (H3.set h.length (some (.aA 3 [[d,w,z]] false))):=by intro d w z x o1;exact⟨fI.aA _ (λm hm=>hm.1) (λm hm y hy=>by rw[UZ (by omega)];exact hy) _ o1,XX.aH (by omega) _⟩
 have u:=fin .aD .aD .aD ⟨[],[],[]⟩ ⟨_,_,rfl,eY.aD _,_,_,rfl,eY.aD _,_,_,rfl,eY.aD _,rfl⟩;simp only[go_sem];by_cases c:R.2.aD=0
 ·have es:=fH.aE c;have ey:=hy (by rw[es];simp);subst ey;have fw:=few (by rw[<-es]);have R3:fu (λ_=>True) H3 R.1.c [o,n,e]:=fI.rd _ (λ_ _=>Vd) _ E;have c':¬R.2.aD≠0:=by simpa using c
  rw[U6 c'];simp only[go_sem,c,A3];refine fZ hk.1 (hk.2 _ H3 R.1 _ R3 fw) ?_;cases cr:R.1.aE with
  | true=>simp only[go_sem,A3,A4,l4,O.aA,M.aA,I.aA];exact⟨_,rfl,fin o n e _ E⟩
  | false=>have U:decide ((29:Int)=0)=false:=rfl;simp only[go_sem,U,A4,l4];exact⟨_,rfl,u⟩
 ·have c':R.2.aD≠0:=c;rw[U4 c'];simp only[go_sem,U2 c,A4,l4];exact⟨_,rfl,u⟩
end Glb
