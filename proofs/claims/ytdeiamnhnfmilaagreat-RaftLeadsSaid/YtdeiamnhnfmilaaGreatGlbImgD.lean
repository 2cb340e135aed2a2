/-
  A library of its own.
-/
import Derived.Test.YtdeiamnhnfmilaaGreatGlbImgC
set_option linter.unusedSimpArgs false
set_option linter.unusedVariables false
set_option maxRecDepth 10000
set_option maxHeartbeats 8000000
namespace Glb
open Go
variable {P:Program}{f rd:FuncId}
theorem Og {g:FuncId}(hf:Is P f (yC g))(hg:Is P g rG){F:Nat->Prop}{h:fu}{s q:Nat}{st:fR}(hs:mA F h s q st):
  fO P f [.aA s 2 0 0] h λr h'=>r=ι st.aD/\h'=h:=by
 refine gy hf ?_;obtain⟨b,st',hs,rfl⟩:=hs;have B:=hs.1;simp only[yC,go_sem,B];cases b with
 | true=>simp only[go_sem];exact rfl
 | false=>simp only[go_sem,B];refine gH hg.2 (Ja hg hs.2.1) ?_;simp only[go_sem];exact rfl
def im.aG (a b:im):Bool:=decide (a.aA<b.aA) || (decide (a.aA=b.aA) && decide (a.aC<b.aC))
def zY (P:Program)(f:FuncId):Prop:=fZ P f=true/\∀(h:fu)(a b:im)(az bs:List AV),az=[.aD .i64 a.aA,.aD .i64 a.aC,.aD .i64 a.aE,.aD .i64 a.aD,.aD .i64 a.aF]->bs=[.aD .i64 b.aA,.aD .i64 b.aC,.aD .i64 b.aE,.aD .i64 b.aD,.aD .i64 b.aF]->
 fO P f [.aF az,.aF bs] h λr h'=>r=.aE (a.aG b)/\h'=h
theorem Pv (hf:Is P f BP):zY P f:=by
 refine⟨hf.2,λh a b az bs e1 e2=>kx rfl (gy hf ?_)⟩;subst e1;subst e2;simp only[BP,go_sem];by_cases c1:a.aA<b.aA;·simp only[go_sem,WZ c1];exact⟨by simp[im.aG,c1],fq.b2 _ _⟩
 ·simp only[go_sem,WV c1];by_cases c2:a.aA=b.aA;·simp only[go_sem,WZ c2];exact⟨by simp[im.aG,c2],fq.b2 _ _⟩
  ·simp only[go_sem,WV c2];exact⟨by simp[im.aG,c1,c2],fq.b2 _ _⟩
variable {P:Program}{f rd:FuncId}
def iG (l:List Int):fI×Int:=
 if (jz.aA (some l)).2.aD≠0 then (⟨[],[],[]⟩,(jz.aA (some l)).2.aD) else if (jz.aA (some l)).1.aF=true then ((jz.aA (some l)).1,0) else (⟨[],[],[]⟩,29)
theorem mA.up {F:Nat->Prop}{h h':fu}{s q:Nat}{st:fR}(hs:mA F h s q st)(e:fq fB h h'):mA F h' s q st:=by obtain⟨b',s',S',e'⟩:=hs;exact⟨b',s',S'.up e,e'⟩
theorem mA.aC {F:Nat->Prop}{h:fu}{s q:Nat}{st:fR}(hs:mA F h s q st){n:Nat}(hn:s<n)(x:Option fC):mA F (h.set n x) s q st:=by obtain⟨b',s',S',e'⟩:=hs;exact⟨b',s',S'.aC hn x,e'⟩
theorem EL {F:Nat->Prop}{h:fu}{q:Nat}{st:fR}(hr:je F h q st)(hF:∀m,F m->m<q):jM F (h++[some (.aA 2 [[.aA q 2 0 0,.aE false]] false)]) h.length q false st:=
 ⟨h_ _ _,hr.up (fq.b1 _),hF,hr.lt⟩
theorem fR.aE {st:fR}(h:st.aD=0):st=some []:=by
 cases st with
 | none=>cases h
 | some l=>cases l with
  | nil=>rfl
  | cons a l=>simp[fR.aD]at h
variable {P:Program}{f rd:FuncId}
def Fw (P:Program)(f:FuncId):Prop:=fZ P f=true/\∀(G:Nat->Prop)(h:fu)(x:jH)(az:List AV),fH G h x.c az->l7.ok x->(l7.aC x).length<=2^33->
 fO P f [.aF az] h λr h'=>∃(d v:AV)(k:Nat),r=.aF [d,v]/\fA (sZ x.aA) (λm=>h.length<=m/\m<k) h' d/\fA (mJ x.aD) (λm=>k<=m) h' v/\h.length<=k/\fq fB h h'
def Fv (P:Program)(f:FuncId):Prop:=fZ P f=true/\∀(G:Nat->Prop)(h:fu)(x:gE)(az:List AV),fH G h x.c az->lQ.ok x->(lQ.aC x).length<=2^33->
 fO P f [.aF az] h λr h'=>∃bs,r=.aF bs/\fU x.c (λm=>h.length<=m) h' bs/\fq fB h h'
def vL (P:Program)(f:FuncId):Prop:=fZ P f=true/\∀(G:Nat->Prop)(h:fu)(l:List Int)(b:AV),Rd G h (gG l) b->gT l->l.length<=2^37->
 fO P f [b] h λr h'=>∃az,r=.aI [.aF az,.aD .i64 (iG l).2]/\fU (iG l).1.c (λm=>h.length<=m) h' az/\fq fB h h'
theorem rS {F F':Nat->Prop}{h h':fu}:∀{l:List im} {ys:List (List AV)},fQ (l.map im.c) F h ys->fQ (l.map im.c) F' h' ys
 | [],ys,hh=>hh
 | v :: l,ys,hh=>by obtain⟨a,r,rfl,h1,h2⟩:=hh;obtain rfl:=I8 h1;exact⟨_,r,rfl,⟨_,_,rfl,jf _ _ _,_,_,rfl,jf _ _ _,_,_,rfl,jf _ _ _,_,_,rfl,jf _ _ _,_,_,rfl,jf _ _ _,rfl⟩,rS h2⟩
theorem RF {F:Nat->Prop}{h:fu}{l:List im}{a:AV}{k:Nat}(ho:fA (mJ l) F h a)(hn:qX k 5 a):fA (mJ l) (λm=>k<=m) h a:=by
 simp only[mJ,fA]at ho ⊢;rcases ho with ho | ho | ⟨n,off,cap,row,g,rfl,h1,h2,h3,h4,h5⟩
 ·exact .inl ho
 ·exact .inr (.inl ho)
 ·exact .inr (.inr ⟨n,off,cap,row,g,rfl,hn _ _ _ _ rfl,h2,h3,h4,rS h5⟩)
theorem OM {pu hd lh vt lv:FuncId}(hf:Is P f (BQ pu rd hd lh vt lv))(hp:Ax P pu)(hr:ui P rd)(hh:jP P hd fP.c kO.aA)(Z:qg P lh 10 fP.c kO.aA)(hv:jP P vt im.c j_.aA)(W:qg P lv 5 im.c j_.aA):Fw P f:=by
 refine⟨hf.2,λG h x az hx U u=>gy hf ?_⟩;obtain⟨xd,xv,rfl,a5,a3⟩:=EB hx;simp only[BQ,go_sem,a5.aA,a3.aA];have A0:=jy h (some (.aA 2 [[xd,xv]] false)) (some (.aA 2 [[.aC,.aC]] false));have X0:fq fB h (h++[some (.aA 2 [[xd,xv]] false)]++[some (.aA 2 [[.aC,.aC]] false)]):=fq.b2 _ _;have l0:h.length+2=(h++[some (fC.aA 2 [[xd,xv]] false)]++[some (fC.aA 2 [[.aC,.aC]] false)]).length:=by simp
 have a2:=hx.up X0;generalize h++[some (fC.aA 2 [[xd,xv]] false)]++[some (fC.aA 2 [[.aC,.aC]] false)]=H0 at *;refine gH hp.1 (hp.2 G H0 x _ a2 u) ?_;simp only[go_sem];have a6:gT (l7.aC x):=l7.aF x U;have back:=l7.aE x [] U;rw[Yd]at back;generalize hl:l7.aC x=l at *;have hb:Rd fB H0 (gG l) (jx l):=l_ _ _ _;refine fK ⟨hr.1,hr.2 fB H0 l _ hb a6 ω⟩ ?_;rintro _ h1 ⟨q,rfl,hq,r1,x1⟩;simp only[go_sem];have S1:=EL r1 (λm hm=>hm.2);have lq:=r1.lt;have X1:fq fB H0 (h1++[some (.aA 2 [[.aA q 2 0 0,.aE false]] false)]):=x1.tr (fq.b1 _);have lb:h1.length<(h1++[some (fC.aA 2 [[.aA q 2 0 0,.aE false]] false)]).length:=by simp
 generalize h1++[some (fC.aA 2 [[.aA q 2 0 0,.aE false]] false)]=H1 at *;refine fK ⟨Z.1,Z.2 hd hh kO.aD _ H1 h1.length q _ ⟨false,_,S1,rfl⟩⟩ ?_;rintro a H2 ⟨xs,hO,-,S2,X2,O⟩;simp only[go_sem,hO.aA,gV hO.aA];have S3:=S2.up (fq.b1 (some (.aA 2 [[a,.aC]] false)));have A3:=h_ H2 (some (.aA 2 [[a,.aC]] false));have X3:fq (jE h1.length q) H1 (H2++[some (.aA 2 [[a,.aC]] false)]):=X2.aD (fq.b1 _) (λ_ _ x=>x) (λ_ _ x=>x.elim);have E:=fA.aC (F':=λm=>(H0.length<=m/\m<q)\/H1.length<=m/\m<H2.length) _ (λm hm=>by rcases hm.1 with e | e;exact .inl e;exact .inr ⟨e,hm.2⟩) ((fq.b1 (h:=H2) (some (.aA 2 [[a,.aC]] false))).aE _) _ (fA.lt _ _ hO);have l2:=X2.1;have l3:H2.length+1=(H2++[some (fC.aA 2 [[a,.aC]] false)]).length:=by simp
 generalize H2++[some (fC.aA 2 [[a,.aC]] false)]=H3 at *;refine fK ⟨W.1,W.2 vt hv j_.aD _ H3 h1.length q _ S3⟩ ?_;rintro v H4 ⟨ys,hV,a7,S4,X4,hy⟩;have lx:=x1.1;have A4:H4[H2.length]?=_:=(X4.2 _ ω (by simp only[jE];omega)).trans A3;have l4:=X4.1;have I:H2.length<H4.length:=ω;have A5:H4[h.length+1]?=_:=(((X1.aD X3 (F'':=jE h1.length q) (λ_ _ x=>x.elim) (λ_ _ x=>x)).aD X4 (λ_ _ x=>x) (λ_ _ x=>x)).2 _ ω (by simp only[jE];omega)).trans A0;have XX:fq fB h (H4.set H2.length (some (.aA 2 [[a,v]] false))):=((((X0.aD X1 (λ_ _ x=>x) (λ_ _ x=>x)).aD X3 (F'':=fB) (λ_ _ x=>x) (λm hm e=>by simp only[jE]at e;omega)).aD X4 (F'':=fB) (λ_ _ x=>x) (λm hm e=>by simp only[jE]at e;omega))).aG ω _;have S5:=S4.aC (n:=H2.length) ω (some (.aA 2 [[a,v]] false));have A6:(H4.set H2.length (some (.aA 2 [[a,v]] false)))[H2.length]?=_:=W0 I;have A7:(H4.set H2.length (some (.aA 2 [[a,v]] false)))[h.length+1]?=_:=(WS ω).trans A5;have oA:fA (sZ xs) (λm=>h.length<=m/\m≠h.length+1) (H4.set H2.length (some (.aA 2 [[a,v]] false))) a:=fA.aC _ (λm hm=>ω) (λm hm y hy=>by rw[WS ω,X4.2 m ω (by simp only[jE];omega)];exact hy) _ E;have oV:fA (mJ ys) (λm=>h.length<=m/\m≠h.length+1) (H4.set H2.length (some (.aA 2 [[a,v]] false))) v:=fA.aC _ (λm hm=>ω) (λm hm y hy=>by rw[WS ω];exact hy) _ hV;have dl:l7.aA (some l)=(⟨(ja kO.aA (some l)).1,(ja j_.aA (ja kO.aA (some l)).2).1⟩,(ja j_.aA (ja kO.aA (some l)).2).2):=rfl;have a1:(H2.length=h.length+1)=False:=Xp ω;have h3:h.length+1<H4.length:=ω;simp only[go_sem,hV.aA,gV hV.aA,E.aA,A4,I,A5,a1,h3,W4];have ef:fR.aA false (some l)=some l:=rfl;rw[ef]at O hy;rw[dl]at back;have b1:=Y5 Prod.fst back;have b2:=Y5 Prod.snd back;simp only at b1 b2;have a4:(ja kO.aA (some l)).2≠none:=λhz=>by rw[hz,show (ja j_.aA none).2=none from (qF j_).aD]at b2;cases b2
 have a8:x=⟨xs,ys⟩:=by rw[<-b1,O a4,hy (by rw[b2];simp)]
 subst a8;refine⟨a,v,H3.length,rfl,?_,?_,ω,XX.aG ω _⟩;·refine fA.aC _ (λm hm=>ω) (λm hm y hy=>?_) _ E;rw[WS ω,WS ω,X4.2 m ω (by simp only[jE];omega)];exact hy
 ·refine fA.aC _ (λm hm=>hm) (λm hm y hy=>?_) _ (RF hV a7);rw[WS ω,WS ω];exact hy
theorem OK {pu ch:FuncId}(hf:Is P f (BR pu rd ch))(hp:lu P pu gE.c lQ.aC)(hr:ui P rd)(hc:jP P ch gE.c lQ.aA):Fv P f:=by
 refine⟨hf.2,λG h x az hx u e=>gy hf ?_⟩;have ha:az.length=17:=by rw[vS hx];rfl
 have O:=hx.aC;have tk:az.take 17=az:=Xu ω;have CH:(AV.aF az).aK=some az:=rfl;simp only[BR,go_sem,ha,O,tk];generalize hz:(fC.aA 17 [[ι 0,ι 0,ι 0,ι 0,ι 0,ι 0,ι 0,.aC,.aC,.aC,.aC,.aC,ι 0,ι 0,ι 0,ι 0,ι 0]] false)=Z;have A0:=jy h (some (.aA 17 [az] false)) (some Z);have X0:fq fB h (h++[some (.aA 17 [az] false)]++[some Z]):=fq.b2 _ _;have l0:h.length+2=(h++[some (fC.aA 17 [az] false)]++[some Z]).length:=by simp
 have I:=hx.up X0;generalize h++[some (fC.aA 17 [az] false)]++[some Z]=H0 at *;refine gH hp.1 (hp.2 fB G H0 [] .aC x az (Rd.aK 1) I (by simpa using e)) ?_;simp only[go_sem];have a1:gT (lQ.aC x):=lQ.aF x u;have back:=lQ.aE x [] u;rw[Yd]at back;generalize hl:lQ.aC x=l at *;have hb:Rd fB H0 (gG l) (jx l):=l_ _ _ _;refine fK ⟨hr.1,hr.2 fB H0 l _ hb a1 ω⟩ ?_;rintro _ h1 ⟨q,rfl,hq,r1,x1⟩;simp only[go_sem];have S1:=EL r1 (λm hm=>hm.2);have lq:=r1.lt;have X1:fq fB H0 (h1++[some (.aA 2 [[.aA q 2 0 0,.aE false]] false)]):=x1.tr (fq.b1 _);have lb:h1.length<(h1++[some (fC.aA 2 [[.aA q 2 0 0,.aE false]] false)]).length:=by simp
 generalize h1++[some (fC.aA 2 [[.aA q 2 0 0,.aE false]] false)]=H1 at *;refine fK ⟨hc.1,hc.2 _ H1 h1.length q _ ⟨false,_,S1,rfl⟩⟩ ?_;rintro _ H2 ⟨y,bs,rfl,hO,S2,X2,hy⟩;have lx:=x1.1;have l2:=X2.1;have A2:H2[h.length+1]?=_:=((X1.aD X2 (F'':=jE h1.length q) (λ_ _ x=>x.elim) (λ_ _ x=>x)).2 _ ω (by simp only[jE];omega)).trans A0;have a2:bs.length=17:=by rw[xQ hO];rfl
 have U:=hO.aD;have sm:∀z:List AV,z.length=17->kJ z 0 bs=bs:=λz hz=>JK ω;have l3:h.length+1<H2.length:=ω;subst hz;have E:bs.take 17=bs:=Xu ω;simp only[go_sem,A2,l3,a2,U,sm,E];have ef:fR.aA false (some l)=some l:=rfl;rw[ef,back]at hy;rw[hy ς]at hO;exact⟨_,rfl,fU.aA _ (λm hm=>ω) (λm hm y hy=>by rw[WS ω];exact hy) _ hO,((((X0.aD X1 (λ_ _ x=>x) (λ_ _ x=>x)).aD X2 (F'':=fB) (λ_ _ x=>x) (λm hm W=>by simp only[jE]at W;omega)))).aG ω _⟩
theorem NO {l r:List Int}{x:fI}(hb:gT l)(h:jz.aA (some l)=(x,some r)):8*x.aA.length<=l.length/\8*x.aC.length<=l.length/\8*x.aD.length<=l.length/\l=jz.aC x++r/\jz.ok x:=by obtain⟨e,ok⟩:=jz.aG l x r hb h;have h1:=mK x.aA;have h2:=mK x.aC;have h3:=mK x.aD;have e2:=Y5 List.length e;rw[wq]at e2;simp only[fI.aG,WT]at e2;exact⟨ω,ω,ω,e,ok⟩
theorem KP {co en e0 ck:FuncId}(hf:Is P f (BK rd co en ck))(hr:ui P rd)(hc:jP P co fI.c jz.aA)(he:Is P en (yC e0))(a2:Is P e0 rG)(hk:Aa P ck):vL P f:=by
 refine⟨hf.2,λG h l b hb E hlen=>gy hf ?_⟩;simp only[BK,go_sem];have A0:=h_ h (some (.aA 3 [[.aC,.aC,.aC]] false));have X0:fq fB h (h++[some (.aA 3 [[.aC,.aC,.aC]] false)]):=fq.b1 _;have l0:h.length+1=(h++[some (fC.aA 3 [[.aC,.aC,.aC]] false)]).length:=by simp
 have hb:=hb.up X0;generalize h++[some (fC.aA 3 [[.aC,.aC,.aC]] false)]=H0 at *;refine fK ⟨hr.1,hr.2 G H0 l b hb E ω⟩ ?_;rintro _ h1 ⟨q,rfl,hq,r1,x1⟩;simp only[go_sem];have S1:=EL r1 (λm hm=>hm.2);have lq:=r1.lt;have X1:fq fB H0 (h1++[some (.aA 2 [[.aA q 2 0 0,.aE false]] false)]):=x1.tr (fq.b1 _);have lb:h1.length<(h1++[some (fC.aA 2 [[.aA q 2 0 0,.aE false]] false)]).length:=by simp
 generalize h1++[some (fC.aA 2 [[.aA q 2 0 0,.aE false]] false)]=H1 at *;refine fK ⟨hc.1,hc.2 _ H1 h1.length q _ ⟨false,_,S1,rfl⟩⟩ ?_;rintro _ H2 ⟨y,az,rfl,hO,S2,X2,hy⟩;obtain⟨o,n,e,rfl,W,U,O⟩:=Eo hO;have lx:=x1.1;have l2:=X2.1;have A2:H2[h.length]?=_:=((X1.aD X2 (F'':=jE h1.length q) (λ_ _ x=>x.elim) (λ_ _ x=>x)).2 _ ω (by simp only[jE];omega)).trans A0;have XX:fq fB h (H2++[some (.aA 3 [[o,n,e]] false)]):=((((X0.aD X1 (λ_ _ x=>x) (λ_ _ x=>x)).aD X2 (F'':=fB) (λ_ _ x=>x) (λm hm a1=>by simp only[jE]at a1;omega)))).tr (fq.b1 _);simp only[go_sem,W.aA,U.aA,O.aA];have S3:=S2.up (fq.b1 (some (.aA 3 [[o,n,e]] false)));have A3:=h_ H2 (some (.aA 3 [[o,n,e]] false));have A4:(H2++[some (.aA 3 [[o,n,e]] false)])[h.length]?=_:=(nV ω _).trans A2;have l3:H2.length+1=(H2++[some (fC.aA 3 [[o,n,e]] false)]).length:=by simp
 have I:fU y.c (λm=>h.length<=m/\m≠h.length) (H2++[some (.aA 3 [[o,n,e]] false)]) [o,n,e]:=fU.aA _ (λm hm=>ω) ((fq.b1 _).aE _) _ hO;generalize H2++[some (fC.aA 3 [[o,n,e]] false)]=H3 at *;have ef:fR.aA false (some l)=some l:=rfl;rw[ef]at hy S3;simp only[iG];have few:jz.aA (some l)=((jz.aA (some l)).1,some [])->(jz.aA (some l)).1.aH (2^38):=λhh=>by obtain⟨n1,n2,n3,-⟩:=NO E hh;exact⟨ω,ω,ω⟩
 generalize jz.aA (some l)=R at *;refine gH he.2 (Og he a2 S3) ?_;have l4:h.length<H3.length:=ω;have fin:∀(d w z:AV)(x:fI),fU x.c (λm=>h.length<=m/\m≠h.length) H3 [d,w,z]->fU x.c (λm=>h.length<=m) (H3.set h.length (some (.aA 3 [[d,w,z]] false))) [d,w,z]/\fq fB h (H3.set h.length (some (.aA 3 [[d,w,z]] false))):=by intro d w z x o1;exact⟨fU.aA _ (λm hm=>hm.1) (λm hm y hy=>by rw[WS ω];exact hy) _ o1,XX.aG ω _⟩
 have u:=fin .aC .aC .aC ⟨[],[],[]⟩ ⟨_,_,rfl,fA.aD _,_,_,rfl,fA.aD _,_,_,rfl,fA.aD _,rfl⟩;simp only[go_sem];by_cases c:R.2.aD=0
 ·have es:=fR.aE c;have ey:=hy (by rw[es];simp);subst ey;have fw:=few (by rw[<-es]);have R3:fH (λ_=>True) H3 R.1.c [o,n,e]:=fU.rd _ (λ_ _=>Xb) _ I;have c':¬R.2.aD≠0:=by simpa using c
  rw[WY c'];simp only[go_sem,c,A3];refine gH hk.1 (hk.2 _ H3 R.1 _ R3 fw) ?_;cases cr:R.1.aF with
  | true=>simp only[go_sem,A3,A4,l4,W.aA,U.aA,O.aA];exact⟨_,rfl,fin o n e _ I⟩
  | false=>have Z:decide ((29:Int)=0)=false:=rfl;simp only[go_sem,Z,A4,l4];exact⟨_,rfl,u⟩
 ·have c':R.2.aD≠0:=c;rw[WW c'];simp only[go_sem,WV c,A4,l4];exact⟨_,rfl,u⟩
end Glb
