/-
  A library of its own.
-/
import Derived.Test.YtdeiamnhnfmilaaGreatGlbImgB
set_option linter.unusedSimpArgs false
set_option linter.unusedVariables false
set_option maxRecDepth 10000
set_option maxHeartbeats 8000000
namespace Glb
open Go
variable {P:Program}{f g k fi l bd:FuncId}
def jM (F:Nat->Prop)(h:fu)(s q:Nat)(b:Bool)(st:fR):Prop:=
 h[s]?=some (some (.aA 2 [[.aA q 2 0 0,.aE b]] false))/\je F h q st/\(∀m,F m->m<q)/\q<s
def fR.aA (b:Bool)(st:fR):fR:=if b then none else st
def mA (F:Nat->Prop)(h:fu)(s q:Nat)(st:fR):Prop:=∃(b:Bool)(st':fR),jM F h s q b st'/\st=fR.aA b st'
abbrev jE (s q:Nat):Nat->Prop:=λm=>m=s\/m=q
theorem nV {h:fu}{s:Nat}(hs:s<h.length)(x:Option fC):(h++[x])[s]?=h[s]?:=Xy hs
theorem IW {h:fu}{s:Nat}(hs:s<h.length)(x y:Option fC):(h++[x]++[y])[s]?=h[s]?:=by rw[nV (by simp;omega),nV hs]
theorem jM.lt {F:Nat->Prop}{h:fu}{s q:Nat}{b:Bool}{st:fR}(hs:jM F h s q b st):s<h.length:=(WR.1 hs.1).1
theorem jM.up {F:Nat->Prop}{h h':fu}{s q:Nat}{b:Bool}{st:fR}(hs:jM F h s q b st)(e:fq fB h h'):jM F h' s q b st:=
 ⟨(e.2 _ hs.lt (λx=>x)).trans hs.1,hs.2.1.up e,hs.2.2⟩
theorem jM.aA {F:Nat->Prop}{h h':fu}{s q:Nat}{b:Bool}{st u:fR}(hs:jM F h s q b st)(e:fq (iO q) h h')(hr:je F h' q u):jM F h' s q b u:=
 ⟨(e.2 _ hs.lt (by have:=hs.2.2.2;simp only[iO];omega)).trans hs.1,hr,hs.2.2⟩
theorem jM.nq {F:Nat->Prop}{h:fu}{s q:Nat}{b:Bool}{st:fR}(hs:jM F h s q b st):¬F q:=λhq=>by have:=hs.2.2.1 _ hq;omega
theorem jM.ns {F:Nat->Prop}{h:fu}{s q:Nat}{b:Bool}{st:fR}(hs:jM F h s q b st):¬F s:=λhq=>by have:=hs.2.2.1 _ hq;have:=hs.2.2.2;omega
theorem iN {n k s sz i o:Nat}(h:s<n):ij n k (.aA s sz i o)=true:=by simp[ij];omega
theorem rW {h:fu}{n:Nat} (hn:h[n]?=some none) (x:Option fC):(h.set n x).set n none=h:=by
 rw[Yi];apply XT;intro i;rw[Yz];split;·rename_i e;subst e;rw[hn];simp[(WR.1 hn).1]
 ·rfl
theorem jM.aC {F:Nat->Prop}{h:fu}{s q:Nat}{b:Bool}{st:fR}(hs:jM F h s q b st){n:Nat}(hn:s<n)(x:Option fC):jM F (h.set n x) s q b st:=by
 have:=hs.2.2.2;have nF:¬F n:=λhq=>by have:=hs.2.2.1 _ hq;omega
 exact⟨by rw[WS ω];exact hs.1,hs.2.1.aA (WS ω) (λm hm y hy=>by rw[WS (by rintro rfl;exact nF hm)];exact hy),hs.2.2⟩
theorem I7 {d:D}{F:Nat->Prop}{h:fu}{a:AV}(ho:fA d F h a){n:Nat}(hn:¬F n)(x:Option fC):fA d F (h.set n x) a:=Eu ho hn x
theorem fq.aG {F:Nat->Prop}{h h':fu}(e:fq F h h'){n:Nat}(hn:h.length<=n)(x:Option fC):fq F h (h'.set n x):=
 ⟨by rw[W4];exact e.1,λm hm hF=>by rw[WS ω];exact e.2 m hm hF⟩
theorem jf (F:Nat->Prop)(h:fu)(n:Int):fA (.aA .i64 n) F h (.aD .i64 n):=by simp only[fA]
def jP {T:Type}(P:Program)(f:FuncId)(c:T->List D)(dec:fR->T×fR):Prop:=
 fZ P f=true/\∀(F:Nat->Prop)(h:fu)(s q:Nat)(st:fR),mA F h s q st->
  fO P f [.aA s 2 0 0] h λr h'=>∃(x:T)(az:List AV),r=.aF az/\fU (c x) (λm=>F m\/h.length<=m) h' az/\mA F h' s q (dec st).2/\fq (jE s q) h h'/\((dec st).2≠none->x=(dec st).1)
theorem jP.of {T:Type}{P:Program}{f:FuncId}{c:T->List D}{dec:fR->T×fR}(hn:(dec none).2=none)(h1:fZ P f=true)
  (h2:∀(F:Nat->Prop)(h:fu)(s q:Nat)(b:Bool)(st:fR),jM F h s q b st->
   fO P f [.aA s 2 0 0] h λr h'=>∃(az:List AV),r=.aF az/\fU (c (dec st).1) (λm=>F m\/h.length<=m) h' az/\jM F h' s q b (dec st).2/\fq (iO q) h h'):jP P f c dec:=by
 refine⟨h1,λF h s q st ⟨b,st',hs,e⟩=>(h2 F h s q b st' hs).aA λr h' ⟨az,hr,ho,hs',hx⟩=>⟨_,az,hr,ho,⟨b,_,hs',?_⟩,hx.aD (fq.aC fB _) (λ_ _ x=>.inr x) (λ_ _ x=>x.elim),?_⟩⟩
 ·subst e;cases b;·rfl
  ·exact hn
 ·subst e;cases b;·intro _;rfl
  ·intro hh;exact absurd hn hh
theorem Ol (hf:Is P f (B8 g k))(hg:nN P g)(hk:tT P k):jP P f gw.c lL.aA:=by
 refine jP.of lL.aD hf.2 λF h s q b st hs=>gy hf ?_;have hlt:=hs.lt;have B:=hs.1;have B2:∀x y:Option fC,(h++[x]++[y])[s]?=ar 2 [[.aA q 2 0 0,.aE b]]:=λx y=>(IW hlt x y).trans hs.1;simp only[B8,go_sem,B2];have S0:=hs.up (fq.b2 (some (.aA 3 [[ι 0,ι 0,.aC]] false)) none);have C0:=kr h (some (.aA 3 [[ι 0,ι 0,.aC]] false)) none;have D0:=jy h (some (.aA 3 [[ι 0,ι 0,.aC]] false)) none;have E0:fq fB h (h++[some (.aA 3 [[ι 0,ι 0,.aC]] false)]++[none]):=fq.b2 _ _;generalize h++[some (fC.aA 3 [[ι 0,ι 0,.aC]] false)]++[none]=H0 at *;have NR:∀k,ij (h.length+1) k (.aA s 2 0 0)=true:=λk=>iN ω;simp only[NR,true_and];refine fK ⟨hg.1,hg.2 F _ q st S0.2.1 hs.nq⟩ ?_;rintro _ H1 ⟨rfl,r1,x1⟩;have S1:=S0.aA x1 r1;have hq:=hs.2.2.2;have lH:=E0.1;have C1:H1[h.length]?=_:=(x1.2 _ (WR.1 C0).1 (by simp only[iO];omega)).trans C0;have B1:=S1.1;have D1:H1[h.length+1]?=some none:=(x1.2 _ (WR.1 D0).1 (by simp only[iO];omega)).trans D0;have e:(h.length+1=s)=False:=Xp ω;simp only[go_sem,qC,nX,B1,D1,e,rW D1];refine fK ⟨hg.1,hg.2 F _ q _ S1.2.1 hs.nq⟩ ?_;rintro _ H2 ⟨rfl,r2,x2⟩;have S2:=S1.aA x2 r2;have lH1:=x1.1;have C2:H2[h.length]?=_:=(x2.2 _ (WR.1 C1).1 (by simp only[iO];omega)).trans C1;have D2:H2[h.length+1]?=some none:=(x2.2 _ (WR.1 D1).1 (by simp only[iO];omega)).trans D1;have B2:=S2.1;have l2:=(WR.1 D2).1;simp only[go_sem,nX,B2,D2,e,l2];rw[Yi];have S3:=S2.aC (n:=h.length+1) ω (some (.aA 3 [[ι (gq st).1,ι (gq (gq st).2).1,.aC]] false));have C3:(H2.set (h.length+1) (some (.aA 3 [[ι (gq st).1,ι (gq (gq st).2).1,.aC]] false)))[h.length]?=_:=(WS ω).trans C2;have D3:=W0 (a:=some (fC.aA 3 [[ι (gq st).1,ι (gq (gq st).2).1,.aC]] false)) l2;have E3:fq (iO q) h (H2.set (h.length+1) (some (.aA 3 [[ι (gq st).1,ι (gq (gq st).2).1,.aC]] false))):=
  (E0.aD (x1.aD x2 (λ_ _ x=>x) (λ_ _ x=>x)) (λ_ _ x=>x.elim) (λ_ _ x=>x)).aG ω _
 generalize H2.set (h.length+1) (some (fC.aA 3 [[ι (gq st).1,ι (gq (gq st).2).1,.aC]] false))=H3 at *;refine fK ⟨hk.1,hk.2 F _ q _ S3.2.1 hs.nq⟩ ?_;rintro r H4 ⟨o4,r4,x4⟩;have S4:=S3.aA x4 r4;have lH3:=E3.1;have C4:H4[h.length]?=_:=(x4.2 _ (WR.1 C3).1 (by simp only[iO];omega)).trans C3;have D4:H4[h.length+1]?=_:=(x4.2 _ (WR.1 D3).1 (by simp only[iO];omega)).trans D3;have l4:=(WR.1 D4).1;have u:=(WR.1 C4).1;simp only[go_sem,D4,l4,u,o4.aA,gV o4.aA,C4,W4];refine⟨_,rfl,?_,(S4.aC ω _).aC ω _,((E3.aD x4 (λ_ _ x=>x) (λ_ _ x=>x)).aG ω _).aG ω _⟩;have o5:=fA.aC (F':=λm=>F m\/h.length<=m) _ (λ_ x=>.inl x) (λ_ _ _ x=>x) _ (I7 (I7 o4 (n:=h.length+1) (λhq=>by have:=hs.2.2.1 _ hq;omega) (some (.aA 3 [[ι (gq st).1,ι (gq (gq st).2).1,r]] false))) (n:=h.length) (λhq=>by have:=hs.2.2.1 _ hq;omega) (some (.aA 3 [[ι (gq st).1,ι (gq (gq st).2).1,r]] false)));exact⟨_,_,rfl,jf _ _ _,_,_,rfl,jf _ _ _,_,_,rfl,o5,rfl⟩
theorem Wn (hf:Is P f (Cb g))(hg:nN P g):jP P f im.c j_.aA:=by refine jP.of j_.aD hf.2 λF h s q b st hs=>gy hf ?_;have hlt:=hs.lt;have hq:=hs.2.2.2;have BB:∀x:Option fC,(h++[x])[s]?=ar 2 [[.aA q 2 0 0,.aE b]]:=λx=>(nV hlt x).trans hs.1;simp only[Cb,go_sem,BB];have S0:=hs.up (fq.b1 (some (.aA 5 [[ι 0,ι 0,ι 0,ι 0,ι 0]] false)));have C0:=h_ h (some (.aA 5 [[ι 0,ι 0,ι 0,ι 0,ι 0]] false));have E0:fq fB h (h++[some (.aA 5 [[ι 0,ι 0,ι 0,ι 0,ι 0]] false)]):=fq.b1 _;have lH0:=E0.1;generalize h++[some (fC.aA 5 [[ι 0,ι 0,ι 0,ι 0,ι 0]] false)]=H0 at *;refine fK ⟨hg.1,hg.2 F _ q _ S0.2.1 hs.nq⟩ ?_;rintro _ H1 ⟨rfl,r1,x1⟩;have S1:=S0.aA x1 r1;have lH1:=x1.1;have C1:H1[h.length]?=_:=(x1.2 _ (WR.1 C0).1 (by simp only[iO];omega)).trans C0;have B1:=S1.1;simp only[go_sem,B1];refine fK ⟨hg.1,hg.2 F _ q _ S1.2.1 hs.nq⟩ ?_;rintro _ H2 ⟨rfl,r2,x2⟩;have S2:=S1.aA x2 r2;have lH2:=x2.1;have C2:H2[h.length]?=_:=(x2.2 _ (WR.1 C1).1 (by simp only[iO];omega)).trans C1;have B2:=S2.1;simp only[go_sem,B2];refine fK ⟨hg.1,hg.2 F _ q _ S2.2.1 hs.nq⟩ ?_;rintro _ H3 ⟨rfl,r3,x3⟩;have S3:=S2.aA x3 r3;have lH3:=x3.1;have C3:H3[h.length]?=_:=(x3.2 _ (WR.1 C2).1 (by simp only[iO];omega)).trans C2;have B3:=S3.1;simp only[go_sem,B3];refine fK ⟨hg.1,hg.2 F _ q _ S3.2.1 hs.nq⟩ ?_;rintro _ H4 ⟨rfl,r4,x4⟩;have S4:=S3.aA x4 r4;have lH4:=x4.1;have C4:H4[h.length]?=_:=(x4.2 _ (WR.1 C3).1 (by simp only[iO];omega)).trans C3;have B4:=S4.1;simp only[go_sem,B4];refine fK ⟨hg.1,hg.2 F _ q _ S4.2.1 hs.nq⟩ ?_;rintro _ H5 ⟨rfl,r5,x5⟩;have S5:=S4.aA x5 r5;have lH5:=x5.1;have C5:H5[h.length]?=_:=(x5.2 _ (WR.1 C4).1 (by simp only[iO];omega)).trans C4;have B5:=S5.1;have l5:=(WR.1 C5).1;simp only[go_sem,B5,C5,l5];refine⟨_,rfl,?_,S5.aC ω _,(E0.aD (((x1.aD x2 (λ_ _ x=>x) (λ_ _ x=>x)).aD x3 (λ_ _ x=>x) (λ_ _ x=>x)).aD (x4.aD x5 (λ_ _ x=>x) (λ_ _ x=>x)) (λ_ _ x=>x) (λ_ _ x=>x)) (λ_ _ x=>x.elim) (λ_ _ x=>x)).aG ω _⟩;exact⟨_,_,rfl,jf _ _ _,_,_,rfl,jf _ _ _,_,_,rfl,jf _ _ _,_,_,rfl,jf _ _ _,_,_,rfl,jf _ _ _,rfl⟩
theorem NN (hf:Is P f (B7 g))(hg:Ar P g):jP P f fI.c jz.aA:=by
 refine jP.of jz.aD hf.2 λF h s q b st hs=>gy hf ?_;have hlt:=hs.lt;have hq:=hs.2.2.2;have BB:∀x:Option fC,(h++[x])[s]?=ar 2 [[.aA q 2 0 0,.aE b]]:=λx=>(nV hlt x).trans hs.1;simp only[B7,go_sem,BB];have S0:=hs.up (fq.b1 (some (.aA 3 [[.aC,.aC,.aC]] false)));have C0:=h_ h (some (.aA 3 [[.aC,.aC,.aC]] false));have E0:fq fB h (h++[some (.aA 3 [[.aC,.aC,.aC]] false)]):=fq.b1 _;have lH0:h.length+1=(h++[some (fC.aA 3 [[.aC,.aC,.aC]] false)]).length:=by simp
 generalize h++[some (fC.aA 3 [[.aC,.aC,.aC]] false)]=H0 at *;refine fK ⟨hg.1,hg.2 F _ q _ S0.2.1 hs.nq⟩ ?_;rintro a1 H1 ⟨o1,r1,x1⟩;have S1:=S0.aA x1 r1;have lH1:=x1.1;have C1:H1[h.length]?=_:=(x1.2 _ (WR.1 C0).1 (by simp only[iO];omega)).trans C0;have B1:=S1.1;simp only[go_sem,B1];refine fK ⟨hg.1,hg.2 F _ q _ S1.2.1 hs.nq⟩ ?_;rintro a2 H2 ⟨o2,r2,x2⟩;have S2:=S1.aA x2 r2;have lH2:=x2.1;have C2:H2[h.length]?=_:=(x2.2 _ (WR.1 C1).1 (by simp only[iO];omega)).trans C1;have B2:=S2.1;simp only[go_sem,B2];refine fK ⟨hg.1,hg.2 F _ q _ S2.2.1 hs.nq⟩ ?_;rintro a3 H3 ⟨o3,r3,x3⟩;have S3:=S2.aA x3 r3;have lH3:=x3.1;have C3:H3[h.length]?=_:=(x3.2 _ (WR.1 C2).1 (by simp only[iO];omega)).trans C2;have B3:=S3.1;have l3:=(WR.1 C3).1;simp only[go_sem,B3,C3,l3,o1.aA,o2.aA,o3.aA,gV o1.aA,gV o2.aA,gV o3.aA];refine⟨_,rfl,?_,S3.aC ω _,(E0.aD ((x1.aD x2 (λ_ _ x=>x) (λ_ _ x=>x)).aD x3 (λ_ _ x=>x) (λ_ _ x=>x)) (λ_ _ x=>x.elim) (λ_ _ x=>x)).aG ω _⟩;have k1:ik (λm=>H0.length<=m) H1 (H3.set h.length (some (.aA 3 [[a1,a2,a3]] false))):=λm hm y hy=>by rw[WS ω,x3.2 m (by have:=(WR.1 hy).1;omega) (by simp only[iO];omega),x2.2 m (WR.1 hy).1 (by simp only[iO];omega)];exact hy
 have k2:ik (λm=>H1.length<=m) H2 (H3.set h.length (some (.aA 3 [[a1,a2,a3]] false))):=λm hm y hy=>by rw[WS ω,x3.2 m (WR.1 hy).1 (by simp only[iO];omega)];exact hy
 have k3:ik (λm=>H2.length<=m) H3 (H3.set h.length (some (.aA 3 [[a1,a2,a3]] false))):=λm hm y hy=>by rw[WS ω];exact hy
 exact⟨_,_,rfl,fA.aC _ (λm hm=>.inr ω) k1 _ o1,_,_,rfl,fA.aC _ (λm hm=>.inr ω) k2 _ o2,_,_,rfl,fA.aC _ (λm hm=>.inr ω) k3 _ o3,rfl⟩
variable {P:Program}{f g k fi l bd:FuncId}
theorem xQ {F:Nat->Prop}{h:fu}:∀{ds:List D}{l:List AV},fU ds F h l->l.length=ds.length
 | [],l,hh=>by simp only[fU]at hh;subst hh;rfl
 | d :: ds,l,hh=>by simp only[fU]at hh;obtain⟨a,r,rfl,_,h2⟩:=hh;simp[xQ h2]
theorem fU.aD {F:Nat->Prop}{h:fu}:∀{ds:List D}{l:List AV},fU ds F h l->l.all AV.aH=true
 | [],l,hh=>by simp only[fU]at hh;subst hh;rfl
 | d :: ds,l,hh=>by simp only[fU]at hh;obtain⟨a,r,rfl,h1,h2⟩:=hh;simp[h1.aA,h2.aD]
theorem jM.aE {F G:Nat->Prop}{h h':fu}{s q:Nat}{b:Bool}{st:fR}(hs:jM F h s q b st)(e:fq G h h')(hG:∀m,G m->s<m):jM F h' s q b st:=by have hq:=hs.2.2.2;have hlt:=hs.lt;refine⟨(e.2 _ hlt (λx=>by have:=hG _ x;omega)).trans hs.1,hs.2.1.aA (e.2 _ ω (λx=>by have:=hG _ x;omega)) (λm hm y hy=>?_),hs.2.2⟩;rw[e.2 m (by have:=hs.2.2.1 m hm;omega) (λx=>by have:=hG _ x;have:=hs.2.2.1 m hm;omega)];exact hy
theorem ED {T:Type}{dec:fR->T×fR}(hn:(dec none).2=none):∀n,(iV dec n none).2=none
 | 0=>rfl
 | n+1=>by simp only[iV];generalize dec none=x at hn ⊢;obtain⟨a,b⟩:=x;cases hn;rfl
theorem S7 {T:Type}{dec:fR->T×fR}{n:Nat}{l l':List Int} (h:(dec (some l)).2=some l'):iV dec (n+1) (some l)=((dec (some l)).1 :: (iV dec n (some l')).1,(iV dec n (some l')).2):=by simp only[iV];generalize dec (some l)=x at h ⊢;obtain⟨a,b⟩:=x;cases h;rfl
theorem S9 {T:Type}{dec:fR->T×fR}{n:Nat}{l:List Int} (h:(dec (some l)).2=none):(iV dec (n+1) (some l)).2=none:=by simp only[iV];generalize dec (some l)=x at h ⊢;obtain⟨a,b⟩:=x;cases h;rfl
theorem Sx {T:Type}{dec:fR->T×fR}(hn:(dec none).2=none)(st:fR):(ja dec st).2=(if (gq st).1<0\/(((gq st).2.aC.length / 8:Nat):Int)<(gq st).1 then none else (iV dec (gq st).1.toNat (gq st).2).2) /\
  ((ja dec st).2≠none->(ja dec st).1=(iV dec (gq st).1.toNat (gq st).2).1):=by
 simp only[ja,p_];generalize gq st=x;obtain⟨n,b⟩:=x;cases b with
 | none=>simp[ED hn]
 | some l=>
  simp only[fR.aC,XJ];by_cases c:n<0\/((l.length / 8:Nat):Int)<n;·rw[WW c];exact⟨(WW c).symm,λh=>absurd rfl h⟩
  ·rw[WY c];exact⟨(WY c).symm,λ_=>rfl⟩
theorem Sw {T:Type}{dec:fR->T×fR}(hn:(dec none).2=none)(b:Bool)(st:fR):
  (((gq st).1<0\/(((gq st).2.aC.length / 8:Nat):Int)<(gq st).1)->(ja dec (fR.aA b st)).2=none) /\
  (¬((gq st).1<0\/(((gq st).2.aC.length / 8:Nat):Int)<(gq st).1)->(ja dec (fR.aA b st)).2=(iV dec (gq st).1.toNat (fR.aA b (gq st).2)).2 /\
   ((ja dec (fR.aA b st)).2≠none->(ja dec (fR.aA b st)).1=(iV dec (gq st).1.toNat (fR.aA b (gq st).2)).1)):=by
 cases b with
 | true=>exact⟨λ_=>rfl,λ_=>⟨(ED hn _).symm,λh=>absurd rfl h⟩⟩
 | false=>obtain⟨h1,h2⟩:=Sx hn st;exact⟨λc=>by rw[WW c]at h1;exact h1,λc=>by rw[WY c]at h1;exact⟨h1,h2⟩⟩
def qX (k sz:Nat)(a:AV):Prop:=∀n off len cap,a=.aG n sz off len cap->k<=n
theorem qX.aA (k sz:Nat):qX k sz .aC:=by intro _ _ _ _ e;cases e
def qT {T:Type}(P:Program)(f:FuncId)(sz:Nat)(c:T->List D)(dec:fR->T×fR):Prop:=
 fZ P f=true/\∀(get:FuncId),jP P get c dec->(dec none).2=none->∀(F:Nat->Prop)(h:fu)(s q:Nat)(b:Bool)(st:fR),jM F h s q b st->
  fO P f [.aA q 2 0 0,.aL get [.aA s 2 0 0] []] h λr h'=>∃(xs:List T)(a:AV)(ok b2:Bool)(st2:fR),r=.aI [a,.aE ok]/\fA (.sl sz (xs.map c)) (λm=>F m\/h.length<=m) h' a/\qX h.length sz a/\jM F h' s q b2 st2/\fq (jE s q) h h' /\
   (ok=true->(ja dec (fR.aA b st)).2=fR.aA b2 st2/\(fR.aA b2 st2≠none->xs=(ja dec (fR.aA b st)).1))/\(ok=false->(ja dec (fR.aA b st)).2=none)
theorem pZ (b:Bool)(st:fR):(gq (fR.aA b st)).2=fR.aA b (gq st).2:=by cases b<;>rfl
theorem DH {T:Type}{S B:Nat}{c:T->List D}(hB:B<=216){P:Program}{f fi l bd:FuncId}{dec:fR->T×fR} (hf:Is P f ((yz fi l bd).sz S B [])) (hI:nN P fi) (hl:Is P l sY) (hb:Is P bd sX) (hc:∀x:T,(c x).length=S):qT P f S c dec:=by
 refine⟨hf.2,λget hg hn F h s q b st hs=>gy hf ?_⟩;have hq:=hs.2.2.2;have hlt:=hs.lt;simp only[yz,fT.sz,AC.sz,jB.sz,XD,Yb,go_sem];refine fK ⟨hI.1,hI.2 F _ q st hs.2.1 hs.nq⟩ ?_;rintro _ h1 ⟨rfl,r1,x1⟩;have S1:=hs.aA x1 r1;obtain⟨K1,K2⟩:=Sw hn b st;have lb:=r1.2.2;have xt:=x1.aK (F':=jE s q) (λ_ _ x=>.inr x);have bad:((gq st).1<0\/(((gq st).2.aC.length / 8:Nat):Int)<(gq st).1)->∃(xs:List T)(a:AV)(ok b2:Bool)(st2:fR),AV.aI [.aC,.aE false]=.aI [a,.aE ok]/\fA (.sl S (xs.map c)) (λm=>F m\/h.length<=m) h1 a/\qX h.length S a/\jM F h1 s q b2 st2/\fq (jE s q) h h1 /\
   (ok=true->(ja dec (fR.aA b st)).2=fR.aA b2 st2/\(fR.aA b2 st2≠none->xs=(ja dec (fR.aA b st)).1))/\(ok=false->(ja dec (fR.aA b st)).2=none):=
  λc=>⟨[],.aC,false,b,_,rfl,fA.aD _,qX.aA _ _,S1,xt,ς,λ_=>K1 c⟩
 have q8:∀x:Int,jX .quo (ι x) (ι 8)=some (ι (IntKind.i64.wrap (x.tdiv 8))):=λ_=>rfl;have e8:IntKind.i64.wrap (((gq st).2.aC.length:Int).tdiv 8)=(((gq st).2.aC.length / 8:Nat):Int):=by rw[Int.tdiv_eq_ediv_of_nonneg ω,gF ω];omega
 simp only[go_sem];by_cases c1:(gq st).1<0;·simp only[WZ c1,go_sem];exact bad (.inl c1)
 simp only[WV c1,go_sem];refine gH hl.2 (RM hl r1) ?_;simp only[go_sem,q8,e8];by_cases c2:(((gq st).2.aC.length / 8:Nat):Int)<(gq st).1;·simp only[WZ c2,go_sem];exact bad (.inr c2)
 simp only[WV c2,go_sem];obtain⟨E1,E2⟩:=K2 ω;clear bad K1 K2;generalize (gq st).1=n at *;generalize (gq st).2=st1 at *;obtain⟨N,rfl⟩:=Int.eq_ofNat_of_zero_le (show 0<=n by omega);rw[Yj]at E1 E2;have hN37:N<=2^37:=ω;have hFs:∀m,F m->m<q:=hs.2.2.1;refine iP (λm L h2=>∃(i:Nat)(xs:List T)(o:AV)(b2:Bool)(st2:fR),lk 0 L=.aA q 2 0 0/\lk 1 L=.aL get [.aA s 2 0 0] []/\lk 7 L=o/\lk 19 L=ι N/\lk 20 L=ι i /\
   fA (.sl S (xs.map c)) (λm=>F m\/h.length<=m) h2 o/\ic h2 o/\(∀n off len cap,o=.aG n S off len cap->h.length<=n)/\jM F h2 s q b2 st2/\fq (jE s q) h h2/\xs.length=i/\i<=N/\m=N-i /\
   (fR.aA b2 st2=none->(iV dec N (fR.aA b st1)).2=none)/\(∀l,fR.aA b2 st2=some l->iV dec N (fR.aA b st1)=(xs++(iV dec (N-i) (some l)).1,(iV dec (N-i) (some l)).2))) N ?_ ?_
 ·refine⟨0,[],.aC,b,st1,by simp[fE,iw],by simp[fE,iw],by simp[fE],by simp[fE],by simp[fE],fA.aD _,Xb,(by intro _ _ _ _ e;cases e),S1,xt,rfl,ω,ω,?_,?_⟩;·intro e;rw[e];exact ED hn _
  ·intro l e;rw[e];simp
 ·rintro m L h2 ⟨i,xs,o,b2,st2,k0,k1,k7,k19,k20,hO,hA,hR,S2,X2,hx,hi,rfl,hz,hm⟩;simp only[GR,AC.sz,jB.sz,XD,Yb,go_sem,k19,k20];refine iQ (λci=>?_) (λci=>?_)
  ·simp at ci;simp only[go_sem,k1,k7];refine fK ⟨hg.1,hg.2 F h2 s q _ ⟨b2,st2,S2,rfl⟩⟩ ?_;rintro _ h3 ⟨x,az,rfl,hO3,⟨b3,st3,S3,e3⟩,X3,hx3⟩;have has:az.length=S:=by rw[xQ hO3,hc]
   have hn0:∀m,F m->m<h.length:=λm hm=>by have:=hFs m hm;omega
   have keep3:ik (λm=>F m\/h.length<=m) h2 h3:=X3.aO (λm _ hm hm'=>by rcases hm with hm | hm<;>rcases hm' with rfl | rfl<;>first | (have:=hFs _ hm;omega) | omega);have hO':=fA.aC (F':=λm=>F m\/h.length<=m) _ (λ_ x=>x) keep3 _ hO;have hA':=hA.aA hO keep3;have l2:h.length<=h2.length:=X2.1;have l3:h2.length<=h3.length:=X3.1;obtain⟨o4,h4,s1,s2,s3,s4,s5⟩:=I2 (bytes:=B) (G:=λm=>F m\/h2.length<=m) (es:=[c x]) (ys:=[az]) (h:=h3++[some (.aA S [az] false)]) hO' hA' (fq.b1 _)
    ⟨az,[],rfl,fU.aA _ (λ_ x=>x) ((fq.b1 (h:=h3) (some (.aA S [az] false))).aE _) _ hO3,rfl⟩
    (λm hm=>hm.elim .inl (λx=>.inr ω))
    (λn off len cap e hm=>by
     have h1:=hR _ _ _ _ e;subst e;obtain⟨row,g,hrow,_⟩:=hA;have h2:=(WR.1 hrow).1;rcases hm with hm | hm;·have:=hn0 _ hm;omega
     ·omega) (.inr (by simp;omega)) (by have:=Nat.mul_le_mul (show xs.length+1<=2^37 by omega) hB;simp;omega)
   have s1':=s1;rw[<-iR (mH h3 S [az] false (some 1) (len:=1) rfl)]at s1';have hsc:=hO3.aD;have S4:=(S3.up (fq.b1 (some (.aA S [az] false)))).aE s4 (λm hm=>by obtain⟨⟨_,_,_,e⟩,_⟩:=hm;have:=hR _ _ _ _ e;omega);have e1:IntKind.i64.wrap (↑i+1)=(i:Int)+1:=gF ω;have X4:fq (jE s q) h h4:=((X2.aD X3 (λ_ _ x=>x) (λ_ _ x=>x)).aD (fq.b1 (some (.aA S [az] false))) (λ_ _ x=>x) (λ_ _ x=>x.elim)).aD s4 (λ_ _ x=>x) (λm hm hm'=>by obtain⟨⟨_,_,_,e⟩,_⟩:=hm';have:=hR _ _ _ _ e;omega);have go:∀st0,fR.aA b2 st2=st0->(fR.aA b3 st3=none->(iV dec N (fR.aA b st1)).2=none)/\(∀l,fR.aA b3 st3=some l->iV dec N (fR.aA b st1)=(xs++[x]++(iV dec (N-(i+1)) (some l)).1,(iV dec (N-(i+1)) (some l)).2)):=by
    intro st0 e0;rw[e0]at e3 hx3;rw[<-e3];cases st0 with
    | none=>exact⟨λ_=>hz e0,λl e=>by rw[hn]at e;cases e⟩
    | some l0=>have hm0:=hm l0 e0;rw[show N-i=(N-(i+1))+1 by omega]at hm0;refine⟨λe=>by rw[hm0];exact S9 e,λl e=>?_⟩;rw[hm0,S7 e,hx3 (by rw[e];simp)];simp
   obtain⟨go1,go2⟩:=go _ rfl;simp only[go_sem,has,k0,hsc,s1'];refine gH hb.2 (I9 hb S4.2.1) ?_;cases st3 with
   | none=>simp only[go_sem,Option.isNone_none];refine⟨[],.aC,false,b3,none,rfl,fA.aD _,qX.aA _ _,S4,X4,ς,λ_=>?_⟩;rw[E1];exact go1 (by cases b3<;>rfl)
   | some l3=>
    simp only[go_sem,Za,k0,k1,k7,k19,k20,e1];refine⟨_,ω,i+1,xs++[x],o4,b3,_,rfl,ς,by simpa using s2,s3,λn off len cap e=>?_,S4,X4,by simp[hx],ci,rfl,go1,go2⟩;rcases s5 _ _ _ _ e with⟨_,_,_,e'⟩ | hge
    ·exact hR _ _ _ _ e'
    ·simp only[WT,Xf,Xi]at hge;omega
  ·simp at ci;obtain rfl:i=N:=ω;simp only[go_sem,k0,k7];refine gH hb.2 (I9 hb S2.2.1) ?_;simp only[go_sem];refine⟨xs,o,!st2.isNone,b2,st2,rfl,hO,hR,S2,X2,λhok=>?_,λhok=>?_⟩
   ·rw[E1];cases e:fR.aA b2 st2 with
    | none=>exact⟨hz e,λhh=>absurd rfl hh⟩
    | some l=>have:=hm l e;rw[ZF]at this;refine⟨by rw[this];rfl,λ_=>?_⟩;rw[E2 (by rw[E1,this];simp[iV]),this];simp[iV]
   ·rw[E1];refine hz ?_;cases st2 with
    | none=>cases b2<;>rfl
    | some l=>simp at hok
theorem OS {dec:fR->gw×fR}(hf:Is P f (yz fi l bd))(hI:nN P fi)(hl:Is P l sY)(hb:Is P bd sX):qT P f 3 gw.c dec:=
 DH (S:=3) (B:=40) (c:=gw.c) δ hf hI hl hb λ_=>rfl
theorem OT {dec:fR->fP×fR}(hf:Is P f (GS fi l bd))(hI:nN P fi)(hl:Is P l sY)(hb:Is P bd sX):qT P f 10 fP.c dec:=
 DH (S:=10) (B:=160) (c:=fP.c) δ hf hI hl hb λ_=>rfl
theorem OU {dec:fR->im×fR}(hf:Is P f (GQ fi l bd))(hI:nN P fi)(hl:Is P l sY)(hb:Is P bd sX):qT P f 5 im.c dec:=
 DH (S:=5) (B:=40) (c:=im.c) δ hf hI hl hb λ_=>rfl
variable {P:Program}{f g k fi l bd:FuncId}
def qg {T:Type}(P:Program)(f:FuncId)(sz:Nat)(c:T->List D)(dec:fR->T×fR):Prop:=
 fZ P f=true/\∀(get:FuncId),jP P get c dec->(dec none).2=none->∀(F:Nat->Prop)(h:fu)(s q:Nat)(st:fR),mA F h s q st->
  fO P f [.aA s 2 0 0,.aL get [.aA s 2 0 0] []] h λr h'=>∃(xs:List T),fA (.sl sz (xs.map c)) (λm=>F m\/h.length<=m) h' r/\qX h.length sz r/\mA F h' s q (ja dec st).2/\fq (jE s q) h h'/\((ja dec st).2≠none->xs=(ja dec st).1)
theorem DZ {T:Type}{S:Nat}{c:T->List D}{P:Program}{f g:FuncId}{dec:fR->T×fR}(hf:Is P f (yA g))(hg:qT P g S c dec):qg P f S c dec:=by
 refine⟨hf.2,λget U hn F h s q st ⟨b,st',hs,e⟩=>gy hf ?_⟩;subst e;have B:=hs.1;have hq:=hs.2.2.2;have hlt:=hs.lt;simp only[yA,go_sem,B];refine fK ⟨hg.1,hg.2 get U hn F h s q b st' hs⟩ ?_;rintro _ h1 ⟨xs,a,ok,b2,u,rfl,hO,I,S1,X1,O,E⟩;have B1:=S1.1;have l1:=S1.lt;cases ok with
 | true=>obtain⟨h3,h4⟩:=O rfl;simp only[go_sem];refine⟨xs,hO,I,⟨b2,u,S1,h3⟩,X1,λhh=>h4 (by rw[<-h3];exact hh)⟩
 | false=>
  simp only[go_sem,B1];refine⟨xs,fA.aC _ (λ_ x=>x) (λm hm y hy=>?_) _ hO,I,⟨true,u,⟨W0 l1,S1.2.1.aA (WS ω) (λm hm y hy=>?_),S1.2.2⟩,E rfl⟩,?_,λhh=>absurd (E rfl) hh⟩;·rw[WS (by rintro rfl;rcases hm with hm | hm;exact hs.ns hm;omega)];exact hy
  ·rw[WS (by rintro rfl;exact hs.ns hm)];exact hy
  ·exact X1.aD (fq.aH (F:=jE s q) _ (λ_=>.inl rfl)) (λ_ _ x=>x) (λ_ _ x=>x)
theorem QE {dec:fR->gw×fR}(hf:Is P f (yA g))(hg:qT P g 3 gw.c dec):qg P f 3 gw.c dec:=DZ hf hg
theorem QF {dec:fR->fP×fR}(hf:Is P f (GW g))(hg:qT P g 10 fP.c dec):qg P f 10 fP.c dec:=DZ hf hg
theorem QG {dec:fR->im×fR}(hf:Is P f (GV g))(hg:qT P g 5 im.c dec):qg P f 5 im.c dec:=DZ hf hg
theorem QJ {en li:FuncId}(hf:Is P f (Ca g en li))(hg:nN P g)(he:jP P en gw.c lL.aA)(hl:qg P li 3 gw.c lL.aA):jP P f fG.c kW.aA:=by
 refine⟨hf.2,λF h s q st ⟨b,st',hs,e⟩=>gy hf ?_⟩;have hlt:=hs.lt;have hq:=hs.2.2.2;have B2:∀x y:Option fC,(h++[x]++[y])[s]?=ar 2 [[.aA q 2 0 0,.aE b]]:=λx y=>(IW hlt x y).trans hs.1;simp only[Ca,go_sem,B2];have S0:=hs.up (fq.b2 (some (.aA 3 [[ι 0,ι 0,.aC]] false)) none);have C0:=kr h (some (.aA 3 [[ι 0,ι 0,.aC]] false)) none;have D0:=jy h (some (.aA 3 [[ι 0,ι 0,.aC]] false)) none;have E0:fq fB h (h++[some (.aA 3 [[ι 0,ι 0,.aC]] false)]++[none]):=fq.b2 _ _;generalize h++[some (fC.aA 3 [[ι 0,ι 0,.aC]] false)]++[none]=H0 at *;have NR:∀k,ij (h.length+1) k (.aA s 2 0 0)=true:=λk=>iN ω;simp only[NR,true_and];refine fK ⟨hg.1,hg.2 F _ q st' S0.2.1 hs.nq⟩ ?_;rintro _ H1 ⟨rfl,r1,x1⟩;have S1:=S0.aA x1 r1;have hq:=hs.2.2.2;have lH:=E0.1;have C1:H1[h.length]?=_:=(x1.2 _ (WR.1 C0).1 (by simp only[iO];omega)).trans C0;have B1:=S1.1;have D1:H1[h.length+1]?=some none:=(x1.2 _ (WR.1 D0).1 (by simp only[iO];omega)).trans D0;have u:(h.length+1=s)=False:=Xp ω;simp only[go_sem,qC,nX,B1,D1,u,rW D1];refine fK ⟨hg.1,hg.2 F _ q _ S1.2.1 hs.nq⟩ ?_;rintro _ H2 ⟨rfl,r2,x2⟩;have S2:=S1.aA x2 r2;have lH1:=x1.1;have C2:H2[h.length]?=_:=(x2.2 _ (WR.1 C1).1 (by simp only[iO];omega)).trans C1;have D2:H2[h.length+1]?=some none:=(x2.2 _ (WR.1 D1).1 (by simp only[iO];omega)).trans D1;have B2:=S2.1;have l2:=(WR.1 D2).1;simp only[go_sem,nX,B2,D2,u,l2];rw[Yi];have S3:=S2.aC (n:=h.length+1) ω (some (.aA 3 [[ι (gq st').1,ι (gq (gq st').2).1,.aC]] false));have C3:(H2.set (h.length+1) (some (.aA 3 [[ι (gq st').1,ι (gq (gq st').2).1,.aC]] false)))[h.length]?=_:=(WS ω).trans C2;have D3:=W0 (a:=some (fC.aA 3 [[ι (gq st').1,ι (gq (gq st').2).1,.aC]] false)) l2;have E3:fq (iO q) h (H2.set (h.length+1) (some (.aA 3 [[ι (gq st').1,ι (gq (gq st').2).1,.aC]] false))):=
  (E0.aD (x1.aD x2 (λ_ _ x=>x) (λ_ _ x=>x)) (λ_ _ x=>x.elim) (λ_ _ x=>x)).aG ω _
 generalize H2.set (h.length+1) (some (fC.aA 3 [[ι (gq st').1,ι (gq (gq st').2).1,.aC]] false))=H3 at *;have lH3:=E3.1;have lD:=(WR.1 D3).1;refine fK ⟨hl.1,hl.2 en he lL.aD F _ s q _ ⟨b,_,S3,rfl⟩⟩ ?_;rintro r H4 ⟨xs,o4,-,S4,x4,hx⟩;have C4:H4[h.length]?=_:=(x4.2 _ ω (by simp only[jE];omega)).trans C3;have D4:H4[h.length+1]?=_:=(x4.2 _ lD (by simp only[jE];omega)).trans D3;have l4:=(WR.1 D4).1;have I:=(WR.1 C4).1;simp only[go_sem,D4,l4,I,o4.aA,gV o4.aA,C4,W4];subst e;have dl:kW.aA (fR.aA b st')=(⟨(gq (fR.aA b st')).1,(gq (gq (fR.aA b st')).2).1,(ja lL.aA (gq (gq (fR.aA b st')).2).2).1⟩,(ja lL.aA (gq (gq (fR.aA b st')).2).2).2):=rfl;rw[dl,pZ,pZ];obtain⟨b4,E,S4,e4⟩:=S4;refine⟨⟨(gq st').1,(gq (gq st').2).1,xs⟩,_,rfl,?_,⟨b4,E,(S4.aC ω _).aC ω _,e4⟩,(((E3.aK (F':=jE s q) (λ_ _ x=>.inr x)).aD x4 (λ_ _ x=>x) (λ_ _ x=>x)).aG ω _).aG ω _,?_⟩;·refine⟨_,_,rfl,jf _ _ _,_,_,rfl,jf _ _ _,_,_,rfl,?_,rfl⟩;refine fA.aC (F:=λm=>F m\/H3.length<=m) _ (λm hm=>hm.elim .inl (λx=>.inr ω)) (λm hm y hy=>?_) _ o4;have hF:∀m,F m->m<q:=hs.2.2.1;rw[WS (by rcases hm with hm | hm;(have:=hF _ hm;omega);omega),WS (by rcases hm with hm | hm;(have:=hF _ hm;omega);omega)];exact hy
 ·intro hh;rw[hx hh];cases b with
  | true=>exact absurd rfl hh
  | false=>rfl
structure Dc (F:Nat->Prop)(n s q sz:Nat)(z:Option fC)(h0:fu)(ds:List D)(cells:List AV)(σ:fR)(h:fu):Prop where
 lt:s<n
 aA:mA F h s q σ
 c:h[n]?=some z
 d:h[n+1]?=some (some (.aA sz [cells] false))
 aF:fq (jE s q) h0 h
 aC:fU ds (λm=>F m\/n+2<=m) h cells
def mN {α:Type}:List α->Nat->List α->List α
 | [],_,_=>[]
 | x :: l,0,[]=>x :: l
 | _ :: l,0,m :: ms=>m :: mN l 0 ms
 | x :: l,k+1,ms=>x :: mN l k ms
section
variable {F:Nat->Prop} {n s q sz:Nat} {z:Option fC} {h0 h J:fu} {ds c:List D} {cells az:List AV} {σ τ:fR}
theorem fU.aC:∀{ds:List D}{cells:List AV}(k:Nat){c:List D}{az:List AV},fU ds F h cells->fU c F h az->fU (Glb.mN ds k c) F h (Glb.mN cells k az)
 | [],_,_,_,_,o,_=>by simp only[fU]at o;subst o;simp only[Glb.mN,fU]
 | d :: ds,_,0,[],_,o,w=>by simp only[fU]at w;subst w;obtain⟨a,r,rfl,o⟩:=o;exact⟨a,r,rfl,o⟩
 | d :: ds,_,0,e :: c,_,o,w=>by obtain⟨a,r,rfl,o1,o2⟩:=o;obtain⟨b,t,rfl,w1,w2⟩:=w;exact⟨b,_,rfl,w1,fU.aC 0 o2 w2⟩
 | d :: ds,_,k+1,_,_,o,w=>by obtain⟨a,r,rfl,o1,o2⟩:=o;exact⟨a,_,rfl,o1,fU.aC k o2 w⟩
theorem mA.aA {h:fu}(u:mA F h s q σ):q<s/\∀m,F m->m<q:=by obtain⟨_,_,S,_⟩:=u;exact⟨S.2.2.2,S.2.2.1⟩
theorem Dc.aD (a:Dc F n s q sz z h0 ds cells σ h)(u:mA F J s q τ)(x:fq (jE s q) h J)(w:fU c (λm=>F m\/h.length<=m) J az):
  Dc F n s q sz z h0 ds cells τ J/\fU c (λm=>F m\/n+2<=m) J az:=by
 obtain⟨hq,hF⟩:=u.aA;have hl:=a.lt;have hn:=(WR.1 a.d).1;exact⟨⟨hl,u,(x.2 _ ω (by simp only[jE];omega)).trans a.c,(x.2 _ hn (by simp only[jE];omega)).trans a.d,a.aF.aD x (λ_ _ x=>x) (λ_ _ x=>x),
  fU.aA _ (λ_ x=>x) (x.aO (λm _ hm e=>by rcases hm with hm | hm;(have:=hF _ hm;simp only[jE]at e;omega);(simp only[jE]at e;omega))) _ a.aC⟩,fU.aA _ (λm hm=>hm.elim .inl (λx=>.inr ω)) (λ_ _ _ x=>x) _ w⟩
theorem Dc.aE (a:Dc F n s q sz z h0 ds cells σ h)(hn:h0.length=n)(o:fU c (λm=>F m\/n+2<=m) h az):Dc F n s q sz z h0 c az σ (h.set (n+1) (some (.aA sz [az] false))):=by
 obtain⟨hq,hF⟩:=a.aA.aA;have hl:=a.lt;obtain⟨b,t,S,e⟩:=a.aA;exact⟨hl,⟨b,t,S.aC ω _,e⟩,(WS ω).trans a.c,W0 (WR.1 a.d).1,a.aF.aG ω _,
  fU.aA _ (λ_ x=>x) (λm hm y hy=>by rw[WS (by rcases hm with hm | hm;(have:=hF _ hm;omega);omega)];exact hy) _ o⟩
theorem Dc.aG (a:Dc F n s q sz z h0 ds cells σ h)(hn:h0.length=n)(y:Option fC):fU ds (λm=>F m\/h0.length<=m) (h.set n y) cells/\mA F (h.set n y) s q σ/\fq (jE s q) h0 (h.set n y):=by obtain⟨hq,hF⟩:=a.aA.aA;have hl:=a.lt;obtain⟨b,t,S,e⟩:=a.aA;exact⟨fU.aA _ (λm hm=>hm.elim .inl (λx=>.inr ω)) (λm hm y hy=>by rw[WS (by rcases hm with hm | hm;(have:=hF _ hm;omega);omega)];exact hy) _ a.aC,⟨b,t,S.aC ω _,e⟩,a.aF.aG ω _⟩
structure Di (F:Nat->Prop)(n s q sz:Nat)(zs:List AV)(h0:fu)(b:Bool)(xs:List Int)(st:fR)(h:fu):Prop where
 lt:s<n
 aA:jM F h s q b st
 c:h[n]?=some (some (.aA sz [zs] false))
 d:h[n+1]?=some none
 aD:fq (jE s q) h0 h
theorem Di.of {b:Bool}{st:fR}(hs:jM F h s q b st)(sz:Nat)(zs:List AV):Di F h.length s q sz zs h b [] st (h++[some (.aA sz [zs] false)]++[none]):=
 ⟨hs.lt,hs.up (fq.b2 _ _),kr h _ none,jy h _ none,(fq.b2 _ _).aK (λ_ _ x=>x.elim)⟩
theorem Di.aC {zs:List AV}{b:Bool}{xs:List Int}{st:fR}(a:Di F n s q sz zs h0 b xs st h)(r:je F J q (gq st).2)(x:fq (iO q) h J):Di F n s q sz zs h0 b (xs++[(gq st).1]) (gq st).2 J:=by have hq:=a.aA.2.2.2;have hl:=a.lt;have hn:=(WR.1 a.d).1;exact⟨hl,a.aA.aA x r,(x.2 _ ω (by simp only[iO];omega)).trans a.c,(x.2 _ hn (by simp only[iO];omega)).trans a.d,a.aD.aD x (λ_ _ x=>x) (λ_ _ x=>.inr x)⟩
def AV.aV:AV->Bool
 | .aD .. | .aC=>true
 | _=>false
def AV.zD:AV->D
 | .aD k n=>.aA k n
 | _=>.sl 1 []
theorem fU.aE:∀{l:List AV},l.all AV.aV=true->fU (l.map AV.zD) F h l
 | [],_=>rfl
 | a :: l,hl=>by rw[List.all_cons,Xs]at hl;refine⟨a,l,rfl,?_,fU.aE hl.2⟩;cases a<;>first | exact rfl | exact .inl ⟨rfl,rfl⟩ | simp[AV.aV]at hl
theorem Di.aE {zs:List AV}{b:Bool}{xs:List Int}{st:fR}(a:Di F n s q sz zs h0 b xs st h)(hn:h0.length=n) (hz:(mN zs 0 (xs.map (ι ·))).all AV.aV=true):
  Dc F n s q sz (some (.aA sz [zs] false)) h0 ((mN zs 0 (xs.map (ι ·))).map AV.zD) (mN zs 0 (xs.map (ι ·))) (fR.aA b st) (h.set (n+1) (some (.aA sz [mN zs 0 (xs.map (ι ·))] false))):=by
 have hq:=a.aA.2.2.2;have hF:=a.aA.2.2.1;have hl:=a.lt;exact⟨hl,⟨b,st,a.aA.aC ω _,rfl⟩,(WS ω).trans a.c,W0 (WR.1 a.d).1,a.aD.aG ω _,fU.aE hz⟩
theorem jM.aD {b:Bool}{st:fR}(S:jM F h s q b st)(e:σ=fR.aA b st)(r:je F J q (ie st).2)(x:fq (iO q) h J):
  mA F J s q (ie σ).2/\fq (jE s q) h J/\((ie σ).2≠none->(ie st).1=(ie σ).1):=by
 subst e;refine⟨⟨b,_,S.aA x r,?_⟩,x.aK (λ_ _ x=>.inr x),λhh=>?_⟩;·cases b<;>rfl
 ·cases b;·rfl
  ·exact absurd rfl hh
end
theorem Et {x:fG}{F:Nat->Prop}{h:fu}{a:List AV}(hh:fU x.c F h a):∃d,a=[ι x.aA,ι x.aD,d]/\fA (gZ x.es) F h d:=by simp only[fG.c,fU,fA]at hh;obtain⟨_,_,rfl,rfl,_,_,rfl,rfl,d,_,rfl,hd,rfl⟩:=hh;exact⟨d,rfl,by simpa only[gZ,fA] using hd⟩
theorem I8 {x:im}{F:Nat->Prop}{h:fu}{a:List AV}(hh:fU x.c F h a):a=[ι x.aA,ι x.aC,ι x.aE,ι x.aD,ι x.aF]:=by simp only[im.c,fU,fA]at hh;obtain⟨_,_,rfl,rfl,_,_,rfl,rfl,_,_,rfl,rfl,_,_,rfl,rfl,_,_,rfl,rfl,rfl⟩:=hh;rfl
theorem O7 {lo co:FuncId}(hf:Is P f (B_ g lo co k))(hg:nN P g)(I:jP P lo fG.c kW.aA)(O:jP P co fI.c jz.aA)(hk:tT P k):jP P f fP.c kO.aA:=by
 refine⟨hf.2,λF h s q st ⟨b,st',hs,e⟩=>gy hf ?_⟩;have hlt:=hs.lt;have hq:=hs.2.2.2;have NR:∀k,ij (h.length+1) k (.aA s 2 0 0)=true:=λk=>iN ω;have E:(h.length+1=s)=False:=Xp ω;have A:=Di.of hs 10 [ι 0,ι 0,ι 0,ι 0,ι 0,.aC,.aC,.aC,.aC,.aC];have B:=A.aA.1;simp only[B_,go_sem,B,NR];generalize h++[some (fC.aA 10 _ false)]++[none]=H at *;refine fK ⟨hg.1,hg.2 F _ q _ A.aA.2.1 hs.nq⟩ ?_;rintro _ H1 ⟨rfl,r1,x1⟩;have A:=A.aC r1 x1;have B:=A.aA.1;have D:=A.d;simp only[go_sem,qC,nX,B,D,E,rW D];clear B D;refine fK ⟨hg.1,hg.2 F _ q _ A.aA.2.1 hs.nq⟩ ?_;rintro _ H1 ⟨rfl,r1,x1⟩;have A:=A.aC r1 x1;have B:=A.aA.1;have D:=A.d;simp only[go_sem,qC,nX,B,D,E,rW D];clear B D;refine fK ⟨hg.1,hg.2 F _ q _ A.aA.2.1 hs.nq⟩ ?_;rintro _ H1 ⟨rfl,r1,x1⟩;have A:=A.aC r1 x1;have B:=A.aA.1;have D:=A.d;have l:=(WR.1 D).1;simp only[go_sem,nX,B,D,E,l];rw[Yi];have A:=A.aE rfl rfl;simp only[Yg,Zj,List.map,mN,AV.zD]at A;generalize H1.set _ _=G at *;clear B D l;refine fK ⟨I.1,I.2 F _ s q _ A.aA⟩ ?_;rintro _ J ⟨y1,az,rfl,w,u,x,Z⟩;obtain⟨A,w⟩:=A.aD u x w;have o:=A.aC.aC 3 w;obtain⟨d,rfl,w1⟩:=Et w;have D:=A.d;simp only[go_sem,D,w1.aA];have A:=A.aE rfl o;simp only[mN]at A;generalize J.set _ _=G1 at *;clear D;refine fK ⟨O.1,O.2 F _ s q _ A.aA⟩ ?_;rintro _ J ⟨y2,az,rfl,w,u,x,W⟩;obtain⟨A,w⟩:=A.aD u x w;have o:=A.aC.aC 6 w;obtain⟨d2,f2,g2,rfl,w2,v2,u2⟩:=Eo w;have D:=A.d;obtain⟨_,_,S,-⟩:=A.aA;have B:=S.1;have l:=(WR.1 D).1;simp only[go_sem,D,w2.aA,v2.aA,u2.aA,B,E,l];have A:=A.aE rfl o;simp only[mN]at A;generalize J.set _ _=G1 at *;clear D B l;obtain⟨_,sb,S,e2⟩:=A.aA;refine fK ⟨hk.1,hk.2 F _ q _ S.2.1 hs.nq⟩ ?_;rintro d3 J ⟨w3,r,x⟩;obtain⟨u,x,U⟩:=S.aD e2 r x;obtain⟨A,w⟩:=A.aD u x (c:=[gG _]) ⟨_,_,rfl,fA.aC _ (λ_ x=>.inl x) (λ_ _ _ x=>x) _ w3,rfl⟩;have o:=A.aC.aC 9 w;have D:=A.d;have C:=A.c;have l:=(WR.1 D).1;have l':=(WR.1 C).1;simp only[go_sem,D,C,l,l',W4,w1.aA,w2.aA,v2.aA,u2.aA,w3.aA,gV w3.aA];obtain⟨E1,E2,E3⟩:=(A.aE rfl o).aG rfl _;subst e;have e:(kO.aA (fR.aA b st')).2=(ie (jz.aA (kW.aA (fR.aA b (gq (gq (gq st').2).2).2)).2).2).2:=by rw[<-pZ,<-pZ,<-pZ];rfl
 rw[e];refine⟨⟨_,_,_,y1,y2,(ie sb).1⟩,_,rfl,E1,E2,E3,λhh=>?_⟩;have n2:(jz.aA _).2≠none:=λhz=>hh (by rw[hz];rfl);have n1:(kW.aA _).2≠none:=λhz=>n2 (by rw[hz];exact jz.aD);rw[Z n1,W n2,U hh];cases b with
 | true=>exact absurd kW.aD n1
 | false=>rfl
theorem NC {lo co vo:FuncId}(hf:Is P f (BZ g lo co k vo))(hg:nN P g)(I:jP P lo fG.c kW.aA)(O:jP P co fI.c jz.aA)(hk:tT P k)(hv:jP P vo im.c j_.aA):jP P f gE.c lQ.aA:=by
 refine⟨hf.2,λF h s q st ⟨b,st',hs,e⟩=>gy hf ?_⟩;have hlt:=hs.lt;have hq:=hs.2.2.2;have NR:∀k,ij (h.length+1) k (.aA s 2 0 0)=true:=λk=>iN ω;have E:(h.length+1=s)=False:=Xp ω;have A:=Di.of hs 17 [ι 0,ι 0,ι 0,ι 0,ι 0,ι 0,ι 0,.aC,.aC,.aC,.aC,.aC,ι 0,ι 0,ι 0,ι 0,ι 0];have B:=A.aA.1;simp only[BZ,go_sem,B,NR];generalize h++[some (fC.aA 17 _ false)]++[none]=H at *;refine fK ⟨hg.1,hg.2 F _ q _ A.aA.2.1 hs.nq⟩ ?_;rintro _ H1 ⟨rfl,r1,x1⟩;have A:=A.aC r1 x1;have B:=A.aA.1;have D:=A.d;simp only[go_sem,qC,nX,B,D,E,rW D];clear B D;refine fK ⟨hg.1,hg.2 F _ q _ A.aA.2.1 hs.nq⟩ ?_;rintro _ H1 ⟨rfl,r1,x1⟩;have A:=A.aC r1 x1;have B:=A.aA.1;have D:=A.d;simp only[go_sem,qC,nX,B,D,E,rW D];clear B D;refine fK ⟨hg.1,hg.2 F _ q _ A.aA.2.1 hs.nq⟩ ?_;rintro _ H1 ⟨rfl,r1,x1⟩;have A:=A.aC r1 x1;have B:=A.aA.1;have D:=A.d;simp only[go_sem,qC,nX,B,D,E,rW D];clear B D;refine fK ⟨hg.1,hg.2 F _ q _ A.aA.2.1 hs.nq⟩ ?_;rintro _ H1 ⟨rfl,r1,x1⟩;have A:=A.aC r1 x1;have B:=A.aA.1;have D:=A.d;simp only[go_sem,qC,nX,B,D,E,rW D];clear B D;refine fK ⟨hg.1,hg.2 F _ q _ A.aA.2.1 hs.nq⟩ ?_;rintro _ H1 ⟨rfl,r1,x1⟩;have A:=A.aC r1 x1;have B:=A.aA.1;have D:=A.d;have l:=(WR.1 D).1;simp only[go_sem,nX,B,D,E,l];rw[Yi];have A:=A.aE rfl rfl;simp only[Yg,Zj,List.map,mN,AV.zD]at A;generalize H1.set _ _=G at *;clear B D l;refine fK ⟨I.1,I.2 F _ s q _ A.aA⟩ ?_;rintro _ J ⟨y1,az,rfl,w,u,x,a1⟩;obtain⟨A,w⟩:=A.aD u x w;have o:=A.aC.aC 5 w;obtain⟨d,rfl,w1⟩:=Et w;have D:=A.d;simp only[go_sem,D,w1.aA];have A:=A.aE rfl o;simp only[mN]at A;generalize J.set _ _=G1 at *;clear D;refine fK ⟨O.1,O.2 F _ s q _ A.aA⟩ ?_;rintro _ J ⟨y2,az,rfl,w,u,x,Z⟩;obtain⟨A,w⟩:=A.aD u x w;have o:=A.aC.aC 8 w;obtain⟨d2,f2,g2,rfl,w2,v2,u2⟩:=Eo w;have D:=A.d;obtain⟨_,_,S,-⟩:=A.aA;have B:=S.1;have l:=(WR.1 D).1;simp only[go_sem,D,w2.aA,v2.aA,u2.aA,B,E,l];have A:=A.aE rfl o;simp only[mN]at A;generalize J.set _ _=G1 at *;clear D B l;obtain⟨_,sb,S,e2⟩:=A.aA;refine fK ⟨hk.1,hk.2 F _ q _ S.2.1 hs.nq⟩ ?_;rintro d3 J ⟨w3,r,x⟩;obtain⟨u,x,W⟩:=S.aD e2 r x;obtain⟨A,w⟩:=A.aD u x (c:=[gG _]) ⟨_,_,rfl,fA.aC _ (λ_ x=>.inl x) (λ_ _ _ x=>x) _ w3,rfl⟩;have o:=A.aC.aC 11 w;have D:=A.d;simp only[go_sem,D,w3.aA,gV w3.aA];have A:=A.aE rfl o;simp only[mN]at A;generalize J.set _ _=G1 at *;clear D;refine fK ⟨hv.1,hv.2 F _ s q _ A.aA⟩ ?_;rintro _ J ⟨y4,az,rfl,w,u,x,U⟩;obtain⟨A,w⟩:=A.aD u x w;have o:=A.aC.aC 12 w;obtain rfl:=I8 w;have D:=A.d;have C:=A.c;have l:=(WR.1 D).1;have l':=(WR.1 C).1;simp only[go_sem,D,C,l,l',W4,w1.aA,w2.aA,v2.aA,u2.aA,w3.aA];obtain⟨E1,E2,E3⟩:=(A.aE rfl o).aG rfl _;subst e;have e:(lQ.aA (fR.aA b st')).2=(j_.aA (ie (jz.aA (kW.aA (fR.aA b (gq (gq (gq (gq (gq st').2).2).2).2).2)).2).2).2).2:=by rw[<-pZ,<-pZ,<-pZ,<-pZ,<-pZ];rfl
 rw[e];refine⟨⟨_,_,_,_,_,y1,y2,(ie sb).1,y4⟩,_,rfl,E1,E2,E3,λhh=>?_⟩;have n3:(ie _).2≠none:=λhz=>hh (by rw[hz];exact j_.aD);have n2:(jz.aA _).2≠none:=λhz=>n3 (by rw[hz];rfl);have n1:(kW.aA _).2≠none:=λhz=>n2 (by rw[hz];exact jz.aD);rw[a1 n1,Z n2,W n3,U hh];cases b with
 | true=>exact absurd kW.aD n1
 | false=>rfl
end Glb
