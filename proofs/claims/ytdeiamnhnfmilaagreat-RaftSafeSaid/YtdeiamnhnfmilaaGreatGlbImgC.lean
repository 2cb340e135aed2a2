/-
  A library of its own.
-/
import Derived.Test.YtdeiamnhnfmilaaGreatGlbImgB
set_option linter.unusedSimpArgs false
set_option linter.unusedVariables false
set_option maxRecDepth 10000
set_option maxHeartbeats 8000000
namespace Glb
open Go
def jq (F:Nat->Prop)(h:eX)(s q:Nat)(b:Bool)(st:fH):Prop:=
 h[s]?=some (some (.aA 2 [[.aC q 2 0 0,.aE b]] false))/\iN F h q st/\(∀m,F m->m<q)/\q<s
def fH.aA (b:Bool)(st:fH):fH:=if b then none else st
def kZ (F:Nat->Prop)(h:eX)(s q:Nat)(st:fH):Prop:=∃(b:Bool)(st':fH),jq F h s q b st'/\st=fH.aA b st'
abbrev i_ (s q:Nat):Nat->Prop:=λm=>m=s\/m=q
theorem mW {h:eX}{s:Nat}(hs:s<h.length)(x:Option e_):(h++[x])[s]?=h[s]?:=Vy hs
theorem Hp {h:eX}{s:Nat}(hs:s<h.length)(x y:Option e_):(h++[x]++[y])[s]?=h[s]?:=by rw[mW (by simp;omega),mW hs]
theorem jq.lt {F:Nat->Prop}{h:eX}{s q:Nat}{b:Bool}{st:fH}(hs:jq F h s q b st):s<h.length:=(UY.1 hs.1).1
theorem jq.up {F:Nat->Prop}{h h':eX}{s q:Nat}{b:Bool}{st:fH}(hs:jq F h s q b st)(e:eW eZ h h'):jq F h' s q b st:=
 ⟨(e.2 _ hs.lt (λx=>x)).trans hs.1,hs.2.1.up e,hs.2.2⟩
theorem jq.aA {F:Nat->Prop}{h h':eX}{s q:Nat}{b:Bool}{st u:fH}(hs:jq F h s q b st)(e:eW (iC q) h h')(hr:iN F h' q u):jq F h' s q b u:=
 ⟨(e.2 _ hs.lt (by have:=hs.2.2.2;simp only[iC];omega)).trans hs.1,hr,hs.2.2⟩
theorem jq.nq {F:Nat->Prop}{h:eX}{s q:Nat}{b:Bool}{st:fH}(hs:jq F h s q b st):¬F q:=λhq=>by have:=hs.2.2.1 _ hq;omega
theorem jq.ns {F:Nat->Prop}{h:eX}{s q:Nat}{b:Bool}{st:fH}(hs:jq F h s q b st):¬F s:=λhq=>by have:=hs.2.2.1 _ hq;have:=hs.2.2.2;omega
theorem ig {n k s sz i o:Nat}(h:s<n):gN n k (.aC s sz i o)=true:=by simp[gN];omega
theorem qB {h:eX}{n:Nat} (hn:h[n]?=some none) (x:Option e_):(h.set n x).set n none=h:=by
 rw[VX];apply VM;intro i;rw[Wl];split;·rename_i e;subst e;rw[hn];simp[(UY.1 hn).1]
 ·rfl
theorem jq.aC {F:Nat->Prop}{h:eX}{s q:Nat}{b:Bool}{st:fH}(hs:jq F h s q b st){n:Nat}(hn:s<n)(x:Option e_):jq F (h.set n x) s q b st:=by
 have:=hs.2.2.2;have nF:¬F n:=λhq=>by have:=hs.2.2.1 _ hq;omega
 exact⟨by rw[UZ (by omega)];exact hs.1,hs.2.1.aA (UZ (by omega)) (λm hm y hy=>by rw[UZ (by rintro rfl;exact nF hm)];exact hy),hs.2.2⟩
theorem Hx {d:D}{F:Nat->Prop}{h:eX}{a:AV}(ho:eY d F h a){n:Nat}(hn:¬F n)(x:Option e_):eY d F (h.set n x) a:=CY ho hn x
theorem eW.aH {F:Nat->Prop}{h h':eX}(e:eW F h h'){n:Nat}(hn:h.length<=n)(x:Option e_):eW F h (h'.set n x):=
 ⟨by rw[U9];exact e.1,λm hm hF=>by rw[UZ (by omega)];exact e.2 m hm hF⟩
theorem iO (F:Nat->Prop)(h:eX)(n:Int):eY (.aA .i64 n) F h (.aA .i64 n):=by simp only[eY]
def jt {T:Type}(P:Program)(f:FuncId)(c:T->List D)(dec:fH->T×fH):Prop:=
 fK P f=true/\∀(F:Nat->Prop)(h:eX)(s q:Nat)(st:fH),kZ F h s q st->
  fC P f [.aC s 2 0 0] h λr h'=>∃(x:T)(az:List AV),r=.aF az/\fI (c x) (λm=>F m\/h.length<=m) h' az/\kZ F h' s q (dec st).2/\eW (i_ s q) h h'/\((dec st).2≠none->x=(dec st).1)
theorem jt.of {T:Type}{P:Program}{f:FuncId}{c:T->List D}{dec:fH->T×fH}(hn:(dec none).2=none)(h1:fK P f=true)
  (h2:∀(F:Nat->Prop)(h:eX)(s q:Nat)(b:Bool)(st:fH),jq F h s q b st->
   fC P f [.aC s 2 0 0] h λr h'=>∃(az:List AV),r=.aF az/\fI (c (dec st).1) (λm=>F m\/h.length<=m) h' az/\jq F h' s q b (dec st).2/\eW (iC q) h h'):jt P f c dec:=by
 refine⟨h1,λF h s q st ⟨b,st',hs,e⟩=>(h2 F h s q b st' hs).aA λr h' ⟨az,hr,ho,hs',hx⟩=>⟨_,az,hr,ho,⟨b,_,hs',?_⟩,hx.aD (eW.aC eZ _) (λ_ _ x=>.inr x) (λ_ _ x=>x.elim),?_⟩⟩
 ·subst e;cases b;·rfl
  ·exact hn
 ·subst e;cases b;·intro _;rfl
  ·intro hh;exact absurd hn hh
theorem Mw {P:Program}{f g k:FuncId}(hf:Is P f (AJ g k))(hg:mM P g)(hk:r9 P k):jt P f fU.c kx.aA:=by
 refine jt.of kx.aD hf.2 λF h s q b st hs=>fS hf ?_;have hlt:=hs.lt;have B:=hs.1;have B2:∀x y:Option e_,(h++[x]++[y])[s]?=some (some (.aA 2 [[.aC q 2 0 0,.aE b]] false)):=λx y=>(Hp hlt x y).trans hs.1;simp only[AJ,go_sem,B2];have S0:=hs.up (eW.b2 (some (.aA 3 [[.aA .i64 0,.aA .i64 0,.aD]] false)) none);have C0:=jx h (some (.aA 3 [[.aA .i64 0,.aA .i64 0,.aD]] false)) none;have D0:=iF h (some (.aA 3 [[.aA .i64 0,.aA .i64 0,.aD]] false)) none;have E0:eW eZ h (h++[some (.aA 3 [[.aA .i64 0,.aA .i64 0,.aD]] false)]++[none]):=eW.b2 _ _;generalize h++[some (e_.aA 3 [[.aA .i64 0,.aA .i64 0,.aD]] false)]++[none]=H0 at *;have NR:∀k,gN (h.length+1) k (.aC s 2 0 0)=true:=λk=>ig (by omega);simp only[NR,true_and];refine fy ⟨hg.1,hg.2 F _ q st S0.2.1 hs.nq⟩ ?_;rintro _ H1 ⟨rfl,r1,x1⟩;have S1:=S0.aA x1 r1;have hq:=hs.2.2.2;have lH:=E0.1;have C1:H1[h.length]?=_:=(x1.2 _ (UY.1 C0).1 (by simp only[iC];omega)).trans C0;have B1:=S1.1;have D1:H1[h.length+1]?=some none:=(x1.2 _ (UY.1 D0).1 (by simp only[iC];omega)).trans D0;have e:(h.length+1=s)=False:=Vm (by omega);simp only[go_sem,pE,mZ,B1,D1,e,qB D1];refine fy ⟨hg.1,hg.2 F _ q _ S1.2.1 hs.nq⟩ ?_;rintro _ H2 ⟨rfl,r2,x2⟩;have S2:=S1.aA x2 r2;have lH1:=x1.1;have C2:H2[h.length]?=_:=(x2.2 _ (UY.1 C1).1 (by simp only[iC];omega)).trans C1;have D2:H2[h.length+1]?=some none:=(x2.2 _ (UY.1 D1).1 (by simp only[iC];omega)).trans D1;have B2:=S2.1;have l2:=(UY.1 D2).1;simp only[go_sem,mZ,B2,D2,e,l2];rw[VX];have S3:=S2.aC (n:=h.length+1) (by omega) (some (.aA 3 [[.aA .i64 (fT st).1,.aA .i64 (fT (fT st).2).1,.aD]] false));have C3:(H2.set (h.length+1) (some (.aA 3 [[.aA .i64 (fT st).1,.aA .i64 (fT (fT st).2).1,.aD]] false)))[h.length]?=_:=(UZ (by omega)).trans C2;have D3:=U5 (a:=some (e_.aA 3 [[.aA .i64 (fT st).1,.aA .i64 (fT (fT st).2).1,.aD]] false)) l2;have E3:eW (iC q) h (H2.set (h.length+1) (some (.aA 3 [[.aA .i64 (fT st).1,.aA .i64 (fT (fT st).2).1,.aD]] false))):=
  (E0.aD (x1.aD x2 (λ_ _ x=>x) (λ_ _ x=>x)) (λ_ _ x=>x.elim) (λ_ _ x=>x)).aH (by omega) _
 generalize H2.set (h.length+1) (some (e_.aA 3 [[.aA .i64 (fT st).1,.aA .i64 (fT (fT st).2).1,.aD]] false))=H3 at *;refine fy ⟨hk.1,hk.2 F _ q _ S3.2.1 hs.nq⟩ ?_;rintro r H4 ⟨o4,r4,x4⟩;have S4:=S3.aA x4 r4;have lH3:=E3.1;have C4:H4[h.length]?=_:=(x4.2 _ (UY.1 C3).1 (by simp only[iC];omega)).trans C3;have D4:H4[h.length+1]?=_:=(x4.2 _ (UY.1 D3).1 (by simp only[iC];omega)).trans D3;have l4:=(UY.1 D4).1;have u:=(UY.1 C4).1;simp only[go_sem,D4,l4,u,o4.aA,gz o4.aA,C4,U9];refine⟨_,rfl,?_,(S4.aC (by omega) _).aC (by omega) _,((E3.aD x4 (λ_ _ x=>x) (λ_ _ x=>x)).aH (by omega) _).aH (by omega) _⟩;have o5:=eY.aC (F':=λm=>F m\/h.length<=m) _ (λ_ x=>.inl x) (λ_ _ _ x=>x) _ (Hx (Hx o4 (n:=h.length+1) (λhq=>by have:=hs.2.2.1 _ hq;omega) (some (.aA 3 [[.aA .i64 (fT st).1,.aA .i64 (fT (fT st).2).1,r]] false))) (n:=h.length) (λhq=>by have:=hs.2.2.1 _ hq;omega) (some (.aA 3 [[.aA .i64 (fT st).1,.aA .i64 (fT (fT st).2).1,r]] false)));exact⟨_,_,rfl,iO _ _ _,_,_,rfl,iO _ _ _,_,_,rfl,o5,rfl⟩
theorem Uv {P:Program}{f g:FuncId}(hf:Is P f (AM g))(hg:mM P g):jt P f hP.c jI.aA:=by refine jt.of jI.aD hf.2 λF h s q b st hs=>fS hf ?_;have hlt:=hs.lt;have hq:=hs.2.2.2;have BB:∀x:Option e_,(h++[x])[s]?=some (some (.aA 2 [[.aC q 2 0 0,.aE b]] false)):=λx=>(mW hlt x).trans hs.1;simp only[AM,go_sem,BB];have S0:=hs.up (eW.b1 (some (.aA 5 [[.aA .i64 0,.aA .i64 0,.aA .i64 0,.aA .i64 0,.aA .i64 0]] false)));have C0:=gJ h (some (.aA 5 [[.aA .i64 0,.aA .i64 0,.aA .i64 0,.aA .i64 0,.aA .i64 0]] false));have E0:eW eZ h (h++[some (.aA 5 [[.aA .i64 0,.aA .i64 0,.aA .i64 0,.aA .i64 0,.aA .i64 0]] false)]):=eW.b1 _;have lH0:=E0.1;generalize h++[some (e_.aA 5 [[.aA .i64 0,.aA .i64 0,.aA .i64 0,.aA .i64 0,.aA .i64 0]] false)]=H0 at *;refine fy ⟨hg.1,hg.2 F _ q _ S0.2.1 hs.nq⟩ ?_;rintro _ H1 ⟨rfl,r1,x1⟩;have S1:=S0.aA x1 r1;have lH1:=x1.1;have C1:H1[h.length]?=_:=(x1.2 _ (UY.1 C0).1 (by simp only[iC];omega)).trans C0;have B1:=S1.1;simp only[go_sem,B1];refine fy ⟨hg.1,hg.2 F _ q _ S1.2.1 hs.nq⟩ ?_;rintro _ H2 ⟨rfl,r2,x2⟩;have S2:=S1.aA x2 r2;have lH2:=x2.1;have C2:H2[h.length]?=_:=(x2.2 _ (UY.1 C1).1 (by simp only[iC];omega)).trans C1;have B2:=S2.1;simp only[go_sem,B2];refine fy ⟨hg.1,hg.2 F _ q _ S2.2.1 hs.nq⟩ ?_;rintro _ H3 ⟨rfl,r3,x3⟩;have S3:=S2.aA x3 r3;have lH3:=x3.1;have C3:H3[h.length]?=_:=(x3.2 _ (UY.1 C2).1 (by simp only[iC];omega)).trans C2;have B3:=S3.1;simp only[go_sem,B3];refine fy ⟨hg.1,hg.2 F _ q _ S3.2.1 hs.nq⟩ ?_;rintro _ H4 ⟨rfl,r4,x4⟩;have S4:=S3.aA x4 r4;have lH4:=x4.1;have C4:H4[h.length]?=_:=(x4.2 _ (UY.1 C3).1 (by simp only[iC];omega)).trans C3;have B4:=S4.1;simp only[go_sem,B4];refine fy ⟨hg.1,hg.2 F _ q _ S4.2.1 hs.nq⟩ ?_;rintro _ H5 ⟨rfl,r5,x5⟩;have S5:=S4.aA x5 r5;have lH5:=x5.1;have C5:H5[h.length]?=_:=(x5.2 _ (UY.1 C4).1 (by simp only[iC];omega)).trans C4;have B5:=S5.1;have l5:=(UY.1 C5).1;simp only[go_sem,B5,C5,l5];refine⟨_,rfl,?_,S5.aC (by omega) _,(E0.aD (((x1.aD x2 (λ_ _ x=>x) (λ_ _ x=>x)).aD x3 (λ_ _ x=>x) (λ_ _ x=>x)).aD (x4.aD x5 (λ_ _ x=>x) (λ_ _ x=>x)) (λ_ _ x=>x) (λ_ _ x=>x)) (λ_ _ x=>x.elim) (λ_ _ x=>x)).aH (by omega) _⟩;exact⟨_,_,rfl,iO _ _ _,_,_,rfl,iO _ _ _,_,_,rfl,iO _ _ _,_,_,rfl,iO _ _ _,_,_,rfl,iO _ _ _,rfl⟩
theorem LU {P:Program}{f g:FuncId}(hf:Is P f (AI g))(hg:yL P g):jt P f fq.c iV.aA:=by
 refine jt.of iV.aD hf.2 λF h s q b st hs=>fS hf ?_;have hlt:=hs.lt;have hq:=hs.2.2.2;have BB:∀x:Option e_,(h++[x])[s]?=some (some (.aA 2 [[.aC q 2 0 0,.aE b]] false)):=λx=>(mW hlt x).trans hs.1;simp only[AI,go_sem,BB];have S0:=hs.up (eW.b1 (some (.aA 3 [[.aD,.aD,.aD]] false)));have C0:=gJ h (some (.aA 3 [[.aD,.aD,.aD]] false));have E0:eW eZ h (h++[some (.aA 3 [[.aD,.aD,.aD]] false)]):=eW.b1 _;have lH0:h.length+1=(h++[some (e_.aA 3 [[.aD,.aD,.aD]] false)]).length:=by simp
 generalize h++[some (e_.aA 3 [[.aD,.aD,.aD]] false)]=H0 at *;refine fy ⟨hg.1,hg.2 F _ q _ S0.2.1 hs.nq⟩ ?_;rintro a1 H1 ⟨o1,r1,x1⟩;have S1:=S0.aA x1 r1;have lH1:=x1.1;have C1:H1[h.length]?=_:=(x1.2 _ (UY.1 C0).1 (by simp only[iC];omega)).trans C0;have B1:=S1.1;simp only[go_sem,B1];refine fy ⟨hg.1,hg.2 F _ q _ S1.2.1 hs.nq⟩ ?_;rintro a2 H2 ⟨o2,r2,x2⟩;have S2:=S1.aA x2 r2;have lH2:=x2.1;have C2:H2[h.length]?=_:=(x2.2 _ (UY.1 C1).1 (by simp only[iC];omega)).trans C1;have B2:=S2.1;simp only[go_sem,B2];refine fy ⟨hg.1,hg.2 F _ q _ S2.2.1 hs.nq⟩ ?_;rintro a3 H3 ⟨o3,r3,x3⟩;have S3:=S2.aA x3 r3;have lH3:=x3.1;have C3:H3[h.length]?=_:=(x3.2 _ (UY.1 C2).1 (by simp only[iC];omega)).trans C2;have B3:=S3.1;have l3:=(UY.1 C3).1;simp only[go_sem,B3,C3,l3,o1.aA,o2.aA,o3.aA,gz o1.aA,gz o2.aA,gz o3.aA];refine⟨_,rfl,?_,S3.aC (by omega) _,(E0.aD ((x1.aD x2 (λ_ _ x=>x) (λ_ _ x=>x)).aD x3 (λ_ _ x=>x) (λ_ _ x=>x)) (λ_ _ x=>x.elim) (λ_ _ x=>x)).aH (by omega) _⟩;have k1:gY (λm=>H0.length<=m) H1 (H3.set h.length (some (.aA 3 [[a1,a2,a3]] false))):=λm hm y hy=>by rw[UZ (by omega),x3.2 m (by have:=(UY.1 hy).1;omega) (by simp only[iC];omega),x2.2 m (UY.1 hy).1 (by simp only[iC];omega)];exact hy
 have k2:gY (λm=>H1.length<=m) H2 (H3.set h.length (some (.aA 3 [[a1,a2,a3]] false))):=λm hm y hy=>by rw[UZ (by omega),x3.2 m (UY.1 hy).1 (by simp only[iC];omega)];exact hy
 have k3:gY (λm=>H2.length<=m) H3 (H3.set h.length (some (.aA 3 [[a1,a2,a3]] false))):=λm hm y hy=>by rw[UZ (by omega)];exact hy
 exact⟨_,_,rfl,eY.aC _ (λm hm=>.inr (by omega)) k1 _ o1,_,_,rfl,eY.aC _ (λm hm=>.inr (by omega)) k2 _ o2,_,_,rfl,eY.aC _ (λm hm=>.inr (by omega)) k3 _ o3,rfl⟩
theorem wq {F:Nat->Prop}{h:eX}:∀{ds:List D}{l:List AV},fI ds F h l->l.length=ds.length
 | [],l,hh=>by simp only[fI]at hh;subst hh;rfl
 | d :: ds,l,hh=>by simp only[fI]at hh;obtain⟨a,r,rfl,_,h2⟩:=hh;simp[wq h2]
theorem fI.aD {F:Nat->Prop}{h:eX}:∀{ds:List D}{l:List AV},fI ds F h l->l.all AV.aH=true
 | [],l,hh=>by simp only[fI]at hh;subst hh;rfl
 | d :: ds,l,hh=>by simp only[fI]at hh;obtain⟨a,r,rfl,h1,h2⟩:=hh;simp[h1.aA,h2.aD]
theorem jq.aE {F G:Nat->Prop}{h h':eX}{s q:Nat}{b:Bool}{st:fH}(hs:jq F h s q b st)(e:eW G h h')(hG:∀m,G m->s<m):jq F h' s q b st:=by have hq:=hs.2.2.2;have hlt:=hs.lt;refine⟨(e.2 _ hlt (λx=>by have:=hG _ x;omega)).trans hs.1,hs.2.1.aA (e.2 _ (by omega) (λx=>by have:=hG _ x;omega)) (λm hm y hy=>?_),hs.2.2⟩;rw[e.2 m (by have:=hs.2.2.1 m hm;omega) (λx=>by have:=hG _ x;have:=hs.2.2.1 m hm;omega)];exact hy
theorem De {T:Type}{dec:fH->T×fH}(hn:(dec none).2=none):∀n,(iD dec n none).2=none
 | 0=>rfl
 | n+1=>by simp only[iD];generalize dec none=x at hn ⊢;obtain⟨a,b⟩:=x;cases hn;rfl
theorem QZ {T:Type}{dec:fH->T×fH}{n:Nat}{l l':List Int} (h:(dec (some l)).2=some l'):iD dec (n+1) (some l)=((dec (some l)).1 :: (iD dec n (some l')).1,(iD dec n (some l')).2):=by simp only[iD];generalize dec (some l)=x at h ⊢;obtain⟨a,b⟩:=x;cases h;rfl
theorem Q1 {T:Type}{dec:fH->T×fH}{n:Nat}{l:List Int} (h:(dec (some l)).2=none):(iD dec (n+1) (some l)).2=none:=by simp only[iD];generalize dec (some l)=x at h ⊢;obtain⟨a,b⟩:=x;cases h;rfl
theorem QA {T:Type}{dec:fH->T×fH}(hn:(dec none).2=none)(st:fH):(iK dec st).2=(if (fT st).1<0\/(((fT st).2.aC.length / 8:Nat):Int)<(fT st).1 then none else (iD dec (fT st).1.toNat (fT st).2).2) /\
  ((iK dec st).2≠none->(iK dec st).1=(iD dec (fT st).1.toNat (fT st).2).1):=by
 simp only[iK,oT];generalize fT st=x;obtain⟨n,b⟩:=x;cases b with
 | none=>simp[De hn]
 | some l=>
  simp only[fH.aC,Vu];by_cases c:n<0\/((l.length / 8:Nat):Int)<n;·rw[U4 c];exact⟨(U4 c).symm,λh=>absurd rfl h⟩
  ·rw[U6 c];exact⟨(U6 c).symm,λ_=>rfl⟩
theorem Qz {T:Type}{dec:fH->T×fH}(hn:(dec none).2=none)(b:Bool)(st:fH):
  (((fT st).1<0\/(((fT st).2.aC.length / 8:Nat):Int)<(fT st).1)->(iK dec (fH.aA b st)).2=none) /\
  (¬((fT st).1<0\/(((fT st).2.aC.length / 8:Nat):Int)<(fT st).1)->(iK dec (fH.aA b st)).2=(iD dec (fT st).1.toNat (fH.aA b (fT st).2)).2 /\
   ((iK dec (fH.aA b st)).2≠none->(iK dec (fH.aA b st)).1=(iD dec (fT st).1.toNat (fH.aA b (fT st).2)).1)):=by
 cases b with
 | true=>exact⟨λ_=>rfl,λ_=>⟨(De hn _).symm,λh=>absurd rfl h⟩⟩
 | false=>obtain⟨h1,h2⟩:=QA hn st;exact⟨λc=>by rw[U4 c]at h1;exact h1,λc=>by rw[U6 c]at h1;exact⟨h1,h2⟩⟩
def pU (k sz:Nat)(a:AV):Prop:=∀n off len cap,a=.aG n sz off len cap->k<=n
theorem pU.aA (k sz:Nat):pU k sz .aD:=by intro _ _ _ _ e;cases e
def pS {T:Type}(P:Program)(f:FuncId)(sz:Nat)(c:T->List D)(dec:fH->T×fH):Prop:=
 fK P f=true/\∀(get:FuncId),jt P get c dec->(dec none).2=none->∀(F:Nat->Prop)(h:eX)(s q:Nat)(b:Bool)(st:fH),jq F h s q b st->
  fC P f [.aC q 2 0 0,.aK get [.aC s 2 0 0] []] h λr h'=>∃(xs:List T)(a:AV)(ok b2:Bool)(st2:fH),r=.aI [a,.aE ok]/\eY (.sl sz (xs.map c)) (λm=>F m\/h.length<=m) h' a/\pU h.length sz a/\jq F h' s q b2 st2/\eW (i_ s q) h h' /\
   (ok=true->(iK dec (fH.aA b st)).2=fH.aA b2 st2/\(fH.aA b2 st2≠none->xs=(iK dec (fH.aA b st)).1))/\(ok=false->(iK dec (fH.aA b st)).2=none)
theorem oS (b:Bool)(st:fH):(fT (fH.aA b st)).2=fH.aA b (fT st).2:=by cases b<;>rfl
theorem Cn {T:Type}{S B:Nat}{c:T->List D}(hB:B<=216){P:Program}{f fi l bd:FuncId}{dec:fH->T×fH} (hf:Is P f ((wZ fi l bd).sz S B [])) (hI:mM P fi) (hl:Is P l ru) (hb:Is P bd rq) (hc:∀x:T,(c x).length=S):pS P f S c dec:=by
 refine⟨hf.2,λget hg hn F h s q b st hs=>fS hf ?_⟩;have hq:=hs.2.2.2;have hlt:=hs.lt;simp only[wZ,fM.sz,AC.sz,iY.sz,Vv,VO,go_sem];refine fy ⟨hI.1,hI.2 F _ q st hs.2.1 hs.nq⟩ ?_;rintro _ h1 ⟨rfl,r1,x1⟩;have S1:=hs.aA x1 r1;obtain⟨K1,K2⟩:=Qz hn b st;have lb:=r1.2.2;have xt:=x1.aK (F':=i_ s q) (λ_ _ x=>.inr x);have bad:((fT st).1<0\/(((fT st).2.aC.length / 8:Nat):Int)<(fT st).1)->∃(xs:List T)(a:AV)(ok b2:Bool)(st2:fH),AV.aI [.aD,.aE false]=.aI [a,.aE ok]/\eY (.sl S (xs.map c)) (λm=>F m\/h.length<=m) h1 a/\pU h.length S a/\jq F h1 s q b2 st2/\eW (i_ s q) h h1 /\
   (ok=true->(iK dec (fH.aA b st)).2=fH.aA b2 st2/\(fH.aA b2 st2≠none->xs=(iK dec (fH.aA b st)).1))/\(ok=false->(iK dec (fH.aA b st)).2=none):=
  λc=>⟨[],.aD,false,b,_,rfl,eY.aD _,pU.aA _ _,S1,xt,by simp,λ_=>K1 c⟩
 have q8:∀x:Int,jD .quo (.aA .i64 x) (.aA .i64 8)=some (.aA .i64 (IntKind.i64.wrap (x.tdiv 8))):=λ_=>rfl;have e8:IntKind.i64.wrap (((fT st).2.aC.length:Int).tdiv 8)=(((fT st).2.aC.length / 8:Nat):Int):=by rw[Int.tdiv_eq_ediv_of_nonneg (by omega),gj (by omega)];omega
 simp only[go_sem];by_cases c1:(fT st).1<0;·simp only[U3 c1,go_sem];exact bad (.inl c1)
 simp only[U2 c1,go_sem];refine fZ hl.2 (P6 hl r1) ?_;simp only[go_sem,q8,e8];by_cases c2:(((fT st).2.aC.length / 8:Nat):Int)<(fT st).1;·simp only[U3 c2,go_sem];exact bad (.inr c2)
 simp only[U2 c2,go_sem];obtain⟨E1,E2⟩:=K2 (by omega);clear bad K1 K2;generalize (fT st).1=n at *;generalize (fT st).2=st1 at *;obtain⟨N,rfl⟩:=Int.eq_ofNat_of_zero_le (show 0<=n by omega);rw[V4]at E1 E2;have hN37:N<=2^37:=by omega
 have hFs:∀m,F m->m<q:=hs.2.2.1;refine iM (λm L h2=>∃(i:Nat)(xs:List T)(o:AV)(b2:Bool)(st2:fH),lk 0 L=.aC q 2 0 0/\lk 1 L=.aK get [.aC s 2 0 0] []/\lk 7 L=o/\lk 19 L=.aA .i64 N/\lk 20 L=.aA .i64 i /\
   eY (.sl S (xs.map c)) (λm=>F m\/h.length<=m) h2 o/\gV h2 o/\(∀n off len cap,o=.aG n S off len cap->h.length<=n)/\jq F h2 s q b2 st2/\eW (i_ s q) h h2/\xs.length=i/\i<=N/\m=N-i /\
   (fH.aA b2 st2=none->(iD dec N (fH.aA b st1)).2=none)/\(∀l,fH.aA b2 st2=some l->iD dec N (fH.aA b st1)=(xs++(iD dec (N-i) (some l)).1,(iD dec (N-i) (some l)).2))) N ?_ ?_
 ·refine⟨0,[],.aD,b,st1,by simp[fm,g_],by simp[fm,g_],by simp[fm],by simp[fm],by simp[fm],eY.aD _,Vd,(by intro _ _ _ _ e;cases e),S1,xt,rfl,by omega,by omega,?_,?_⟩;·intro e;rw[e];exact De hn _
  ·intro l e;rw[e];simp
 ·rintro m L h2 ⟨i,xs,o,b2,st2,k0,k1,k7,k19,k20,hO,hA,hR,S2,X2,hx,hi,rfl,hz,hm⟩;simp only[Fj,AC.sz,iY.sz,Vv,VO,go_sem,k19,k20];refine ij (λci=>?_) (λci=>?_)
  ·simp at ci;simp only[go_sem,k1,k7];refine fy ⟨hg.1,hg.2 F h2 s q _ ⟨b2,st2,S2,rfl⟩⟩ ?_;rintro _ h3 ⟨x,az,rfl,hO3,⟨b3,st3,S3,e3⟩,X3,hx3⟩;have has:az.length=S:=by rw[wq hO3,hc]
   have hn0:∀m,F m->m<h.length:=λm hm=>by have:=hFs m hm;omega
   have keep3:gY (λm=>F m\/h.length<=m) h2 h3:=X3.aO (λm _ hm hm'=>by rcases hm with hm | hm<;>rcases hm' with rfl | rfl<;>first | (have:=hFs _ hm;omega) | omega);have hO':=eY.aC (F':=λm=>F m\/h.length<=m) _ (λ_ x=>x) keep3 _ hO;have hA':=hA.aA hO keep3;have l2:h.length<=h2.length:=X2.1;have l3:h2.length<=h3.length:=X3.1;obtain⟨o4,h4,s1,s2,s3,s4,s5⟩:=Hr (bytes:=B) (G:=λm=>F m\/h2.length<=m) (es:=[c x]) (ys:=[az]) (h:=h3++[some (.aA S [az] false)]) hO' hA' (eW.b1 _)
    ⟨az,[],rfl,fI.aA _ (λ_ x=>x) ((eW.b1 (h:=h3) (some (.aA S [az] false))).aE _) _ hO3,rfl⟩
    (λm hm=>hm.elim .inl (λx=>.inr (by omega)))
    (λn off len cap e hm=>by
     have h1:=hR _ _ _ _ e;subst e;obtain⟨row,g,hrow,_⟩:=hA;have h2:=(UY.1 hrow).1;rcases hm with hm | hm;·have:=hn0 _ hm;omega
     ·omega) (.inr (by simp;omega)) (by have:=Nat.mul_le_mul (show xs.length+1<=2^37 by omega) hB;simp;omega)
   have s1':=s1;rw[<-iv (lG h3 S [az] false (some 1) (len:=1) rfl)]at s1';have hsc:=hO3.aD;have S4:=(S3.up (eW.b1 (some (.aA S [az] false)))).aE s4 (λm hm=>by obtain⟨⟨_,_,_,e⟩,_⟩:=hm;have:=hR _ _ _ _ e;omega);have e1:IntKind.i64.wrap (↑i+1)=(i:Int)+1:=gj (by omega);have X4:eW (i_ s q) h h4:=((X2.aD X3 (λ_ _ x=>x) (λ_ _ x=>x)).aD (eW.b1 (some (.aA S [az] false))) (λ_ _ x=>x) (λ_ _ x=>x.elim)).aD s4 (λ_ _ x=>x) (λm hm hm'=>by obtain⟨⟨_,_,_,e⟩,_⟩:=hm';have:=hR _ _ _ _ e;omega);have go:∀st0,fH.aA b2 st2=st0->(fH.aA b3 st3=none->(iD dec N (fH.aA b st1)).2=none)/\(∀l,fH.aA b3 st3=some l->iD dec N (fH.aA b st1)=(xs++[x]++(iD dec (N-(i+1)) (some l)).1,(iD dec (N-(i+1)) (some l)).2)):=by
    intro st0 e0;rw[e0]at e3 hx3;rw[<-e3];cases st0 with
    | none=>exact⟨λ_=>hz e0,λl e=>by rw[hn]at e;cases e⟩
    | some l0=>have hm0:=hm l0 e0;rw[show N-i=(N-(i+1))+1 by omega]at hm0;refine⟨λe=>by rw[hm0];exact Q1 e,λl e=>?_⟩;rw[hm0,QZ e,hx3 (by rw[e];simp)];simp
   obtain⟨go1,go2⟩:=go _ rfl;simp only[go_sem,has,k0,hsc,s1'];refine fZ hb.2 (HA hb S4.2.1) ?_;cases st3 with
   | none=>simp only[go_sem,Option.isNone_none];refine⟨[],.aD,false,b3,none,rfl,eY.aD _,pU.aA _ _,S4,X4,by simp,λ_=>?_⟩;rw[E1];exact go1 (by cases b3<;>rfl)
   | some l3=>
    simp only[go_sem,WL,k0,k1,k7,k19,k20,e1];refine⟨_,by omega,i+1,xs++[x],o4,b3,_,rfl,by simp,by simpa using s2,s3,λn off len cap e=>?_,S4,X4,by simp[hx],ci,rfl,go1,go2⟩;rcases s5 _ _ _ _ e with⟨_,_,_,e'⟩ | hge
    ·exact hR _ _ _ _ e'
    ·simp only[U1,Vf,Ve]at hge;omega
  ·simp at ci;obtain rfl:i=N:=by omega
   simp only[go_sem,k0,k7];refine fZ hb.2 (HA hb S2.2.1) ?_;simp only[go_sem];refine⟨xs,o,!st2.isNone,b2,st2,rfl,hO,hR,S2,X2,λhok=>?_,λhok=>?_⟩
   ·rw[E1];cases e:fH.aA b2 st2 with
    | none=>exact⟨hz e,λhh=>absurd rfl hh⟩
    | some l=>have:=hm l e;rw[Xp]at this;refine⟨by rw[this];rfl,λ_=>?_⟩;rw[E2 (by rw[E1,this];simp[iD]),this];simp[iD]
   ·rw[E1];refine hz ?_;cases st2 with
    | none=>cases b2<;>rfl
    | some l=>simp at hok
theorem M_ {P:Program}{f fi l bd:FuncId}{dec:fH->fU×fH}(hf:Is P f (wZ fi l bd))(hI:mM P fi)(hl:Is P l ru)(hb:Is P bd rq):pS P f 3 fU.c dec:=
 Cn (S:=3) (B:=40) (c:=fU.c) (by decide) hf hI hl hb λ_=>rfl
theorem Nb {P:Program}{f fi l bd:FuncId}{dec:fH->fF×fH}(hf:Is P f (Fk fi l bd))(hI:mM P fi)(hl:Is P l ru)(hb:Is P bd rq):pS P f 10 fF.c dec:=
 Cn (S:=10) (B:=160) (c:=fF.c) (by decide) hf hI hl hb λ_=>rfl
theorem Nc {P:Program}{f fi l bd:FuncId}{dec:fH->hP×fH}(hf:Is P f (Fi fi l bd))(hI:mM P fi)(hl:Is P l ru)(hb:Is P bd rq):pS P f 5 hP.c dec:=
 Cn (S:=5) (B:=40) (c:=hP.c) (by decide) hf hI hl hb λ_=>rfl
def o9 {T:Type}(P:Program)(f:FuncId)(sz:Nat)(c:T->List D)(dec:fH->T×fH):Prop:=
 fK P f=true/\∀(get:FuncId),jt P get c dec->(dec none).2=none->∀(F:Nat->Prop)(h:eX)(s q:Nat)(st:fH),kZ F h s q st->
  fC P f [.aC s 2 0 0,.aK get [.aC s 2 0 0] []] h λr h'=>∃(xs:List T),eY (.sl sz (xs.map c)) (λm=>F m\/h.length<=m) h' r/\pU h.length sz r/\kZ F h' s q (iK dec st).2/\eW (i_ s q) h h'/\((iK dec st).2≠none->xs=(iK dec st).1)
theorem Cz {T:Type}{S:Nat}{c:T->List D}{P:Program}{f g:FuncId}{dec:fH->T×fH}(hf:Is P f (w9 g))(hg:pS P g S c dec):o9 P f S c dec:=by
 refine⟨hf.2,λget M hn F h s q st ⟨b,st',hs,e⟩=>fS hf ?_⟩;subst e;have B:=hs.1;have hq:=hs.2.2.2;have hlt:=hs.lt;simp only[w9,go_sem,B];refine fy ⟨hg.1,hg.2 get M hn F h s q b st' hs⟩ ?_;rintro _ h1 ⟨xs,a,ok,b2,u,rfl,hO,E,S1,X1,I,C⟩;have B1:=S1.1;have l1:=S1.lt;cases ok with
 | true=>obtain⟨h3,h4⟩:=I rfl;simp only[go_sem];refine⟨xs,hO,E,⟨b2,u,S1,h3⟩,X1,λhh=>h4 (by rw[<-h3];exact hh)⟩
 | false=>
  simp only[go_sem,B1];refine⟨xs,eY.aC _ (λ_ x=>x) (λm hm y hy=>?_) _ hO,E,⟨true,u,⟨U5 l1,S1.2.1.aA (UZ (by omega)) (λm hm y hy=>?_),S1.2.2⟩,C rfl⟩,?_,λhh=>absurd (C rfl) hh⟩;·rw[UZ (by rintro rfl;rcases hm with hm | hm;exact hs.ns hm;omega)];exact hy
  ·rw[UZ (by rintro rfl;exact hs.ns hm)];exact hy
  ·exact X1.aD (eW.aI (F:=i_ s q) _ (λ_=>.inl rfl)) (λ_ _ x=>x) (λ_ _ x=>x)
theorem OQ {P:Program}{f g:FuncId}{dec:fH->fU×fH}(hf:Is P f (w9 g))(hg:pS P g 3 fU.c dec):o9 P f 3 fU.c dec:=Cz hf hg
theorem OR {P:Program}{f g:FuncId}{dec:fH->fF×fH}(hf:Is P f (Fp g))(hg:pS P g 10 fF.c dec):o9 P f 10 fF.c dec:=Cz hf hg
theorem OS {P:Program}{f g:FuncId}{dec:fH->hP×fH}(hf:Is P f (Fo g))(hg:pS P g 5 hP.c dec):o9 P f 5 hP.c dec:=Cz hf hg
theorem OU {P:Program}{f g en li:FuncId}(hf:Is P f (AL g en li))(hg:mM P g)(he:jt P en fU.c kx.aA)(hl:o9 P li 3 fU.c kx.aA):jt P f fA.c kj.aA:=by
 refine⟨hf.2,λF h s q st ⟨b,st',hs,e⟩=>fS hf ?_⟩;have hlt:=hs.lt;have hq:=hs.2.2.2;have B2:∀x y:Option e_,(h++[x]++[y])[s]?=some (some (.aA 2 [[.aC q 2 0 0,.aE b]] false)):=λx y=>(Hp hlt x y).trans hs.1;simp only[AL,go_sem,B2];have S0:=hs.up (eW.b2 (some (.aA 3 [[.aA .i64 0,.aA .i64 0,.aD]] false)) none);have C0:=jx h (some (.aA 3 [[.aA .i64 0,.aA .i64 0,.aD]] false)) none;have D0:=iF h (some (.aA 3 [[.aA .i64 0,.aA .i64 0,.aD]] false)) none;have E0:eW eZ h (h++[some (.aA 3 [[.aA .i64 0,.aA .i64 0,.aD]] false)]++[none]):=eW.b2 _ _;generalize h++[some (e_.aA 3 [[.aA .i64 0,.aA .i64 0,.aD]] false)]++[none]=H0 at *;have NR:∀k,gN (h.length+1) k (.aC s 2 0 0)=true:=λk=>ig (by omega);simp only[NR,true_and];refine fy ⟨hg.1,hg.2 F _ q st' S0.2.1 hs.nq⟩ ?_;rintro _ H1 ⟨rfl,r1,x1⟩;have S1:=S0.aA x1 r1;have hq:=hs.2.2.2;have lH:=E0.1;have C1:H1[h.length]?=_:=(x1.2 _ (UY.1 C0).1 (by simp only[iC];omega)).trans C0;have B1:=S1.1;have D1:H1[h.length+1]?=some none:=(x1.2 _ (UY.1 D0).1 (by simp only[iC];omega)).trans D0;have u:(h.length+1=s)=False:=Vm (by omega);simp only[go_sem,pE,mZ,B1,D1,u,qB D1];refine fy ⟨hg.1,hg.2 F _ q _ S1.2.1 hs.nq⟩ ?_;rintro _ H2 ⟨rfl,r2,x2⟩;have S2:=S1.aA x2 r2;have lH1:=x1.1;have C2:H2[h.length]?=_:=(x2.2 _ (UY.1 C1).1 (by simp only[iC];omega)).trans C1;have D2:H2[h.length+1]?=some none:=(x2.2 _ (UY.1 D1).1 (by simp only[iC];omega)).trans D1;have B2:=S2.1;have l2:=(UY.1 D2).1;simp only[go_sem,mZ,B2,D2,u,l2];rw[VX];have S3:=S2.aC (n:=h.length+1) (by omega) (some (.aA 3 [[.aA .i64 (fT st').1,.aA .i64 (fT (fT st').2).1,.aD]] false));have C3:(H2.set (h.length+1) (some (.aA 3 [[.aA .i64 (fT st').1,.aA .i64 (fT (fT st').2).1,.aD]] false)))[h.length]?=_:=(UZ (by omega)).trans C2;have D3:=U5 (a:=some (e_.aA 3 [[.aA .i64 (fT st').1,.aA .i64 (fT (fT st').2).1,.aD]] false)) l2;have E3:eW (iC q) h (H2.set (h.length+1) (some (.aA 3 [[.aA .i64 (fT st').1,.aA .i64 (fT (fT st').2).1,.aD]] false))):=
  (E0.aD (x1.aD x2 (λ_ _ x=>x) (λ_ _ x=>x)) (λ_ _ x=>x.elim) (λ_ _ x=>x)).aH (by omega) _
 generalize H2.set (h.length+1) (some (e_.aA 3 [[.aA .i64 (fT st').1,.aA .i64 (fT (fT st').2).1,.aD]] false))=H3 at *;have lH3:=E3.1;have lD:=(UY.1 D3).1;refine fy ⟨hl.1,hl.2 en he kx.aD F _ s q _ ⟨b,_,S3,rfl⟩⟩ ?_;rintro r H4 ⟨xs,o4,-,S4,x4,hx⟩;have C4:H4[h.length]?=_:=(x4.2 _ (by omega) (by simp only[i_];omega)).trans C3;have D4:H4[h.length+1]?=_:=(x4.2 _ lD (by simp only[i_];omega)).trans D3;have l4:=(UY.1 D4).1;have E:=(UY.1 C4).1;simp only[go_sem,D4,l4,E,o4.aA,gz o4.aA,C4,U9];subst e;have dl:kj.aA (fH.aA b st')=(⟨(fT (fH.aA b st')).1,(fT (fT (fH.aA b st')).2).1,(iK kx.aA (fT (fT (fH.aA b st')).2).2).1⟩,(iK kx.aA (fT (fT (fH.aA b st')).2).2).2):=rfl;rw[dl,oS,oS];obtain⟨b4,C,S4,e4⟩:=S4;refine⟨⟨(fT st').1,(fT (fT st').2).1,xs⟩,_,rfl,?_,⟨b4,C,(S4.aC (by omega) _).aC (by omega) _,e4⟩,(((E3.aK (F':=i_ s q) (λ_ _ x=>.inr x)).aD x4 (λ_ _ x=>x) (λ_ _ x=>x)).aH (by omega) _).aH (by omega) _,?_⟩;·refine⟨_,_,rfl,iO _ _ _,_,_,rfl,iO _ _ _,_,_,rfl,?_,rfl⟩;refine eY.aC (F:=λm=>F m\/H3.length<=m) _ (λm hm=>hm.elim .inl (λx=>.inr (by omega))) (λm hm y hy=>?_) _ o4;have hF:∀m,F m->m<q:=hs.2.2.1;rw[UZ (by rcases hm with hm | hm;(have:=hF _ hm;omega);omega),UZ (by rcases hm with hm | hm;(have:=hF _ hm;omega);omega)];exact hy
 ·intro hh;rw[hx hh];cases b with
  | true=>exact absurd rfl hh
  | false=>rfl
structure Dc (F:Nat->Prop)(n s q sz:Nat)(z:Option e_)(h0:eX)(ds:List D)(cells:List AV)(σ:fH)(h:eX):Prop where
 lt:s<n
 aA:kZ F h s q σ
 c:h[n]?=some z
 d:h[n+1]?=some (some (.aA sz [cells] false))
 aF:eW (i_ s q) h0 h
 aC:fI ds (λm=>F m\/n+2<=m) h cells
def lQ {α:Type}:List α->Nat->List α->List α
 | [],_,_=>[]
 | x :: l,0,[]=>x :: l
 | _ :: l,0,m :: ms=>m :: lQ l 0 ms
 | x :: l,k+1,ms=>x :: lQ l k ms
section
variable {F:Nat->Prop} {n s q sz:Nat} {z:Option e_} {h0 h J:eX} {ds c:List D} {cells az:List AV} {σ τ:fH}
theorem fI.aC:∀{ds:List D}{cells:List AV}(k:Nat){c:List D}{az:List AV},fI ds F h cells->fI c F h az->fI (Glb.lQ ds k c) F h (Glb.lQ cells k az)
 | [],_,_,_,_,o,_=>by simp only[fI]at o;subst o;simp only[Glb.lQ,fI]
 | d :: ds,_,0,[],_,o,w=>by simp only[fI]at w;subst w;obtain⟨a,r,rfl,o⟩:=o;exact⟨a,r,rfl,o⟩
 | d :: ds,_,0,e :: c,_,o,w=>by obtain⟨a,r,rfl,o1,o2⟩:=o;obtain⟨b,t,rfl,w1,w2⟩:=w;exact⟨b,_,rfl,w1,fI.aC 0 o2 w2⟩
 | d :: ds,_,k+1,_,_,o,w=>by obtain⟨a,r,rfl,o1,o2⟩:=o;exact⟨a,_,rfl,o1,fI.aC k o2 w⟩
theorem kZ.aA {h:eX}(u:kZ F h s q σ):q<s/\∀m,F m->m<q:=by obtain⟨_,_,S,_⟩:=u;exact⟨S.2.2.2,S.2.2.1⟩
theorem Dc.aD (a:Dc F n s q sz z h0 ds cells σ h)(u:kZ F J s q τ)(x:eW (i_ s q) h J)(w:fI c (λm=>F m\/h.length<=m) J az):
  Dc F n s q sz z h0 ds cells τ J/\fI c (λm=>F m\/n+2<=m) J az:=by
 obtain⟨hq,hF⟩:=u.aA;have hl:=a.lt;have hn:=(UY.1 a.d).1;exact⟨⟨hl,u,(x.2 _ (by omega) (by simp only[i_];omega)).trans a.c,(x.2 _ hn (by simp only[i_];omega)).trans a.d,a.aF.aD x (λ_ _ x=>x) (λ_ _ x=>x),
  fI.aA _ (λ_ x=>x) (x.aO (λm _ hm e=>by rcases hm with hm | hm;(have:=hF _ hm;simp only[i_]at e;omega);(simp only[i_]at e;omega))) _ a.aC⟩,fI.aA _ (λm hm=>hm.elim .inl (λx=>.inr (by omega))) (λ_ _ _ x=>x) _ w⟩
theorem Dc.aE (a:Dc F n s q sz z h0 ds cells σ h)(hn:h0.length=n)(o:fI c (λm=>F m\/n+2<=m) h az):Dc F n s q sz z h0 c az σ (h.set (n+1) (some (.aA sz [az] false))):=by
 obtain⟨hq,hF⟩:=a.aA.aA;have hl:=a.lt;obtain⟨b,t,S,e⟩:=a.aA;exact⟨hl,⟨b,t,S.aC (by omega) _,e⟩,(UZ (by omega)).trans a.c,U5 (UY.1 a.d).1,a.aF.aH (by omega) _,
  fI.aA _ (λ_ x=>x) (λm hm y hy=>by rw[UZ (by rcases hm with hm | hm;(have:=hF _ hm;omega);omega)];exact hy) _ o⟩
theorem Dc.aG (a:Dc F n s q sz z h0 ds cells σ h)(hn:h0.length=n)(y:Option e_):fI ds (λm=>F m\/h0.length<=m) (h.set n y) cells/\kZ F (h.set n y) s q σ/\eW (i_ s q) h0 (h.set n y):=by obtain⟨hq,hF⟩:=a.aA.aA;have hl:=a.lt;obtain⟨b,t,S,e⟩:=a.aA;exact⟨fI.aA _ (λm hm=>hm.elim .inl (λx=>.inr (by omega))) (λm hm y hy=>by rw[UZ (by rcases hm with hm | hm;(have:=hF _ hm;omega);omega)];exact hy) _ a.aC,⟨b,t,S.aC (by omega) _,e⟩,a.aF.aH (by omega) _⟩
structure Di (F:Nat->Prop)(n s q sz:Nat)(zs:List AV)(h0:eX)(b:Bool)(xs:List Int)(st:fH)(h:eX):Prop where
 lt:s<n
 aA:jq F h s q b st
 c:h[n]?=some (some (.aA sz [zs] false))
 d:h[n+1]?=some none
 aD:eW (i_ s q) h0 h
theorem Di.of {b:Bool}{st:fH}(hs:jq F h s q b st)(sz:Nat)(zs:List AV):Di F h.length s q sz zs h b [] st (h++[some (.aA sz [zs] false)]++[none]):=
 ⟨hs.lt,hs.up (eW.b2 _ _),jx h _ none,iF h _ none,(eW.b2 _ _).aK (λ_ _ x=>x.elim)⟩
theorem Di.aC {zs:List AV}{b:Bool}{xs:List Int}{st:fH}(a:Di F n s q sz zs h0 b xs st h)(r:iN F J q (fT st).2)(x:eW (iC q) h J):Di F n s q sz zs h0 b (xs++[(fT st).1]) (fT st).2 J:=by have hq:=a.aA.2.2.2;have hl:=a.lt;have hn:=(UY.1 a.d).1;exact⟨hl,a.aA.aA x r,(x.2 _ (by omega) (by simp only[iC];omega)).trans a.c,(x.2 _ hn (by simp only[iC];omega)).trans a.d,a.aD.aD x (λ_ _ x=>x) (λ_ _ x=>.inr x)⟩
def AV.aV:AV->Bool
 | .aA .. | .aD=>true
 | _=>false
def AV.zD:AV->D
 | .aA k n=>.aA k n
 | _=>.sl 1 []
theorem fI.aE:∀{l:List AV},l.all AV.aV=true->fI (l.map AV.zD) F h l
 | [],_=>rfl
 | a :: l,hl=>by rw[List.all_cons,Vq]at hl;refine⟨a,l,rfl,?_,fI.aE hl.2⟩;cases a<;>first | exact rfl | exact .inl ⟨rfl,rfl⟩ | simp[AV.aV]at hl
theorem Di.aE {zs:List AV}{b:Bool}{xs:List Int}{st:fH}(a:Di F n s q sz zs h0 b xs st h)(hn:h0.length=n) (hz:(lQ zs 0 (xs.map (.aA .i64 ·))).all AV.aV=true):
  Dc F n s q sz (some (.aA sz [zs] false)) h0 ((lQ zs 0 (xs.map (.aA .i64 ·))).map AV.zD) (lQ zs 0 (xs.map (.aA .i64 ·))) (fH.aA b st) (h.set (n+1) (some (.aA sz [lQ zs 0 (xs.map (.aA .i64 ·))] false))):=by
 have hq:=a.aA.2.2.2;have hF:=a.aA.2.2.1;have hl:=a.lt;exact⟨hl,⟨b,st,a.aA.aC (by omega) _,rfl⟩,(UZ (by omega)).trans a.c,U5 (UY.1 a.d).1,a.aD.aH (by omega) _,fI.aE hz⟩
theorem jq.aD {b:Bool}{st:fH}(S:jq F h s q b st)(e:σ=fH.aA b st)(r:iN F J q (gW st).2)(x:eW (iC q) h J):
  kZ F J s q (gW σ).2/\eW (i_ s q) h J/\((gW σ).2≠none->(gW st).1=(gW σ).1):=by
 subst e;refine⟨⟨b,_,S.aA x r,?_⟩,x.aK (λ_ _ x=>.inr x),λhh=>?_⟩;·cases b<;>rfl
 ·cases b;·rfl
  ·exact absurd rfl hh
end
theorem CX {x:fA}{F:Nat->Prop}{h:eX}{a:List AV}(hh:fI x.c F h a):∃d,a=[.aA .i64 x.aA,.aA .i64 x.aD,d]/\eY (gK x.es) F h d:=by simp only[fA.c,fI,eY]at hh;obtain⟨_,_,rfl,rfl,_,_,rfl,rfl,d,_,rfl,hd,rfl⟩:=hh;exact⟨d,rfl,by simpa only[gK,eY] using hd⟩
theorem Hz {x:hP}{F:Nat->Prop}{h:eX}{a:List AV}(hh:fI x.c F h a):a=[.aA .i64 x.aA,.aA .i64 x.aC,.aA .i64 x.aE,.aA .i64 x.aD,.aA .i64 x.aF]:=by simp only[hP.c,fI,eY]at hh;obtain⟨_,_,rfl,rfl,_,_,rfl,rfl,_,_,rfl,rfl,_,_,rfl,rfl,_,_,rfl,rfl,rfl⟩:=hh;rfl
theorem No {P:Program}{f g lo co k:FuncId}(hf:Is P f (AK g lo co k))(hg:mM P g)(I:jt P lo fA.c kj.aA)(M:jt P co fq.c iV.aA)(hk:r9 P k):jt P f fF.c jX.aA:=by
 refine⟨hf.2,λF h s q st ⟨b,st',hs,e⟩=>fS hf ?_⟩;have hlt:=hs.lt;have hq:=hs.2.2.2;have NR:∀k,gN (h.length+1) k (.aC s 2 0 0)=true:=λk=>ig (by omega);have E:(h.length+1=s)=False:=Vm (by omega);have A:=Di.of hs 10 [.aA .i64 0,.aA .i64 0,.aA .i64 0,.aA .i64 0,.aA .i64 0,.aD,.aD,.aD,.aD,.aD];have B:=A.aA.1;simp only[AK,go_sem,B,NR];generalize h++[some (e_.aA 10 _ false)]++[none]=H at *;refine fy ⟨hg.1,hg.2 F _ q _ A.aA.2.1 hs.nq⟩ ?_;rintro _ H1 ⟨rfl,r1,x1⟩;have A:=A.aC r1 x1;have B:=A.aA.1;have D:=A.d;simp only[go_sem,pE,mZ,B,D,E,qB D];clear B D;refine fy ⟨hg.1,hg.2 F _ q _ A.aA.2.1 hs.nq⟩ ?_;rintro _ H1 ⟨rfl,r1,x1⟩;have A:=A.aC r1 x1;have B:=A.aA.1;have D:=A.d;simp only[go_sem,pE,mZ,B,D,E,qB D];clear B D;refine fy ⟨hg.1,hg.2 F _ q _ A.aA.2.1 hs.nq⟩ ?_;rintro _ H1 ⟨rfl,r1,x1⟩;have A:=A.aC r1 x1;have B:=A.aA.1;have D:=A.d;have l:=(UY.1 D).1;simp only[go_sem,mZ,B,D,E,l];rw[VX];have A:=A.aE rfl rfl;simp only[Wd,WM,List.map,lQ,AV.zD]at A;generalize H1.set _ _=G at *;clear B D l;refine fy ⟨I.1,I.2 F _ s q _ A.aA⟩ ?_;rintro _ J ⟨y1,az,rfl,w,u,x,W⟩;obtain⟨A,w⟩:=A.aD u x w;have o:=A.aC.aC 3 w;obtain⟨d,rfl,w1⟩:=CX w;have D:=A.d;simp only[go_sem,D,w1.aA];have A:=A.aE rfl o;simp only[lQ]at A;generalize J.set _ _=G1 at *;clear D;refine fy ⟨M.1,M.2 F _ s q _ A.aA⟩ ?_;rintro _ J ⟨y2,az,rfl,w,u,x,U⟩;obtain⟨A,w⟩:=A.aD u x w;have o:=A.aC.aC 6 w;obtain⟨d2,f2,g2,rfl,w2,v2,u2⟩:=vv w;have D:=A.d;obtain⟨_,_,S,-⟩:=A.aA;have B:=S.1;have l:=(UY.1 D).1;simp only[go_sem,D,w2.aA,v2.aA,u2.aA,B,E,l];have A:=A.aE rfl o;simp only[lQ]at A;generalize J.set _ _=G1 at *;clear D B l;obtain⟨_,sb,S,e2⟩:=A.aA;refine fy ⟨hk.1,hk.2 F _ q _ S.2.1 hs.nq⟩ ?_;rintro d3 J ⟨w3,r,x⟩;obtain⟨u,x,O⟩:=S.aD e2 r x;obtain⟨A,w⟩:=A.aD u x (c:=[gq _]) ⟨_,_,rfl,eY.aC _ (λ_ x=>.inl x) (λ_ _ _ x=>x) _ w3,rfl⟩;have o:=A.aC.aC 9 w;have D:=A.d;have C:=A.c;have l:=(UY.1 D).1;have l':=(UY.1 C).1;simp only[go_sem,D,C,l,l',U9,w1.aA,w2.aA,v2.aA,u2.aA,w3.aA,gz w3.aA];obtain⟨E1,E2,E3⟩:=(A.aE rfl o).aG rfl _;subst e;have e:(jX.aA (fH.aA b st')).2=(gW (iV.aA (kj.aA (fH.aA b (fT (fT (fT st').2).2).2)).2).2).2:=by rw[<-oS,<-oS,<-oS];rfl
 rw[e];refine⟨⟨_,_,_,y1,y2,(gW sb).1⟩,_,rfl,E1,E2,E3,λhh=>?_⟩;have n2:(iV.aA _).2≠none:=λhz=>hh (by rw[hz];rfl);have n1:(kj.aA _).2≠none:=λhz=>n2 (by rw[hz];exact iV.aD);rw[W n1,U n2,O hh];cases b with
 | true=>exact absurd kj.aD n1
 | false=>rfl
theorem LI {P:Program}{f g lo co k vo:FuncId}(hf:Is P f (AH g lo co k vo))(hg:mM P g)(I:jt P lo fA.c kj.aA)(M:jt P co fq.c iV.aA)(hk:r9 P k)(hv:jt P vo hP.c jI.aA):jt P f gi.c kE.aA:=by
 refine⟨hf.2,λF h s q st ⟨b,st',hs,e⟩=>fS hf ?_⟩;have hlt:=hs.lt;have hq:=hs.2.2.2;have NR:∀k,gN (h.length+1) k (.aC s 2 0 0)=true:=λk=>ig (by omega);have E:(h.length+1=s)=False:=Vm (by omega);have A:=Di.of hs 17 [.aA .i64 0,.aA .i64 0,.aA .i64 0,.aA .i64 0,.aA .i64 0,.aA .i64 0,.aA .i64 0,.aD,.aD,.aD,.aD,.aD,.aA .i64 0,.aA .i64 0,.aA .i64 0,.aA .i64 0,.aA .i64 0];have B:=A.aA.1;simp only[AH,go_sem,B,NR];generalize h++[some (e_.aA 17 _ false)]++[none]=H at *;refine fy ⟨hg.1,hg.2 F _ q _ A.aA.2.1 hs.nq⟩ ?_;rintro _ H1 ⟨rfl,r1,x1⟩;have A:=A.aC r1 x1;have B:=A.aA.1;have D:=A.d;simp only[go_sem,pE,mZ,B,D,E,qB D];clear B D;refine fy ⟨hg.1,hg.2 F _ q _ A.aA.2.1 hs.nq⟩ ?_;rintro _ H1 ⟨rfl,r1,x1⟩;have A:=A.aC r1 x1;have B:=A.aA.1;have D:=A.d;simp only[go_sem,pE,mZ,B,D,E,qB D];clear B D;refine fy ⟨hg.1,hg.2 F _ q _ A.aA.2.1 hs.nq⟩ ?_;rintro _ H1 ⟨rfl,r1,x1⟩;have A:=A.aC r1 x1;have B:=A.aA.1;have D:=A.d;simp only[go_sem,pE,mZ,B,D,E,qB D];clear B D;refine fy ⟨hg.1,hg.2 F _ q _ A.aA.2.1 hs.nq⟩ ?_;rintro _ H1 ⟨rfl,r1,x1⟩;have A:=A.aC r1 x1;have B:=A.aA.1;have D:=A.d;simp only[go_sem,pE,mZ,B,D,E,qB D];clear B D;refine fy ⟨hg.1,hg.2 F _ q _ A.aA.2.1 hs.nq⟩ ?_;rintro _ H1 ⟨rfl,r1,x1⟩;have A:=A.aC r1 x1;have B:=A.aA.1;have D:=A.d;have l:=(UY.1 D).1;simp only[go_sem,mZ,B,D,E,l];rw[VX];have A:=A.aE rfl rfl;simp only[Wd,WM,List.map,lQ,AV.zD]at A;generalize H1.set _ _=G at *;clear B D l;refine fy ⟨I.1,I.2 F _ s q _ A.aA⟩ ?_;rintro _ J ⟨y1,az,rfl,w,u,x,Z⟩;obtain⟨A,w⟩:=A.aD u x w;have o:=A.aC.aC 5 w;obtain⟨d,rfl,w1⟩:=CX w;have D:=A.d;simp only[go_sem,D,w1.aA];have A:=A.aE rfl o;simp only[lQ]at A;generalize J.set _ _=G1 at *;clear D;refine fy ⟨M.1,M.2 F _ s q _ A.aA⟩ ?_;rintro _ J ⟨y2,az,rfl,w,u,x,W⟩;obtain⟨A,w⟩:=A.aD u x w;have o:=A.aC.aC 8 w;obtain⟨d2,f2,g2,rfl,w2,v2,u2⟩:=vv w;have D:=A.d;obtain⟨_,_,S,-⟩:=A.aA;have B:=S.1;have l:=(UY.1 D).1;simp only[go_sem,D,w2.aA,v2.aA,u2.aA,B,E,l];have A:=A.aE rfl o;simp only[lQ]at A;generalize J.set _ _=G1 at *;clear D B l;obtain⟨_,sb,S,e2⟩:=A.aA;refine fy ⟨hk.1,hk.2 F _ q _ S.2.1 hs.nq⟩ ?_;rintro d3 J ⟨w3,r,x⟩;obtain⟨u,x,U⟩:=S.aD e2 r x;obtain⟨A,w⟩:=A.aD u x (c:=[gq _]) ⟨_,_,rfl,eY.aC _ (λ_ x=>.inl x) (λ_ _ _ x=>x) _ w3,rfl⟩;have o:=A.aC.aC 11 w;have D:=A.d;simp only[go_sem,D,w3.aA,gz w3.aA];have A:=A.aE rfl o;simp only[lQ]at A;generalize J.set _ _=G1 at *;clear D;refine fy ⟨hv.1,hv.2 F _ s q _ A.aA⟩ ?_;rintro _ J ⟨y4,az,rfl,w,u,x,O⟩;obtain⟨A,w⟩:=A.aD u x w;have o:=A.aC.aC 12 w;obtain rfl:=Hz w;have D:=A.d;have C:=A.c;have l:=(UY.1 D).1;have l':=(UY.1 C).1;simp only[go_sem,D,C,l,l',U9,w1.aA,w2.aA,v2.aA,u2.aA,w3.aA];obtain⟨E1,E2,E3⟩:=(A.aE rfl o).aG rfl _;subst e;have e:(kE.aA (fH.aA b st')).2=(jI.aA (gW (iV.aA (kj.aA (fH.aA b (fT (fT (fT (fT (fT st').2).2).2).2).2)).2).2).2).2:=by rw[<-oS,<-oS,<-oS,<-oS,<-oS];rfl
 rw[e];refine⟨⟨_,_,_,_,_,y1,y2,(gW sb).1,y4⟩,_,rfl,E1,E2,E3,λhh=>?_⟩;have n3:(gW _).2≠none:=λhz=>hh (by rw[hz];exact jI.aD);have n2:(iV.aA _).2≠none:=λhz=>n3 (by rw[hz];rfl);have n1:(kj.aA _).2≠none:=λhz=>n2 (by rw[hz];exact iV.aD);rw[Z n1,W n2,U n3,O hh];cases b with
 | true=>exact absurd kj.aD n1
 | false=>rfl
end Glb
