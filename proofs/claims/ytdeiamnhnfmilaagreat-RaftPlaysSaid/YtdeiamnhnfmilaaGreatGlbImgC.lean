/-
  A library of its own.
-/
import Derived.Test.YtdeiamnhnfmilaaGreatGlbImgB
set_option linter.unusedSimpArgs false
set_option linter.unusedVariables false
set_option maxRecDepth 10000
set_option maxHeartbeats 8000000
namespace Glb
open Go
def kI (F:Nat->Prop)(h:eZ)(s q:Nat)(b:Bool)(st:fZ):Prop:=
 h[s]?=some (some (.aA 2 [[.aC q 2 0 0,.aD b]] false))/\iC F h q st/\(∀m,F m->m<q)/\q<s
def fZ.aD (b:Bool)(st:fZ):fZ:=if b then none else st
def rM (F:Nat->Prop)(h:eZ)(s q:Nat)(st:fZ):Prop:=∃(b:Bool)(st':fZ),kI F h s q b st'/\st=fZ.aD b st'
abbrev xN (s q:Nat):Nat->Prop:=λm=>m=s\/m=q
theorem HG {h:eZ}{s:Nat}(hs:s<h.length)(x:Option fh):(h++[x])[s]?=h[s]?:=VK hs
theorem kI.lt {F:Nat->Prop}{h:eZ}{s q:Nat}{b:Bool}{st:fZ}(hs:kI F h s q b st):s<h.length:=(U_.1 hs.1).1
theorem kI.up {F:Nat->Prop}{h h':eZ}{s q:Nat}{b:Bool}{st:fZ}(hs:kI F h s q b st)(e:eY fj h h'):kI F h' s q b st:=
 ⟨(e.2 _ hs.lt (λx=>x)).trans hs.1,hs.2.1.up e,hs.2.2⟩
theorem kI.aA {F:Nat->Prop}{h h':eZ}{s q:Nat}{b:Bool}{st t:fZ}(hs:kI F h s q b st)(e:eY (hU q) h h')(hr:iC F h' q t):kI F h' s q b t:=
 ⟨(e.2 _ hs.lt (by have:=hs.2.2.2;simp only[hU];omega)).trans hs.1,hr,hs.2.2⟩
theorem kI.nq {F:Nat->Prop}{h:eZ}{s q:Nat}{b:Bool}{st:fZ}(hs:kI F h s q b st):¬F q:=λhq=>by have:=hs.2.2.1 _ hq;omega
theorem iv {n k s sz i o:Nat}(h:s<n):gN n k (.aC s sz i o)=true:=by simp[gN];omega
theorem kI.aB {F:Nat->Prop}{h:eZ}{s q:Nat}{b:Bool}{st:fZ}(hs:kI F h s q b st){n:Nat}(hn:s<n)(x:Option fh):kI F (h.set n x) s q b st:=by
 have:=hs.2.2.2;have nF:¬F n:=λhq=>by have:=hs.2.2.1 _ hq;omega
 exact⟨by rw[Vb (by omega)];exact hs.1,hs.2.1.aA (Vb (by omega)) (λm hm y hy=>by rw[Vb (by rintro rfl;exact nF hm)];exact hy),hs.2.2⟩
theorem eY.aK {F:Nat->Prop}{h h':eZ}(e:eY F h h'){n:Nat}(hn:h.length<=n)(x:Option fh):eY F h (h'.set n x):=
 ⟨by rw[Vh];exact e.1,λm hm hF=>by rw[Vb (by omega)];exact e.2 m hm hF⟩
def rD {T:Type}(P:Program)(f:FuncId)(c:T->List D)(dec:fZ->T×fZ):Prop:=
 fI P f=true/\∀(F:Nat->Prop)(h:eZ)(s q:Nat)(st:fZ),rM F h s q st->
  fy P f [.aC s 2 0 0] h λr h'=>∃(x:T)(az:List AV),r=.aE az/\fW (c x) (λm=>F m\/h.length<=m) h' az/\rM F h' s q (dec st).2/\eY (xN s q) h h'/\((dec st).2≠none->x=(dec st).1)
theorem rD.of {T:Type}{P:Program}{f:FuncId}{c:T->List D}{dec:fZ->T×fZ}(hn:(dec none).2=none)(h1:fI P f=true)
  (h2:∀(F:Nat->Prop)(h:eZ)(s q:Nat)(b:Bool)(st:fZ),kI F h s q b st->
   fy P f [.aC s 2 0 0] h λr h'=>∃(az:List AV),r=.aE az/\fW (c (dec st).1) (λm=>F m\/h.length<=m) h' az/\kI F h' s q b (dec st).2/\eY (hU q) h h'):rD P f c dec:=by
 refine⟨h1,λF h s q st ⟨b,st',hs,e⟩=>(h2 F h s q b st' hs).aA λr h' ⟨az,hr,ho,hs',hx⟩=>⟨_,az,hr,ho,⟨b,_,hs',?_⟩,hx.aB (eY.aC fj _) (λ_ _ x=>.inr x) (λ_ _ x=>x.elim),?_⟩⟩
 ·subst e;cases b;·rfl
  ·exact hn
 ·subst e;cases b;·intro _;rfl
  ·intro hh;exact absurd hn hh
theorem LW {P:Program}{f g:FuncId}(hf:Is P f (A_ g))(hg:yu P g):rD P f fG.c iI.aA:=by
 refine rD.of iI.aC hf.2 λF h s q b st hs=>fN hf ?_;have hlt:=hs.lt;have hq:=hs.2.2.2;have BB:∀x:Option fh,(h++[x])[s]?=some (some (.aA 2 [[.aC q 2 0 0,.aD b]] false)):=λx=>(HG hlt x).trans hs.1;simp only[A_,go_sem,BB];have S0:=hs.up (eY.b1 (some (.aA 3 [[.aB,.aB,.aB]] false)));have C0:=gh h (some (.aA 3 [[.aB,.aB,.aB]] false));have E0:eY fj h (h++[some (.aA 3 [[.aB,.aB,.aB]] false)]):=eY.b1 _;have lH0:h.length+1=(h++[some (fh.aA 3 [[.aB,.aB,.aB]] false)]).length:=by simp
 generalize h++[some (fh.aA 3 [[.aB,.aB,.aB]] false)]=H0 at *;refine fq ⟨hg.1,hg.2 F _ q _ S0.2.1 hs.nq⟩ ?_;rintro a1 H1 ⟨o1,r1,x1⟩;have S1:=S0.aA x1 r1;have lH1:=x1.1;have C1:H1[h.length]?=_:=(x1.2 _ (U_.1 C0).1 (by simp only[hU];omega)).trans C0;have B1:=S1.1;simp only[go_sem,B1];refine fq ⟨hg.1,hg.2 F _ q _ S1.2.1 hs.nq⟩ ?_;rintro a2 H2 ⟨o2,r2,x2⟩;have S2:=S1.aA x2 r2;have lH2:=x2.1;have C2:H2[h.length]?=_:=(x2.2 _ (U_.1 C1).1 (by simp only[hU];omega)).trans C1;have B2:=S2.1;simp only[go_sem,B2];refine fq ⟨hg.1,hg.2 F _ q _ S2.2.1 hs.nq⟩ ?_;rintro a3 H3 ⟨o3,r3,x3⟩;have S3:=S2.aA x3 r3;have lH3:=x3.1;have C3:H3[h.length]?=_:=(x3.2 _ (U_.1 C2).1 (by simp only[hU];omega)).trans C2;have B3:=S3.1;have l3:=(U_.1 C3).1;simp only[go_sem,B3,C3,l3,o1.aA,o2.aA,o3.aA,gH o1.aA,gH o2.aA,gH o3.aA];refine⟨_,rfl,?_,S3.aB (by omega) _,(E0.aB ((x1.aB x2 (λ_ _ x=>x) (λ_ _ x=>x)).aB x3 (λ_ _ x=>x) (λ_ _ x=>x)) (λ_ _ x=>x.elim) (λ_ _ x=>x)).aK (by omega) _⟩;have k1:gz (λm=>H0.length<=m) H1 (H3.set h.length (some (.aA 3 [[a1,a2,a3]] false))):=λm hm y hy=>by rw[Vb (by omega),x3.2 m (by have:=(U_.1 hy).1;omega) (by simp only[hU];omega),x2.2 m (U_.1 hy).1 (by simp only[hU];omega)];exact hy
 have k2:gz (λm=>H1.length<=m) H2 (H3.set h.length (some (.aA 3 [[a1,a2,a3]] false))):=λm hm y hy=>by rw[Vb (by omega),x3.2 m (U_.1 hy).1 (by simp only[hU];omega)];exact hy
 have k3:gz (λm=>H2.length<=m) H3 (H3.set h.length (some (.aA 3 [[a1,a2,a3]] false))):=λm hm y hy=>by rw[Vb (by omega)];exact hy
 exact⟨_,_,rfl,e_.aB _ (λm hm=>.inr (by omega)) k1 _ o1,_,_,rfl,e_.aB _ (λm hm=>.inr (by omega)) k2 _ o2,_,_,rfl,e_.aB _ (λm hm=>.inr (by omega)) k3 _ o3,rfl⟩
section
variable {F:Nat->Prop} {n s q sz:Nat} {z:Option fh} {h0 h J:eZ} {ds c:List D} {cells az:List AV} {σ τ:fZ}
end
end Glb
