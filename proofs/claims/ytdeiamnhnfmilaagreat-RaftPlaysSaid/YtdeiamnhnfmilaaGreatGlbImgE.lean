/-
  A library of its own.
-/
import Derived.Test.YtdeiamnhnfmilaaGreatGlbImgD
import Derived.Test.YtdeiamnhnfmilaaGreatGlbLogA
set_option linter.unusedSimpArgs false
set_option linter.unusedVariables false
set_option maxRecDepth 10000
set_option maxHeartbeats 16000000
namespace Glb
open Go
theorem Eh {F:Nat->Prop}{h:eZ}:∀{ds:List (List D)} {es:List (List AV)} (j:Nat) {d:List D} {cs:List AV},fP ds F h es->fW d F h cs->fP (ds.set j d) F h (es.set j cs)
 | [],es,j,d,cs,hh,hd=>by simp only[fP]at hh;subst hh;simp[fP]
 | e :: ds,es,0,d,cs,hh,hd=>by obtain⟨a,r,rfl,h1,h2⟩:=hh;exact⟨_,_,rfl,hd,h2⟩
 | e :: ds,es,j+1,d,cs,hh,hd=>by obtain⟨a,r,rfl,h1,h2⟩:=hh;exact⟨_,_,rfl,h1,Eh j h2 hd⟩
theorem Ee {F:Nat->Prop}{h:eZ}:∀{ds:List (List D)} {es:List (List AV)} {j:Nat} {d:List D},fP ds F h es->ds[j]?=some d->∃cs,es[j]?=some cs/\fW d F h cs
 | [],es,j,d,hh,hd=>by simp at hd
 | e :: ds,es,0,d,hh,hd=>by obtain⟨a,r,rfl,h1,h2⟩:=hh;simp only[VB,Vk]at hd;subst hd;exact⟨a,rfl,h1⟩
 | e :: ds,es,j+1,d,hh,hd=>by obtain⟨a,r,rfl,h1,h2⟩:=hh;simp only[VZ]at hd ⊢;exact Ee h2 hd
theorem Qx {sz:Nat}{ds:List (List D)}{F:Nat->Prop}{h:eZ}{a:AV}{j:Nat}{d0:List D}(ho:e_ (.sl sz ds) F h a) (hj:ds[j]?=some d0):
  ∃n off row g cs len cap,a=.aF n sz off len cap/\F n/\iH sz a (.aA .i64 j)=some (.aC n sz (off+j) 0)/\h[n]?=some (some (.aA sz row g))/\row[off+j]?=some cs/\fW d0 (λm=>F m/\m≠n) h cs /\
   ∀(F':Nat->Prop)(h':eZ)(d:List D)(cs':List AV),(∀m,F m->F' m)->gz (λm=>F m/\m≠n) h h'->h'[n]?=h[n]?->fW d (λm=>F' m/\m≠n) h' cs'->e_ (.sl sz (ds.set j d)) F' (h'.set n (some (.aA sz (row.set (off+j) cs') g))) a:=by
 have u:=(U_.1 hj).1;simp only[e_]at ho;rcases ho with⟨rfl,rfl⟩ | ⟨t,c,rfl,rfl⟩ | ⟨n,off,cap,row,g,rfl,hn,b,I,U,hd⟩;·simp at u
 ·simp at u
 obtain⟨cs,C,W⟩:=Ee hd hj;rw[V_,Vf u,Vz]at C;refine⟨n,off,row,g,cs,ds.length,cap,rfl,hn,?_,b,C,W,λF' h' d cs' hF hk E O=>?_⟩;·simp only[iH];rw[Vf ⟨Vp,by omega,by omega⟩];simp
 ·have hlt:=(U_.1 (E.trans b)).1;simp only[e_];refine .inr (.inr ⟨n,off,cap,_,g,by rw[Vh],hF _ hn,Vd hlt,by rw[Vh,Vh];exact I,by rw[Vh];exact U,?_⟩);have e:((row.set (off+j) cs').drop off).take (ds.set j d).length=((row.drop off).take ds.length).set j cs':=by
   rw[Vh];apply VT;intro i;simp only[V_,Vz,WD,Vw,VA];by_cases e1:i<ds.length
   ·rw[Vf e1];by_cases e2:j=i;·subst e2;rw[Vf rfl,Vf rfl,Vf (by omega),Vf (by omega)]
    ·rw[Ve (by omega),Ve e2,Vf e1]
   ·rw[Ve e1,Ve (by omega),Ve e1]
  rw[e];have M:fP ds (λm=>F' m/\m≠n) h' ((row.drop off).take ds.length):=fP.aA _ (λm x=>⟨hF _ x.1,x.2⟩) hk _ hd;exact fP.aA _ (λ_ x=>x) (λm hm y hy=>by rw[Vb (λe=>hm.2 e.symm)];exact hy) _ (Eh j M O)
def fV.aJ (x:fV)(c:fU):fE:=if x.aA.aD c.aA.aA=true/\x.aA.aG c.aA.aA=c.aA.aB then x.aA.aK c.aA.aA else ⟨c.aA.aA,c.aA.aB,[]⟩
def fU.aG (x:fU)(e o n l s:AV):List AV:=[.aA .i64 x.aC,.aA .i64 x.aI,.aA .i64 x.aK,.aA .i64 x.aL,.aA .i64 x.aF,.aA .i64 x.aA.aA,.aA .i64 x.aA.aB,e,o,n,l,s,.aA .i64 x.aB.aD,.aA .i64 x.aB.aB,.aA .i64 x.aB.aC,.aA .i64 x.aB.aA,.aA .i64 x.aB.aE]
theorem xB {x:fU}{F:Nat->Prop}{h:eZ}{a:List AV}(hh:fu F h x.c a):∃e o n l s,a=x.aG e o n l s/\Rd F h (f_ x.aA.es) e/\Rd F h (fK x.aE.aA) o/\Rd F h (fK x.aE.aB) n/\Rd F h (fK x.aE.aC) l/\Rd F h (fT x.aJ) s:=by obtain⟨e,o,n,l,s,rfl,h'⟩:=Df hh;exact⟨e,o,n,l,s,rfl,h'⟩
end Glb
