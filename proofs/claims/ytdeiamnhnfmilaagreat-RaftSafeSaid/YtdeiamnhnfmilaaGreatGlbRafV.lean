/-
  A library of its own.
-/
import Derived.Test.YtdeiamnhnfmilaaGreatGlbRafK
set_option linter.unusedSimpArgs false
set_option linter.unusedVariables false
set_option maxRecDepth 10000
set_option maxHeartbeats 8000000
namespace Glb
open Go
theorem Ia {x:fq}(h:x.aE=true):x.R:=by obtain⟨-,⟨-,h2⟩,⟨-,h4⟩,⟨-,h6⟩,-⟩:=mY.1 h;exact⟨λn hn=>by have:=h2 n hn;constructor<;>omega,λn hn=>by have:=h4 n hn;constructor<;>omega,λn hn=>by have:=h6 n hn;constructor<;>omega⟩
structure fF.aJ (k:Nat)(x:fF):Prop where
 R:x.R
 aE:x.aA.es.length<=k
 aH:∀e∈x.aA.es,e.aC.length<=2^16
 aC:x.aD.aG 7
 aG:x.aG.length<=2^16
 aA:0<=x.aA.aA/\x.aA.aA<=2^41
theorem fj.aD.bC {k:Nat}{x:fj}(h:x.aD k)(hk:k<=2^40):x.aA.aJ k:=
 ⟨⟨h.aN.1,⟨by have:=h.aI;omega,by have:=h.aI;omega⟩,h.aN.2.1,⟨⟨by have:=h.aC;omega,by have:=h.aC;omega⟩,h.aN.2.2,λe he=>⟨(h.aH e he).2.1,(h.aH e he).2.2,(h.aH e he).1.1⟩⟩,Ia h.aE,h.aU.1⟩,h.aL,λe he=>(h.aH e he).1.2,lA h.aE,h.aU.2,by have:=h.aC;omega⟩
theorem F_ {k:Nat}{l:List fU}(h1:l.length<=k)(h2:∀e∈l,e.aC.length<=2^16):(l.flatMap kx.aC).length<=k*65560:=by have h4:=Gj kx.aC 65560 l (λe he=>by have:=h2 e he;rw[Ga];simp only[U1,js];omega);exact Vh h4 (VU _ h1)
theorem fF.aJ.aI {k:Nat}{x:fF}(h:x.aJ k):(jX.aC x).length<=k*65560+70000:=by have h7:=F_ h.aE h.aH;have e:=lL;obtain⟨h3,h4,h5⟩:=h.aC;have h6:=h.aG;rw[Gu,CA];simp only[fq.aF,U1,e,js,Vf,Ve];omega
theorem fF.aJ.aD {k:Nat}{x:fF}(h:x.aJ k)(hk:k<=2^20):x.aP:=⟨⟨by have:=h.aE;omega,λe he=>by have:=h.aH e he;omega⟩,h.aC.le (by omega),by have:=h.aG;omega⟩
theorem fF.aJ.aF {k:Nat}{x:fF}(h:x.aJ k)(hk:k<=2^20):jL x.aA:=⟨h.aA.1,by have:=h.aA.2;omega,(h.aD hk).1⟩
structure gi.aM (c:gi):Prop where
 R:c.R
 aA:c.aA.es.length<=2^12/\∀e∈c.aA.es,e.aC.length<=2^16
 aC:c.aG.aG 7
 aD:c.aJ.length<=2^16
theorem gi.aM.aE {c:gi}(h:c.aM):(kE.aC c).length<=2^33:=by have h7:=F_ h.aA.1 h.aA.2;have e:=lL;obtain⟨h3,h4,h5⟩:=h.aC;have h6:=h.aD;rw[FT,CA,Dz];simp only[fq.aF,U1,e,js,Vf,Ve];omega
theorem gi.aM.aF {c:gi}(h:c.aM):c.aN:=⟨⟨by have:=h.aA.1;omega,λe he=>by have:=h.aA.2 e he;omega⟩,h.aC.le (by omega),by have:=h.aD;omega⟩
def iQ (x:fF):jf:=⟨[x],[]⟩
theorem rX.aA {P:Program}{f:FuncId}(hc:rX P f){G:Nat->Prop}{h:eX}{x:fF}{c:gi}{xs cs:List AV}{k:Nat}(ha:fu G h (iQ x).c xs)(E:fu G h c.c cs)(hx:x.aJ k)(hk:k<=130000)(u:c.aM):
  fC P f [.aF xs,.aF cs] h λr h'=>r=.aI [.aF ((iQ x).aC c).1.v,.aA .i64 ((iQ x).aC c).2]/\h'=h:=by
 have e:(kP.aC (iQ x)).length<=2^33:=by
  have e1:=hx.aI;have e2:kP.aC (iQ x)=gO 1++(jX.aC x++[])++gO 0:=by simp[kP,l7,ji,pH,iQ]
  rw[e2];simp only[U1,js,Ve];have:k*65560<=130000*65560:=VU _ hk;omega
 have C:kP.ok (iQ x):=NM ⟨λy hy=>by simp[iQ]at hy;subst hy;exact hx.R,λy hy=>by simp[iQ]at hy⟩ ⟨by simp[iQ],by simp[iQ],λy hy=>by simp[iQ]at hy;subst hy;exact hx.aD (by omega)⟩;have:=hc.2 G h (iQ x) c xs cs ha E C (LJ u.R u.aF) e u.aE (λy hy=>by simp[iQ]at hy;subst hy;exact hx.aF (by omega)) (by have:=u.aA.1;omega) (by simp[iQ]) (by simp[iQ]);exact this.aC λ_ _ ⟨bs,e1,o,X⟩=>⟨X,_,e1▸gU.aC (gU.aA (fI.fz _ (λ_ x=>x) _ o)) (gU.aD _ _),rfl⟩
end Glb
