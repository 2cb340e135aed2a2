/-
  A library of its own.
-/
import Derived.Test.YtdeiamnhnfmilaaGreatGlbRafK
set_option linter.unusedSimpArgs false
set_option linter.unusedVariables false
set_option maxRecDepth 10000
set_option maxHeartbeats 8000000
namespace Glb
open Go
theorem Hl {x:fq}(h:x.aE=true):x.R:=by obtain⟨-,⟨-,h2⟩,⟨-,h4⟩,⟨-,h6⟩,-⟩:=vz.1 h;exact⟨λn hn=>by have:=h2 n hn;constructor<;>omega,λn hn=>by have:=h4 n hn;constructor<;>omega,λn hn=>by have:=h6 n hn;constructor<;>omega⟩
structure fF.aJ (k:Nat)(x:fF):Prop where
 R:x.R
 aE:x.aA.es.length<=k
 aH:∀e∈x.aA.es,e.aC.length<=2^16
 aC:x.aD.aH 7
 aG:x.aG.length<=2^16
 aA:0<=x.aA.aA/\x.aA.aA<=2^41
theorem eZ.aD.bE {k:Nat}{x:eZ}(h:x.aD k)(hk:k<=2^40):x.aA.aJ k:=
 ⟨⟨h.aO.1,⟨by have:=h.aF;omega,by have:=h.aF;omega⟩,h.aO.2.1,⟨⟨by have:=h.aD;omega,by have:=h.aD;omega⟩,h.aO.2.2,λe he=>⟨(h.aI e he).2.1,(h.aI e he).2.2,(h.aI e he).1.1⟩⟩,Hl h.aH,h.aU.1⟩,h.aL,λe he=>(h.aI e he).1.2,mI h.aH,h.aU.2,by have:=h.aD;omega⟩
theorem Fo {k:Nat}{l:List fT}(h1:l.length<=k)(h2:∀e∈l,e.aC.length<=2^16):(l.flatMap kK.aC).length<=k*65560:=by have h4:=Fx kK.aC 65560 l (λe he=>by have:=h2 e he;rw[Fp];simp only[Ut,jr];omega);exact UH h4 (Vi _ h1)
theorem fF.aJ.aI {k:Nat}{x:fF}(h:x.aJ k):(jW.aC x).length<=k*65560+70000:=by have h7:=Fo h.aE h.aH;have e:=lU;obtain⟨h3,h4,h5⟩:=h.aC;have h6:=h.aG;rw[FH,Cb];simp only[fq.aG,Ut,e,jr,UG,UJ];omega
theorem fF.aJ.aD {k:Nat}{x:fF}(h:x.aJ k)(hk:k<=2^20):x.aN:=⟨⟨by have:=h.aE;omega,λe he=>by have:=h.aH e he;omega⟩,h.aC.le (by omega),by have:=h.aG;omega⟩
theorem fF.aJ.aF {k:Nat}{x:fF}(h:x.aJ k)(hk:k<=2^20):jH x.aA:=⟨h.aA.1,by have:=h.aA.2;omega,(h.aD hk).1⟩
structure fZ.aM (c:fZ):Prop where
 R:c.R
 aA:c.aA.es.length<=2^12/\∀e∈c.aA.es,e.aC.length<=2^16
 aC:c.aG.aH 7
 aD:c.aJ.length<=2^16
theorem fZ.aM.aE {c:fZ}(h:c.aM):(kP.aC c).length<=2^33:=by have h7:=Fo h.aA.1 h.aA.2;have e:=lU;obtain⟨h3,h4,h5⟩:=h.aC;have h6:=h.aD;rw[Fa,Cb,CW];simp only[fq.aG,Ut,e,jr,UG,UJ];omega
theorem fZ.aM.aF {c:fZ}(h:c.aM):c.aN:=⟨⟨by have:=h.aA.1;omega,λe he=>by have:=h.aA.2 e he;omega⟩,h.aC.le (by omega),by have:=h.aD;omega⟩
def iW (x:fF):jo:=⟨[x],[]⟩
theorem r9.aA {P:Program}{f:FuncId}(hc:r9 P f){G:Nat->Prop}{h:eW}{x:fF}{c:fZ}{xs cs:List AV}{k:Nat}(ha:fm G h (iW x).c xs)(I:fm G h c.c cs)(hx:x.aJ k)(hk:k<=130000)(u:c.aM):
  fC P f [.aF xs,.aF cs] h λr h'=>r=.aI [.aF ((iW x).aC c).1.v,.aA .i64 ((iW x).aC c).2]/\h'=h:=by
 have e:(kV.aC (iW x)).length<=2^33:=by
  have e1:=hx.aI;have e2:kV.aC (iW x)=gJ 1++(jW.aC x++[])++gJ 0:=by simp[kV,mq,ji,pK,iW]
  rw[e2];simp only[Ut,jr,UJ];have:k*65560<=130000*65560:=Vi _ hk;omega
 have E:kV.ok (iW x):=MX ⟨λy hy=>by simp[iW]at hy;subst hy;exact hx.R,λy hy=>by simp[iW]at hy⟩ ⟨by simp[iW],by simp[iW],λy hy=>by simp[iW]at hy;subst hy;exact hx.aD (by omega)⟩;have:=hc.2 G h (iW x) c xs cs ha I E (K7 u.R u.aF) e u.aE (λy hy=>by simp[iW]at hy;subst hy;exact hx.aF (by omega)) (by have:=u.aA.1;omega) (by simp[iW]) (by simp[iW]);exact this.aC λ_ _ ⟨bs,e1,o,X⟩=>⟨X,_,e1▸gY.aD (gY.aA (fI.fz _ (λ_ x=>x) _ o)) (gY.aC _ _),rfl⟩
end Glb
