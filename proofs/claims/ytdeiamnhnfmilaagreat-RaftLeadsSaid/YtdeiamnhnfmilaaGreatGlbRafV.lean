/-
  A library of its own.
-/
import Derived.Test.YtdeiamnhnfmilaaGreatGlbRafK
set_option linter.unusedSimpArgs false
set_option linter.unusedVariables false
set_option maxRecDepth 10000
set_option maxHeartbeats 8000000
namespace Glb
open Go
theorem Jz {x:fI}(h:x.aF=true):x.R:=by obtain⟨-,⟨-,h2⟩,⟨-,h4⟩,⟨-,h6⟩,-⟩:=xb.1 h;exact⟨λn hn=>by have:=h2 n hn;constructor<;>omega,λn hn=>by have:=h4 n hn;constructor<;>omega,λn hn=>by have:=h6 n hn;constructor<;>omega⟩
structure fP.aJ (k:Nat)(x:fP):Prop where
 R:x.R
 aE:x.aA.es.length<=k
 aH:∀e∈x.aA.es,e.aD.length<=2^16
 aC:x.aD.aH 7
 aG:x.aG.length<=2^16
 aA:0<=x.aA.aA/\x.aA.aA<=2^41
theorem fy.aG.bG {k:Nat}{x:fy}(h:x.aG k)(hk:k<=2^40):x.aA.aJ k:=
 ⟨⟨h.aO.1,⟨by have:=h.aG;omega,by have:=h.aG;omega⟩,h.aO.2.1,⟨⟨by have:=h.aD;omega,by have:=h.aD;omega⟩,h.aO.2.2,λe he=>⟨(h.aI e he).2.1,(h.aI e he).2.2,(h.aI e he).1.1⟩⟩,Jz h.aH,h.aU.1⟩,h.aF,λe he=>(h.aI e he).1.2,nE h.aH,h.aU.2,by have:=h.aD;omega⟩
theorem HB {k:Nat}{l:List gw}(h1:l.length<=k)(h2:∀e∈l,e.aD.length<=2^16):(l.flatMap lL.aC).length<=k*65560:=by have h4:=HJ lL.aC 65560 l (λe he=>by have:=h2 e he;rw[HC];simp only[WT,jO];omega);exact Xg h4 (XZ _ h1)
theorem fP.aJ.aI {k:Nat}{x:fP}(h:x.aJ k):(kO.aC x).length<=k*65560+70000:=by have h7:=HB h.aE h.aH;have e:=mK;obtain⟨h3,h4,h5⟩:=h.aC;have h6:=h.aG;rw[HT,D6];simp only[fI.aG,WT,e,jO,Xf,Xi];omega
theorem fP.aJ.aD {k:Nat}{x:fP}(h:x.aJ k)(hk:k<=2^20):x.aN:=⟨⟨by have:=h.aE;omega,λe he=>by have:=h.aH e he;omega⟩,h.aC.le ω,by have:=h.aG;omega⟩
theorem fP.aJ.aF {k:Nat}{x:fP}(h:x.aJ k)(hk:k<=2^20):kh x.aA:=⟨h.aA.1,by have:=h.aA.2;omega,(h.aD hk).1⟩
structure gE.aM (c:gE):Prop where
 R:c.R
 aA:c.aA.es.length<=2^12/\∀e∈c.aA.es,e.aD.length<=2^16
 aC:c.aG.aH 7
 aD:c.aJ.length<=2^16
theorem gE.aM.aE {c:gE}(h:c.aM):(lQ.aC c).length<=2^33:=by have h7:=HB h.aA.1 h.aA.2;have e:=mK;obtain⟨h3,h4,h5⟩:=h.aC;have h6:=h.aD;rw[Hq,D6,E7];simp only[fI.aG,WT,e,jO,Xf,Xi];omega
theorem gE.aM.aF {c:gE}(h:c.aM):c.aN:=⟨⟨by have:=h.aA.1;omega,λe he=>by have:=h.aA.2 e he;omega⟩,h.aC.le ω,by have:=h.aD;omega⟩
def ji (x:fP):jH:=⟨[x],[]⟩
theorem tR.aA {P:Program}{f:FuncId}(hc:tR P f){G:Nat->Prop}{h:fu}{x:fP}{c:gE}{xs cs:List AV}{k:Nat}(ha:fH G h (ji x).c xs)(I:fH G h c.c cs)(hx:x.aJ k)(hk:k<=130000)(u:c.aM):
  fO P f [.aF xs,.aF cs] h λr h'=>r=.aI [.aF ((ji x).aC c).1.v,ι ((ji x).aC c).2]/\h'=h:=by
 have e:(l7.aC (ji x)).length<=2^33:=by
  have e1:=hx.aI;have e2:l7.aC (ji x)=gW 1++(kO.aC x++[])++gW 0:=by simp[l7,mY,jI,qF,ji]
  rw[e2];simp only[WT,jO,Xi];have:k*65560<=130000*65560:=XZ _ hk;omega
 have E:l7.ok (ji x):=Pw ⟨λy hy=>by simp[ji]at hy;subst hy;exact hx.R,λy hy=>by simp[ji]at hy⟩ ⟨by simp[ji],by simp[ji],λy hy=>by simp[ji]at hy;subst hy;exact hx.aD ω⟩;have:=hc.2 G h (ji x) c xs cs ha I E (ND u.R u.aF) e u.aE (λy hy=>by simp[ji]at hy;subst hy;exact hx.aF ω) (by have:=u.aA.1;omega) (by simp[ji]) (by simp[ji]);exact this.aC λ_ _ ⟨bs,e1,o,X⟩=>⟨X,_,e1▸iu.aD (iu.aA (fU.fz _ (λ_ x=>x) _ o)) (iu.aC _ _),rfl⟩
end Glb
