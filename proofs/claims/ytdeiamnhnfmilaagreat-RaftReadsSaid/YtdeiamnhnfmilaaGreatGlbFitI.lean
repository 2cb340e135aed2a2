/-
  A library of its own.
-/
import Derived.Test.YtdeiamnhnfmilaaGreatGlbFitA
import Derived.Test.YtdeiamnhnfmilaaGreatGlbFlow
import Derived.Test.YtdeiamnhnfmilaaGreatGlbImgA
set_option linter.unusedSimpArgs false
set_option linter.unusedVariables false
namespace Glb
open Go
def xk (l:List Int):Prop:=∀n∈l,hU n
def fT.R (e:fT):Prop:=hU e.aA/\hU e.aD/\gI e.aC
def fu.R (x:fu):Prop:=hU x.aA/\hU x.aD/\∀e∈x.es,e.R
def fq.R (x:fq):Prop:=xk x.aA/\xk x.aC/\xk x.aD
def fF.R (x:fF):Prop:=hU x.aE/\hU x.aC/\hU x.aF/\x.aA.R/\x.aD.R/\gI x.aG
def gX.R (x:gX):Prop:=hU x.aA/\hU x.aC/\hU x.aE/\hU x.aD/\hU x.aF
def fZ.R (x:fZ):Prop:=hU x.aC/\hU x.aH/\hU x.aK/\hU x.aL/\hU x.aE/\x.aA.R/\x.aG.R/\gI x.aJ/\x.aD.R
def jo.R (x:jo):Prop:=(∀y∈x.aA,y.R)/\∀y∈x.aD,y.R
theorem Ix {T:Type}{ts:List Ty}{f:T->List D}{R:T->Prop}(hf:∀d,iY d ts->∃x,d=f x/\R x):∀{es:List (List D)},sw es ts->∃l:List T,es=l.map f/\∀x∈l,R x:=by
 intro es;induction es with
 | nil=>intro _;exact⟨[],rfl,by simp⟩
 | cons e es ih=>intro h;simp only[sw]at h;obtain⟨x,rfl,hx⟩:=hf e h.1;obtain⟨l,rfl,hl⟩:=ih h.2;exact⟨x :: l,rfl,λy hy=>(Vg.1 hy).elim (λe=>e▸hx) (hl y)⟩
end Glb
