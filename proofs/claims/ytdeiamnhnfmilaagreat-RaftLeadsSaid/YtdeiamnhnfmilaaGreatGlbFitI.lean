/-
  A library of its own.
-/
import Derived.Test.YtdeiamnhnfmilaaGreatGlbFitA
import Derived.Test.YtdeiamnhnfmilaaGreatGlbFlow
import Derived.Test.YtdeiamnhnfmilaaGreatGlbImgA
set_option linter.unusedSimpArgs false
set_option linter.unusedVariables false
namespace Glb
open Go
def y0 (l:List Int):Prop:=∀n∈l,iA n
def gw.R (e:gw):Prop:=iA e.aA/\iA e.aC/\gT e.aD
def fG.R (x:fG):Prop:=iA x.aA/\iA x.aD/\∀e∈x.es,e.R
def fI.R (x:fI):Prop:=y0 x.aA/\y0 x.aC/\y0 x.aD
def fP.R (x:fP):Prop:=iA x.aE/\iA x.aC/\iA x.aF/\x.aA.R/\x.aD.R/\gT x.aG
def im.R (x:im):Prop:=iA x.aA/\iA x.aC/\iA x.aE/\iA x.aD/\iA x.aF
def gE.R (x:gE):Prop:=iA x.aC/\iA x.aH/\iA x.aK/\iA x.aL/\iA x.aE/\x.aA.R/\x.aG.R/\gT x.aJ/\x.aD.R
def jH.R (x:jH):Prop:=(∀y∈x.aA,y.R)/\∀y∈x.aD,y.R
theorem KH {T:Type}{ts:List Ty}{f:T->List D}{R:T->Prop}(hf:∀d,jF d ts->∃x,d=f x/\R x):∀{es:List (List D)},tY es ts->∃l:List T,es=l.map f/\∀x∈l,R x:=by
 intro es;induction es with
 | nil=>intro _;exact⟨[],rfl,ς⟩
 | cons e es ih=>intro h;simp only[tY]at h;obtain⟨x,rfl,hx⟩:=hf e h.1;obtain⟨l,rfl,hl⟩:=ih h.2;exact⟨x :: l,rfl,λy hy=>(XC.1 hy).elim (λe=>e▸hx) (hl y)⟩
end Glb
