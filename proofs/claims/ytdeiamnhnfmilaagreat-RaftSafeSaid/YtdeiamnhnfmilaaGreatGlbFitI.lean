/-
  A library of its own.
-/
import Derived.Test.YtdeiamnhnfmilaaGreatGlbFitA
import Derived.Test.YtdeiamnhnfmilaaGreatGlbFlow
import Derived.Test.YtdeiamnhnfmilaaGreatGlbImgA
set_option linter.unusedSimpArgs false
set_option linter.unusedVariables false
namespace Glb
open Go
def xC (l:List Int):Prop:=∀n∈l,ia n
def fU.R (e:fU):Prop:=ia e.aA/\ia e.aD/\gF e.aC
def fA.R (x:fA):Prop:=ia x.aA/\ia x.aD/\∀e∈x.es,e.R
def fq.R (x:fq):Prop:=xC x.aA/\xC x.aC/\xC x.aD
def fF.R (x:fF):Prop:=ia x.aE/\ia x.aC/\ia x.aF/\x.aA.R/\x.aD.R/\gF x.aG
def hP.R (x:hP):Prop:=ia x.aA/\ia x.aC/\ia x.aE/\ia x.aD/\ia x.aF
def gi.R (x:gi):Prop:=ia x.aC/\ia x.aH/\ia x.aK/\ia x.aL/\ia x.aE/\x.aA.R/\x.aG.R/\gF x.aJ/\x.aD.R
def jf.R (x:jf):Prop:=(∀y∈x.aA,y.R)/\∀y∈x.aD,y.R
theorem Jk {T:Type}{ts:List Ty}{f:T->List D}{R:T->Prop}(hf:∀d,iZ d ts->∃x,d=f x/\R x):∀{es:List (List D)},su es ts->∃l:List T,es=l.map f/\∀x∈l,R x:=by
 intro es;induction es with
 | nil=>intro _;exact⟨[],rfl,by simp⟩
 | cons e es ih=>intro h;simp only[su]at h;obtain⟨x,rfl,hx⟩:=hf e h.1;obtain⟨l,rfl,hl⟩:=ih h.2;exact⟨x :: l,rfl,λy hy=>(VP.1 hy).elim (λe=>e▸hx) (hl y)⟩
end Glb
