/-
  A library of its own.
-/
import Derived.Test.YtdeiamnhnfmilaaGreatGlbSafB
set_option linter.unusedSimpArgs false
set_option linter.unusedVariables false
set_option maxRecDepth 10000
namespace Glb
open Go
section
variable {C:fI} {T N R:Int} {S:List Int} {x y:RX} {m:fF}
theorem U4 {l:fG}{a b:Int}{e:gw}(h:e∈l.aH a b):e∈l.es:=by
 unfold fG.aH at h;split at h;·cases h
 ·exact Xw (XQ h)
theorem Qh {l:fG}{p:Int}{es:List gw}{e:gw}(h:e∈(l.aE p es).es):e∈l.es\/e∈es:=by
 unfold fG.aE at h;split at h
 ·rcases Xe.1 h with z | z;·exact .inl (XQ z)
  ·exact .inr (Xw z)
 ·exact .inl h
theorem Qf (l:fG)(p:Int)(es:List gw):(l.aE p es).aA=l.aA:=by unfold fG.aE;split<;>rfl
theorem Ee {x:fP}(h:∀e∈x.aA.es,e.aC≠2):∀k,k<=x.aA.es.length->(x.aK k).1=x.aD
 | 0,_=>rfl
 | k+1,hk=>by rw[fP.aS hk,WY (λz=>h _ (Xq hk) z.1)];exact Ee h k ω
end
end Glb
