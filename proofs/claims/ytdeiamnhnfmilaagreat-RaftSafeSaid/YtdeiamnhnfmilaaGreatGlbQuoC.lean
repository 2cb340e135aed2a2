/-
  A library of its own.
-/
import Derived.Test.YtdeiamnhnfmilaaGreatGlbQuoB
set_option linter.unusedSimpArgs false
set_option linter.unusedVariables false
set_option maxRecDepth 10000
set_option maxHeartbeats 8000000
namespace Glb
open Go
theorem rW {x:fq}{a:List Int}(h:x.aH a=true):lK x.aA a=true:=by simp only[fq.aH,Vq]at h;exact h.1
theorem UP {x:fq}{a:List Int}(h:x.aH a=true) (hn:x.aC≠[]):lK x.aC a=true:=by simp only[fq.aH,Vq,We,VD]at h;exact h.2.resolve_left λe=>hn (U7 e)
theorem qq {x:fq}{n:Int}:n∈x.aK↔n∈x.aA\/n∈x.aC:=by rw[fq.aK,(Dt _).2,VK]
end Glb
