/-
  A library of its own.
-/
import Derived.Test.YtdeiamnhnfmilaaGreatGlbImgK
import Derived.Test.YtdeiamnhnfmilaaGreatGlbImgE
import Derived.Test.YtdeiamnhnfmilaaGreatGlbFitI
set_option linter.unusedSimpArgs false
set_option linter.unusedVariables false
set_option maxRecDepth 10000
set_option maxHeartbeats 16000000
namespace Glb
open Go
def fZ.aN (x:fZ):Prop:=me x.aA.es/\x.aG.aH (2^40)/\x.aJ.length<=2^40
theorem rJ {n m:Nat}(h:n<=m)(hm:m<=9223372036854775807:=by decide):n<=9223372036854775807:=UH h hm
theorem LQ {e:fT}(h:e.R)(hl:e.aC.length<=2^40):kK.ok e:=⟨h.1,h.2.1,rJ hl,h.2.2⟩
theorem F9 {x:fu}(h:x.R)(hl:me x.es):kq.ok x:=⟨h.1,h.2.1,rJ hl.1,λe he=>LQ (h.2.2 e he) (hl.2 e he)⟩
theorem BW {l:List Int}(h:xk l)(hl:l.length<=2^40):tA.ok l:=⟨rJ hl,h⟩
theorem Fg {x:fq}(h:x.R)(hl:x.aH (2^40)):iS.ok x:=⟨BW h.1 hl.1,BW h.2.1 hl.2.1,BW h.2.2 hl.2.2⟩
theorem HU {x:gX}(h:x.R):jE.ok x:=h
theorem MA {x:fF}(h:x.R)(hl:x.aN):jW.ok x:=⟨h.1,h.2.1,h.2.2.1,F9 h.2.2.2.1 hl.1,Fg h.2.2.2.2.1 hl.2.1,rJ hl.2.2,h.2.2.2.2.2⟩
theorem K7 {x:fZ}(h:x.R)(hl:x.aN):kP.ok x:=⟨h.1,h.2.1,h.2.2.1,h.2.2.2.1,h.2.2.2.2.1,F9 h.2.2.2.2.2.1 hl.1,Fg h.2.2.2.2.2.2.1 hl.2.1,⟨rJ hl.2.2,h.2.2.2.2.2.2.2.1⟩,HU h.2.2.2.2.2.2.2.2⟩
theorem MX {x:jo}(h:x.R)(hl:x.aE):kV.ok x:=⟨⟨rJ hl.1,λy hy=>MA (h.1 y hy) (hl.2.2 y hy)⟩,⟨rJ hl.2.1,λy hy=>HU (h.2 y hy)⟩⟩
end Glb
