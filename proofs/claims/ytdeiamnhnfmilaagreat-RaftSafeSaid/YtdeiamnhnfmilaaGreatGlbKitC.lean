/-
  A library of its own.
-/
import Derived.Test.YtdeiamnhnfmilaaGreatGlbImgK
import Derived.Test.YtdeiamnhnfmilaaGreatGlbImgE
import Derived.Test.YtdeiamnhnfmilaaGreatGlbFitI
set_option linter.unusedSimpArgs false
set_option linter.unusedVariables false
set_option maxRecDepth 10000
set_option maxHeartbeats 16000000
namespace Glb
open Go
def gi.aN (x:gi):Prop:=lU x.aA.es/\x.aG.aG (2^40)/\x.aJ.length<=2^40
theorem rJ {n m:Nat}(h:n<=m)(hm:m<=9223372036854775807:=by decide):n<=9223372036854775807:=Vh h hm
theorem Mx {e:fU}(h:e.R)(hl:e.aC.length<=2^40):kx.ok e:=⟨h.1,h.2.1,rJ hl,h.2.2⟩
theorem G4 {x:fA}(h:x.R)(hl:lU x.es):kj.ok x:=⟨h.1,h.2.1,rJ hl.1,λe he=>Mx (h.2.2 e he) (hl.2 e he)⟩
theorem Cs {l:List Int}(h:xC l)(hl:l.length<=2^40):tA.ok l:=⟨rJ hl,h⟩
theorem FY {x:fq}(h:x.R)(hl:x.aG (2^40)):iV.ok x:=⟨Cs h.1 hl.1,Cs h.2.1 hl.2.1,Cs h.2.2 hl.2.2⟩
theorem IQ {x:hP}(h:x.R):jI.ok x:=h
theorem Np {x:fF}(h:x.R)(hl:x.aP):jX.ok x:=⟨h.1,h.2.1,h.2.2.1,G4 h.2.2.2.1 hl.1,FY h.2.2.2.2.1 hl.2.1,rJ hl.2.2,h.2.2.2.2.2⟩
theorem LJ {x:gi}(h:x.R)(hl:x.aN):kE.ok x:=⟨h.1,h.2.1,h.2.2.1,h.2.2.2.1,h.2.2.2.2.1,G4 h.2.2.2.2.2.1 hl.1,FY h.2.2.2.2.2.2.1 hl.2.1,⟨rJ hl.2.2,h.2.2.2.2.2.2.2.1⟩,IQ h.2.2.2.2.2.2.2.2⟩
theorem NM {x:jf}(h:x.R)(hl:x.aE):kP.ok x:=⟨⟨rJ hl.1,λy hy=>Np (h.1 y hy) (hl.2.2 y hy)⟩,⟨rJ hl.2.1,λy hy=>IQ (h.2 y hy)⟩⟩
end Glb
