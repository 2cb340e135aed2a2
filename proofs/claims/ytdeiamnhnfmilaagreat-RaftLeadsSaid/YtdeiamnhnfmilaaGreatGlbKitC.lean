/-
  A library of its own.
-/
import Derived.Test.YtdeiamnhnfmilaaGreatGlbImgK
import Derived.Test.YtdeiamnhnfmilaaGreatGlbImgE
import Derived.Test.YtdeiamnhnfmilaaGreatGlbFitI
set_option linter.unusedSimpArgs false
set_option linter.unusedVariables false
set_option maxRecDepth 10000
set_option maxHeartbeats 16000000
namespace Glb
open Go
def gE.aN (x:gE):Prop:=mS x.aA.es/\x.aG.aH (2^40)/\x.aJ.length<=2^40
theorem tA {n m:Nat}(h:n<=m)(hm:m<=9223372036854775807:=by decide):n<=9223372036854775807:=Xg h hm
theorem Om {e:gw}(h:e.R)(hl:e.aD.length<=2^40):lL.ok e:=⟨h.1,h.2.1,tA hl,h.2.2⟩
theorem Iz {x:fG}(h:x.R)(hl:mS x.es):kW.ok x:=⟨h.1,h.2.1,tA hl.1,λe he=>Om (h.2.2 e he) (hl.2 e he)⟩
theorem DN {l:List Int}(h:y0 l)(hl:l.length<=2^40):uR.ok l:=⟨tA hl,h⟩
theorem Hv {x:fI}(h:x.R)(hl:x.aH (2^40)):jz.ok x:=⟨DN h.1 hl.1,DN h.2.1 hl.2.1,DN h.2.2 hl.2.2⟩
theorem Ke {x:im}(h:x.R):j_.ok x:=h
theorem O8 {x:fP}(h:x.R)(hl:x.aN):kO.ok x:=⟨h.1,h.2.1,h.2.2.1,Iz h.2.2.2.1 hl.1,Hv h.2.2.2.2.1 hl.2.1,tA hl.2.2,h.2.2.2.2.2⟩
theorem ND {x:gE}(h:x.R)(hl:x.aN):lQ.ok x:=⟨h.1,h.2.1,h.2.2.1,h.2.2.2.1,h.2.2.2.2.1,Iz h.2.2.2.2.2.1 hl.1,Hv h.2.2.2.2.2.2.1 hl.2.1,⟨tA hl.2.2,h.2.2.2.2.2.2.2.1⟩,Ke h.2.2.2.2.2.2.2.2⟩
theorem Pw {x:jH}(h:x.R)(hl:x.aE):l7.ok x:=⟨⟨tA hl.1,λy hy=>O8 (h.1 y hy) (hl.2.2 y hy)⟩,⟨tA hl.2.1,λy hy=>Ke (h.2 y hy)⟩⟩
end Glb
