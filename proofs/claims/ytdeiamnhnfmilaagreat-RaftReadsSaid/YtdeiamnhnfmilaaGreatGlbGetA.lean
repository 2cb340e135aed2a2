/-
  A library of its own.
-/
import Derived.Test.YtdeiamnhnfmilaaGreatGlbTurA
set_option linter.unusedSimpArgs false
set_option linter.unusedVariables false
set_option maxRecDepth 10000
set_option maxHeartbeats 16000000
namespace Glb
open Go
def yx (P:Program)(f:FuncId):Prop:=fP P f=true/\∀(G:Nat->Prop)(h:eW)(l:List Int)(b:AV),Rd G h (gj l) b->gI l->l.length<=2^37->
 fC P f [b] h λr h'=>r=.aI [.aF (ie l).1.v,.aA .i64 (ie l).2]/\h'=h
end Glb
