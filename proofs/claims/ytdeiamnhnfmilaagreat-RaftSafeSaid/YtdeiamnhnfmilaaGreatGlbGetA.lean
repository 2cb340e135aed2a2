/-
  A library of its own.
-/
import Derived.Test.YtdeiamnhnfmilaaGreatGlbTurA
set_option linter.unusedSimpArgs false
set_option linter.unusedVariables false
set_option maxRecDepth 10000
set_option maxHeartbeats 16000000
namespace Glb
open Go
def yG (P:Program)(f:FuncId):Prop:=fK P f=true/\∀(G:Nat->Prop)(h:eX)(l:List Int)(b:AV),Rd G h (gq l) b->gF l->l.length<=2^37->
 fC P f [b] h λr h'=>r=.aI [.aF (im l).1.v,.aA .i64 (im l).2]/\h'=h
end Glb
