/-
  A library of its own.
-/
import Derived.Test.YtdeiamnhnfmilaaGreatGlbTurA
set_option linter.unusedSimpArgs false
set_option linter.unusedVariables false
set_option maxRecDepth 10000
set_option maxHeartbeats 16000000
namespace Glb
open Go
def Am (P:Program)(f:FuncId):Prop:=fZ P f=true/\∀(G:Nat->Prop)(h:fu)(l:List Int)(b:AV),Rd G h (gG l) b->gT l->l.length<=2^37->
 fO P f [b] h λr h'=>r=.aI [.aF (iG l).1.v,.aD .i64 (iG l).2]/\h'=h
end Glb
