/-
  A library of its own.
-/
import Derived.Test.YtdeiamnhnfmilaaGreatGlbTurA
set_option linter.unusedSimpArgs false
set_option linter.unusedVariables false
set_option maxRecDepth 10000
set_option maxHeartbeats 16000000
namespace Glb
open Go
def h_m (P:Program)(f:FuncId):Prop:=f2_ P f=true/\∀(G:Nat->Prop)(h:a0_)(l:List Int)(b:AV),Rd G h (b3_ l) b->c2_ l->l.length<=2^37->
 a6_ P f [b] h λr h'=>r=.tup [.agg (g5_ l).1.v,.int .i64 (g5_ l).2]/\h'=h
end Glb
