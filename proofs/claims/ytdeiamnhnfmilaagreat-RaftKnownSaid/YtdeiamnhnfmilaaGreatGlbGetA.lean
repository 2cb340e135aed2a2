/-
  A library of its own: its parts, one behind the other.
-/
import Derived.Test.YtdeiamnhnfmilaaGreatGlbTurA
import Derived.Test.YtdeiamnhnfmilaaGreatGlbImgB
import Derived.Test.YtdeiamnhnfmilaaGreatGlbImgD
set_option linter.unusedSimpArgs false
set_option linter.unusedVariables false
namespace Glb
open Go
set_option maxRecDepth 10000
set_option maxHeartbeats 16000000
end Glb
namespace Glb
open Go
set_option maxRecDepth 10000
set_option maxHeartbeats 16000000
end Glb
namespace Glb
open Go
set_option maxRecDepth 10000
set_option maxHeartbeats 16000000
end Glb
namespace Glb
open Go
set_option maxRecDepth 10000
set_option maxHeartbeats 16000000
end Glb
namespace Glb
open Go
set_option maxRecDepth 10000
set_option maxHeartbeats 16000000
def GetConfP (P : Program) (f : FuncId) : Prop := isFn P f = true /\ ∀ (G : Nat -> Prop) (h : AHeap) (l : List Int) (b : AV), Rd G h (dBytes l) b -> bytesOk l -> l.length <= 2^37 ->
 ACalls P f [b] h fun r h' => r = .tup [.agg (getConf l).1.v, .int .i64 (getConf l).2] /\ h' = h
end Glb
