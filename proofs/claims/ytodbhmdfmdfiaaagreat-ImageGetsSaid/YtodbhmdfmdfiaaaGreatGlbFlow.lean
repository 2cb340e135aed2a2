/-
  How far a member is: the program's functions and the document's answer so.
-/
import Derived.Test.YtodbhmdfmdfiaaaGreatGlbKitA
import Derived.Test.YtodbhmdfmdfiaaaGreatGlbCflow
import Derived.Test.YtodbhmdfmdfiaaaGreatGlbCgleberef15
import Derived.Test.YtodbhmdfmdfiaaaGreatGlbCglebelaw15
set_option linter.unusedSimpArgs false
set_option linter.unusedVariables false
namespace Glb
open Go
set_option maxRecDepth 10000
set_option maxHeartbeats 4000000

end Glb
