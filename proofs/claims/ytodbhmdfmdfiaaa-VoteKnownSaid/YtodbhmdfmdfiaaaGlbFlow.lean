/-
  How far a member is: the program's functions and the document's answer so.
-/
import Derived.Test.YtodbhmdfmdfiaaaGlbKitA
import Derived.Test.YtodbhmdfmdfiaaaGlbCflow
import Derived.Test.YtodbhmdfmdfiaaaGlbCgleberef15
import Derived.Test.YtodbhmdfmdfiaaaGlbCglebelaw15
set_option linter.unusedSimpArgs false
set_option linter.unusedVariables false
namespace Glb
open Go
set_option maxRecDepth 10000
set_option maxHeartbeats 4000000

end Glb
