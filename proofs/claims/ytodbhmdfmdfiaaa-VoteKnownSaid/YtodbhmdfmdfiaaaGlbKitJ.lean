/-
  Changes held against one another.
-/
import Derived.Test.YtodbhmdfmdfiaaaGlbImgK
import Derived.Test.YtodbhmdfmdfiaaaGlbImgC
import Derived.Test.YtodbhmdfmdfiaaaGlbImgE
set_option linter.unusedSimpArgs false
set_option linter.unusedVariables false
namespace Glb
open Go
set_option maxRecDepth 10000
set_option maxHeartbeats 16000000

end Glb
