/-
  The sizes of changes; ranges and codecs.
-/
import Derived.Test.YtodbhmdfmdfiaaaGlbImgK
import Derived.Test.YtodbhmdfmdfiaaaGlbKitJ
import Derived.Test.YtodbhmdfmdfiaaaGlbFitI
set_option linter.unusedSimpArgs false
set_option linter.unusedVariables false
namespace Glb
open Go
set_option maxRecDepth 10000
set_option maxHeartbeats 8000000

/-! in range: of what the codecs write -/
end Glb
