/-
  Images and changes are read from their bytes as they were: the law ImageBack.
-/
import Derived.Test.YtodbhmdfmdfiaaaGreatGlbLaw13c
import Derived.Test.YtodbhmdfmdfiaaaGreatGlbImgX
import Derived.Test.YtodbhmdfmdfiaaaGreatGlbQuoA
set_option linter.unusedSimpArgs false
set_option linter.unusedVariables false
namespace Glb
open Go
set_option maxRecDepth 10000
set_option maxHeartbeats 16000000

/-! what is read, as it stands -/
end Glb
