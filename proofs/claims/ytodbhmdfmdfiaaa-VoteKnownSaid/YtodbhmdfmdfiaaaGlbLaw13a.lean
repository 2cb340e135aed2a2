/-
  Behind a change: what the law ImageApart asks of images.
-/
import Derived.Test.YtodbhmdfmdfiaaaGlbLaw13c
set_option linter.unusedSimpArgs false
set_option linter.unusedVariables false
namespace Glb
open Go
set_option maxRecDepth 10000
set_option maxHeartbeats 4000000

/-! votes -/
/-! Hards -/
end Glb
